/- Written by this session's own program (wip/xprint, which runs over the kit's print): what the functions that the law reaches come to, each proved; and the law's row. Conditions: none. -/
import Derived.Test.YtabpgiebhgkfhaaUFnIssuersSq
import Derived.Test.YtabpgiebhgkfhaaUFnIssuersx0
namespace Go.Proofs.Ytabpgiebhgkfhaa.XFnIssuers
open Go.RowKit Go.Proofs.YtabpgiebhgkfhaaW.PrintWords Go.Proofs.YtabpgiebhgkfhaaW.PrintLast Go.Proofs.YtabpgiebhgkfhaaW.PrintMore Go.Proofs.YtabpgiebhgkfhaaSq
attribute [local go_sem] max2_int min2_int max_two min_two max_three min_three max_four min_four   -- for this text's walks alone
set_option linter.unusedVariables false
set_option linter.unusedSimpArgs false

-- NOT PRINTED: function 87 (impl_Issuer)

/-! ### impl_FindIssuer: function 43 -/
/-- The first index of l at which p, or -1. -/
def impl_FindIssuer.idx (p : S48 → Bool) (l : List S48) : Int := ((List.range l.length).find? fun i => p (l.getD i z48)).elim (-1) fun i => (i : Int)
theorem impl_FindIssuer.idx_hit (p : S48 → Bool) (l : List S48) (i : Nat) (hi : i < l.length) (hp : p (l.getD i z48) = true) (hn : ∀ j, j < i → p (l.getD j z48) = false) : impl_FindIssuer.idx p l = (i : Int) := by
 have hf : ((List.range l.length).find? fun i => p (l.getD i z48)) = some i := by
  rw [List.find?_range_eq_some]
  exact ⟨hp, by simpa using hi, fun j hj => by simpa using hn j hj⟩
 unfold impl_FindIssuer.idx
 rw [hf]
 rfl
theorem impl_FindIssuer.idx_miss (p : S48 → Bool) (l : List S48) (hn : ∀ j, j < l.length → p (l.getD j z48) = false) : impl_FindIssuer.idx p l = -1 := by
 have hf : ((List.range l.length).find? fun i => p (l.getD i z48)) = none := by
  rw [List.find?_eq_none]
  intro x hx
  have := hn x (by simpa using hx)
  simpa using this
 unfold impl_FindIssuer.idx
 rw [hf]
 rfl
theorem impl_FindIssuer.idx_cases (p : S48 → Bool) (l : List S48) : impl_FindIssuer.idx p l = -1 ∨ ∃ i : Nat, i < l.length ∧ impl_FindIssuer.idx p l = (i : Int) := by
 unfold impl_FindIssuer.idx
 cases hf : (List.range l.length).find? fun i => p (l.getD i z48) with
 | none => exact .inl rfl
 | some i =>
  rw [List.find?_range_eq_some] at hf
  exact .inr ⟨i, by simpa using hf.2.1, rfl⟩
def impl_FindIssuer.out (id : Int) (x : S48) : Bool := x.f0 == id
set_option maxRecDepth 100000 in
set_option maxHeartbeats 1000000 in
theorem impl_FindIssuer.closure (A1 : Option Addr) (q1 : Nat) (x : S48) (id : Int) (B1 : Nat) (W : World) (h1 : W.cell? ⟨B1, 0, none⟩ = some (.int .i64 id)) :
  Calls Try.prog 88 #[.agg #[.int .i64 x.f0, .slice A1 x.f1.length q1, .int .i64 x.f2], .pointer (some ⟨B1, 0, none⟩)] W fun e w' => e = .returned (.bool (impl_FindIssuer.out id x)) ∧ Below W.heap.size W w' := by
 have hu := Try.underlying48
 have hb := World.block_lt_of_cell? W _ h1
 have hne : B1 ≠ W.heap.size := by have hb' : B1 < W.heap.size := hb; omega
 have hb1 : B1 < W.heap.size := hb
 clear hb
 unfold impl_FindIssuer.out
 go_enter Try.func88, Try.ntmps88
 go_wp2
 go_ret
 exact ⟨rfl, (Below.refl _ _).alloc (Nat.le_refl _) _⟩
set_option maxRecDepth 100000 in
set_option maxHeartbeats 4000000 in
theorem impl_FindIssuer.indexFunc (A : Option Addr) (c : Nat) (l : List S48) (id : Int) (B1 : Nat) (w : World) (hr : Kd.C k48 w A l.length l) (h1 : w.cell? ⟨B1, 0, none⟩ = some (.int .i64 id))  :
  Calls Try.prog 87 #[.slice A l.length c, .func (.func 88) #[] #[.pointer (some ⟨B1, 0, none⟩)]] w fun e w' => e = .returned (.int .i64 (impl_FindIssuer.idx (impl_FindIssuer.out id) l)) ∧ Below w.heap.size w w' := by
 have hu := Try.underlying48
 have hb1 := World.block_lt_of_cell? w _ h1
 have HR := As_.mk hr
 have hmax : l.length ≤ 9223372036854775807 := Kd.C_max hr
 clear hr
 have H1 := As_.mk h1
 clear h1
 have HB1 := As_.mk hb1
 clear hb1
 go_enter Try.func87, Try.ntmps87
 go_wp2
 go_loopg [5, 8] l.length (fun gg _ s8 wr => ∃ kk : Nat, kk ≤ l.length ∧ l.length - kk ≤ gg ∧ s8 = .int .i64 kk ∧ As_ (Below w.heap.size w wr) ∧ As_ (∀ j, j < kk → impl_FindIssuer.out id (l.getD j z48) = false))
 case atStart => exact ⟨0, Nat.zero_le _, by omega, rfl, ⟨Below.refl _ w⟩, ⟨fun j hj => absurd hj (Nat.not_lt_zero _)⟩⟩
 case round =>
  obtain ⟨kk, hkk, hg, rfl, BW, AA⟩ := hrel
  by_cases hlt : kk < l.length
  ·have hltz : (kk : Int) < (l.length : Int) := by omega
   obtain ⟨ad, A1, q1, e, hx0, hx1, hx2, hl1, hC1⟩ := at_T48 HR.out (kk : Int) (by omega) hltz
   subst e
   replace hx0 := (BW.out.cell (World.block_lt_of_cell? w _ hx0)).trans hx0
   replace hx1 := (BW.out.cell (World.block_lt_of_cell? w _ hx1)).trans hx1
   replace hx2 := (BW.out.cell (World.block_lt_of_cell? w _ hx2)).trans hx2
   simp only [Int.toNat_natCast] at hx0 hx1 hx2
   have hcall := impl_FindIssuer.closure A1 q1 (rd_T48 l (kk : Int)) id B1 wr ((BW.out.cell (p := ⟨B1, 0, none⟩) HB1.out).trans H1.out) 
   have hrd : rd_T48 l (kk : Int) = l.getD kk z48 := by unfold rd_T48; rw [Int.toNat_natCast]
   generalize hy : rd_T48 l (kk : Int) = y at hx0 hx1 hx2 hcall hrd hC1
   clear hy
   have HY := As_.mk hrd
   clear hrd
   cases hq : impl_FindIssuer.out id y with
   | true =>
    rw [hq] at hcall
    have HQ := As_.mk hq
    clear hq
    go_wp2_with (first | (go_at_call 88; refine hcall.mono ?_; rintro e w' ⟨rfl, hb'⟩))
    go_ret
    exact ⟨by rw [impl_FindIssuer.idx_hit (impl_FindIssuer.out id) l kk hlt (by rw [← HY.out]; exact HQ.out) AA.out]; rfl, below_then BW.out BW.out.size hb'⟩
   | false =>
    rw [hq] at hcall
    have HQ := As_.mk hq
    clear hq
    go_wp2_with (first | (go_at_call 88; refine hcall.mono ?_; rintro e w' ⟨rfl, hb'⟩))
    go_roundg (l.length - (kk + 1))
    case measure => omega
    case rel =>
     refine ⟨kk + 1, by omega, by omega, by go_num, ⟨below_then BW.out BW.out.size hb'⟩, ⟨fun j hj => ?_⟩⟩
     rcases Nat.lt_succ_iff_lt_or_eq.1 hj with hj | rfl
     ·exact AA.out j hj
     ·rw [← HY.out]; exact HQ.out
  ·have hltz : ¬ (kk : Int) < (l.length : Int) := by omega
   obtain rfl : kk = l.length := by omega
   go_wp2
   go_ret
   exact ⟨by rw [impl_FindIssuer.idx_miss (impl_FindIssuer.out id) l AA.out]; rfl, BW.out⟩
/-- The place of the issuer of an id, or -1. -/
def impl_FindIssuer.f (l0 : List (S48)) (a1 : Int) : Option (Int) := some (impl_FindIssuer.idx (impl_FindIssuer.out a1) l0)
set_option maxRecDepth 100000 in
set_option maxHeartbeats 2000000 in
theorem impl_FindIssuer.calls (A0 : Option Addr) (c0 : Nat) (l0 : List (S48)) (a1 : Int) (r : Int) (w : World) (hr0 : Kd.C k48 w A0 l0.length l0) (hc0 : l0.length ≤ c0) (h : impl_FindIssuer.f l0 a1 = some r) :
  Calls Try.prog 43 #[.slice A0 l0.length c0, .int .i64 a1] w fun e w' => e = .returned (.int .i64 r) ∧ Below w.heap.size w w' := by
 obtain rfl := Option.some.inj h
 have hcall := impl_FindIssuer.indexFunc A0 c0 l0 a1 w.heap.size (w.alloc (.cells #[.int .i64 a1] 3)) (Kd.C_alloc hr0 _) (by simp)
 clear hr0 hc0 h
 generalize impl_FindIssuer.idx (impl_FindIssuer.out a1) l0 = r at hcall ⊢
 go_enter Try.func43, Try.ntmps43
 go_wp2_with (first | (go_at_call 87; refine hcall.mono ?_; rintro e w' ⟨rfl, hb'⟩))
 go_ret
 exact ⟨rfl, ((Below.refl w.heap.size w).alloc (Nat.le_refl _) _).trans (hb'.mono (by simp))⟩

/-! ### impl_InRange: function 75 -/
def impl_InRange.f (a0 : Int) (a1 : Int) (a2 : Int) : Option (Bool) := if a1 ≤ a0 then (some (decide (a0 ≤ a2))) else (some false)
set_option maxHeartbeats 8000000 in
set_option maxRecDepth 100000 in
theorem impl_InRange.calls (a0 : Int) (a1 : Int) (a2 : Int) (r : Bool) (w : World) (h : impl_InRange.f a0 a1 a2 = some r) :
  Calls Try.prog 75 #[.int .i64 a0, .int .i64 a1, .int .i64 a2] w fun e w' => e = .returned (.bool r) ∧ Drawn0 w w' := by
 have H : (if a1 ≤ a0 then (some (decide (a0 ≤ a2))) else (some false)) = some r := h
 clear h
 by_cases c4 : a1 ≤ a0
 ·rw [if_pos c4] at H
  have c4b0 : decide (a1 ≤ a0) = true := decide_eq_true c4
  clear c4
  obtain rfl := Option.some.inj H
  go_enter Try.func75, Try.ntmps75
  go_wp2
  go_ret
  exact ⟨sqr, by repeat (first | exact Drawn0.refl _ | apply Drawn0.step)⟩
 ·rw [if_neg c4] at H
  have c4b0 : decide (a1 ≤ a0) = false := decide_eq_false c4
  clear c4
  obtain rfl := Option.some.inj H
  go_enter Try.func75, Try.ntmps75
  go_wp2
  go_ret
  exact ⟨sqr, by repeat (first | exact Drawn0.refl _ | apply Drawn0.step)⟩

/-! ### impl_isAscending: function 76 -/
def impl_isAscending.l0 : Nat → List Int → Int → Int → List Int → Int → Int → Option (Bool)
 | 0, _, _, _, _, _, _ => none
 | k + 1, x0, x1, x2, x9, x10, x11 => if x11 < x10 then (if 0 ≤ x11 then (if x11 < (x9.length : Int) then ((impl_InRange.f (rd x9 x11) x1 x2).bind fun t102 => (if t102 = true then (if x11 > 0 then (if 0 ≤ (wrap64 (x11 - 1)) then (if (wrap64 (x11 - 1)) < (x0.length : Int) then (if (rd x0 (wrap64 (x11 - 1))) ≥ (rd x9 x11) then (some false) else (impl_isAscending.l0 k x0 x1 x2 x9 x10 (wrap64 (x11 + 1)))) else (none)) else (none)) else (impl_isAscending.l0 k x0 x1 x2 x9 x10 (wrap64 (x11 + 1)))) else (some false))) else (none)) else (none)) else (some true)
def impl_isAscending.f (k : Nat) (l0 : List Int) (a1 : Int) (a2 : Int) : Option (Bool) := impl_isAscending.l0 k l0 a1 a2 l0 (l0.length : Int) 0
set_option maxHeartbeats 8000000 in
set_option maxRecDepth 100000 in
theorem impl_isAscending.calls (k : Nat) (A0 : Option Addr) (c0 : Nat) (l0 : List Int) (a1 : Int) (a2 : Int) (r : Bool) (w : World) (hr0 : Kd.C (Kd.int .i64) w A0 l0.length l0) (hc0 : l0.length ≤ c0) (h : impl_isAscending.f k l0 a1 a2 = some r) :
  Calls Try.prog 76 #[.slice A0 l0.length c0, .int .i64 a1, .int .i64 a2] w fun e w' => e = .returned (.bool r) ∧ Drawn0 w w' := by
 have HR0 := As_.mk hr0
 have HC0 := As_.mk hc0
 clear hr0 hc0
 have H : (impl_isAscending.l0 k l0 a1 a2 l0 (l0.length : Int) 0) = some r := h
 clear h
 have H' := As_.mk H
 clear H
 go_enter Try.func76, Try.ntmps76
 go_wp2
 go_loopg [11] k (fun kq v11 w' => ∃ (x11_1 : Int), v11 = .int .i64 x11_1 ∧ As_ (impl_isAscending.l0 kq l0 a1 a2 l0 (l0.length : Int) x11_1 = some r) ∧ As_ (kq ≤ k) ∧ Drawn0 w w')
 case atStart => exact ⟨(0), sqr, H', ⟨Nat.le_refl _⟩, by repeat (first | exact Drawn0.refl _ | apply Drawn0.step)⟩
 case round =>
  clear H'; try clear p2
  obtain ⟨x11_1, rfl, HA, HK1, ⟨m1, rfl⟩⟩ := hrel
  cases gk with
  | zero => exact absurd HA.out (by simp [impl_isAscending.l0])
  | succ k1 =>
   have H := HA.out
   clear HA
   simp only [impl_isAscending.l0] at H
   by_cases c4 : x11_1 < (l0.length : Int)
   ·rw [if_pos c4] at H
    have c4b0 : decide (x11_1 < (l0.length : Int)) = true := decide_eq_true c4
    clear c4
    by_cases c5 : 0 ≤ x11_1
    ·rw [if_pos c5] at H
     have c5b0 : decide (0 ≤ x11_1) = true := decide_eq_true c5
     clear c5
     by_cases c6 : x11_1 < (l0.length : Int)
     ·rw [if_pos c6] at H
      have c6b0 : decide (x11_1 < (l0.length : Int)) = true := decide_eq_true c6
      clear c6
      obtain ⟨t102, A7, H⟩ := bA H
      by_cases c8 : t102 = true
      ·subst c8
       replace H := iT H
       by_cases c9 : x11_1 > 0
       ·rw [if_pos c9] at H
        have c9b0 : decide (0 < x11_1) = true := decide_eq_true c9
        clear c9
        obtain ⟨ji10, hji10⟩ : ∃ j_ : Int, (wrap64 (x11_1 - 1)) = j_ := ⟨_, rfl⟩
        replace H : (if 0 ≤ (ji10) then (if (ji10) < (l0.length : Int) then (if (rd l0 (ji10)) ≥ (rd l0 x11_1) then (some false) else (impl_isAscending.l0 k1 l0 a1 a2 l0 (l0.length : Int) (wrap64 (x11_1 + 1)))) else (none)) else (none)) = some r := by first | (rw [hji10] at H; exact H) | (simp only [hji10] at H ⊢; exact H)
        (try rw [hji10] at A7)
        have hji10w : (IntKind.i64.wrap (x11_1 - 1)) = ji10 := (i64_w _).trans hji10
        by_cases c11 : 0 ≤ (ji10)
        ·rw [if_pos c11] at H
         have c11b0 : decide (0 ≤ (ji10)) = true := decide_eq_true c11
         clear c11
         by_cases c12 : (ji10) < (l0.length : Int)
         ·rw [if_pos c12] at H
          have c12b0 : decide ((ji10) < (l0.length : Int)) = true := decide_eq_true c12
          clear c12
          by_cases c13 : (rd l0 (ji10)) ≥ (rd l0 x11_1)
          ·rw [if_pos c13] at H
           have c13b0 : decide ((rd l0 x11_1) ≤ (rd l0 (ji10))) = true := decide_eq_true c13
           clear c13
           obtain rfl := Option.some.inj H
           have p101 : 0 ≤ (x11_1 : Int) := of_decide_eq_true sqs
           have q101 : x11_1 < (l0.length : Int) := of_decide_eq_true sqs
           obtain ⟨ad101, e101, hx101_0⟩ := Kd.at_int HR0.out x11_1 p101 q101
           cases e101
           replace p101 := eq_true p101
           replace q101 := eq_true q101
           go_wp2_with (first | ((with_reducible refine gate_callee (f := 75) rfl ?_); refine goesL_ (some 19) rfl rfl Try.func75 sqk rfl #[.int .i64 (rd l0 x11_1), .int .i64 a1, .int .i64 a2] rfl sqm ?_; (with_reducible refine (impl_InRange.calls (rd l0 x11_1) a1 a2 true _ A7.out).mono ?_); rintro e w' ⟨rfl, ⟨nd, rfl⟩⟩; refine ⟨_, rfl, ?_⟩; have p103 : 0 ≤ ((ji10) : Int) := of_decide_eq_true sqs; have q103 : (ji10) < (l0.length : Int) := of_decide_eq_true sqs; obtain ⟨ad103, e103, hx103_0⟩ := Kd.at_int HR0.out (ji10) p103 q103; obtain rfl : ad101 = ad103 := (by injection e103); replace p103 := eq_true p103; replace q103 := eq_true q103))
           go_ret
           exact ⟨by first | rfl | (simp; done) | (simp only [← hji10] <;> (first | rfl | simp)) | (simp [*]; done), by repeat (first | exact Drawn0.refl _ | apply Drawn0.step)⟩
          ·rw [if_neg c13] at H
           have c13b0 : decide ((rd l0 x11_1) ≤ (rd l0 (ji10))) = false := decide_eq_false c13
           clear c13
           have H' := As_.mk H
           clear H
           have p101 : 0 ≤ (x11_1 : Int) := of_decide_eq_true sqs
           have q101 : x11_1 < (l0.length : Int) := of_decide_eq_true sqs
           obtain ⟨ad101, e101, hx101_0⟩ := Kd.at_int HR0.out x11_1 p101 q101
           cases e101
           replace p101 := eq_true p101
           replace q101 := eq_true q101
           go_wp2_with (first | ((with_reducible refine gate_callee (f := 75) rfl ?_); refine goesL_ (some 19) rfl rfl Try.func75 sqk rfl #[.int .i64 (rd l0 x11_1), .int .i64 a1, .int .i64 a2] rfl sqm ?_; (with_reducible refine (impl_InRange.calls (rd l0 x11_1) a1 a2 true _ A7.out).mono ?_); rintro e w' ⟨rfl, ⟨nd, rfl⟩⟩; refine ⟨_, rfl, ?_⟩; have p103 : 0 ≤ ((ji10) : Int) := of_decide_eq_true sqs; have q103 : (ji10) < (l0.length : Int) := of_decide_eq_true sqs; obtain ⟨ad103, e103, hx103_0⟩ := Kd.at_int HR0.out (ji10) p103 q103; obtain rfl : ad101 = ad103 := (by injection e103); replace p103 := eq_true p103; replace q103 := eq_true q103))
           go_roundg k1
           case measure => have := HK1.out; omega
           case rel => exact ⟨(wrap64 (x11_1 + 1)), sqr, H', ⟨by have := HK1.out; omega⟩, by repeat (first | exact Drawn0.refl _ | apply Drawn0.step)⟩
         ·rw [if_neg c12] at H
          exact absurd H (by simp)
        ·rw [if_neg c11] at H
         exact absurd H (by simp)
       ·rw [if_neg c9] at H
        have c9b0 : decide (0 < x11_1) = false := decide_eq_false c9
        clear c9
        have H' := As_.mk H
        clear H
        have p101 : 0 ≤ (x11_1 : Int) := of_decide_eq_true sqs
        have q101 : x11_1 < (l0.length : Int) := of_decide_eq_true sqs
        obtain ⟨ad101, e101, hx101_0⟩ := Kd.at_int HR0.out x11_1 p101 q101
        cases e101
        replace p101 := eq_true p101
        replace q101 := eq_true q101
        go_wp2_with (first | ((with_reducible refine gate_callee (f := 75) rfl ?_); refine goesL_ (some 19) rfl rfl Try.func75 sqk rfl #[.int .i64 (rd l0 x11_1), .int .i64 a1, .int .i64 a2] rfl sqm ?_; (with_reducible refine (impl_InRange.calls (rd l0 x11_1) a1 a2 true _ A7.out).mono ?_); rintro e w' ⟨rfl, ⟨nd, rfl⟩⟩; refine ⟨_, rfl, ?_⟩))
        go_roundg k1
        case measure => have := HK1.out; omega
        case rel => exact ⟨(wrap64 (x11_1 + 1)), sqr, H', ⟨by have := HK1.out; omega⟩, by repeat (first | exact Drawn0.refl _ | apply Drawn0.step)⟩
      ·replace c8 := Bool.eq_false_iff.mpr c8
       subst c8
       replace H := iF H
       obtain rfl := Option.some.inj H
       have p101 : 0 ≤ (x11_1 : Int) := of_decide_eq_true sqs
       have q101 : x11_1 < (l0.length : Int) := of_decide_eq_true sqs
       obtain ⟨ad101, e101, hx101_0⟩ := Kd.at_int HR0.out x11_1 p101 q101
       cases e101
       replace p101 := eq_true p101
       replace q101 := eq_true q101
       go_wp2_with (first | ((with_reducible refine gate_callee (f := 75) rfl ?_); refine goesL_ (some 19) rfl rfl Try.func75 sqk rfl #[.int .i64 (rd l0 x11_1), .int .i64 a1, .int .i64 a2] rfl sqm ?_; (with_reducible refine (impl_InRange.calls (rd l0 x11_1) a1 a2 false _ A7.out).mono ?_); rintro e w' ⟨rfl, ⟨nd, rfl⟩⟩; refine ⟨_, rfl, ?_⟩))
       go_ret
       exact ⟨sqr, by repeat (first | exact Drawn0.refl _ | apply Drawn0.step)⟩
     ·rw [if_neg c6] at H
      exact absurd H (by simp)
    ·rw [if_neg c5] at H
     exact absurd H (by simp)
   ·rw [if_neg c4] at H
    have c4b0 : decide (x11_1 < (l0.length : Int)) = false := decide_eq_false c4
    clear c4
    obtain rfl := Option.some.inj H
    go_wp2
    go_ret
    exact ⟨sqr, by repeat (first | exact Drawn0.refl _ | apply Drawn0.step)⟩

/-! ### impl_IsValidKey: function 77 -/
def impl_IsValidKey.f (a0 : Int) : Option (Bool) := (impl_InRange.f a0 1 2147483646).bind fun t104 => (some t104)
set_option maxHeartbeats 8000000 in
set_option maxRecDepth 100000 in
theorem impl_IsValidKey.calls (a0 : Int) (r : Bool) (w : World) (h : impl_IsValidKey.f a0 = some r) :
  Calls Try.prog 77 #[.int .i64 a0] w fun e w' => e = .returned (.bool r) ∧ Drawn0 w w' := by
 have H : ((impl_InRange.f a0 1 2147483646).bind fun t104 => (some t104)) = some r := h
 clear h
 obtain ⟨t104, A2, H⟩ := bA H
 obtain rfl := Option.some.inj H
 go_enter Try.func77, Try.ntmps77
 go_wp2_with (first | ((with_reducible refine gate_callee (f := 75) rfl ?_); refine goesL_ (some 4) rfl rfl Try.func75 sqk rfl #[.int .i64 a0, .int .i64 1, .int .i64 2147483646] rfl sqm ?_; (with_reducible refine (impl_InRange.calls a0 1 2147483646 t104 _ A2.out).mono ?_); rintro e w' ⟨rfl, ⟨nd, rfl⟩⟩; refine ⟨_, rfl, ?_⟩))
 go_ret
 exact ⟨sqr, by repeat (first | exact Drawn0.refl _ | apply Drawn0.step)⟩

/-! ### impl_IsIssuer: function 33 -/
def impl_IsIssuer.f (k : Nat) (a0_0 : Int) (l0_1 : List Int) (a0_2 : Int) : Option (Bool) := (impl_InRange.f a0_0 0 9).bind fun t106 => (if t106 = true then ((impl_isAscending.f k l0_1 1 4).bind fun t107 => (if t107 = true then ((impl_IsValidKey.f a0_2).bind fun t108 => (some t108)) else (some false))) else (some false))
set_option maxHeartbeats 8000000 in
set_option maxRecDepth 100000 in
theorem impl_IsIssuer.calls (k : Nat) (a0_0 : Int) (A0_1 : Option Addr) (c0_1 : Nat) (l0_1 : List Int) (a0_2 : Int) (r : Bool) (w : World) (hr0_1 : Kd.C (Kd.int .i64) w A0_1 l0_1.length l0_1) (hc0_1 : l0_1.length ≤ c0_1) (h : impl_IsIssuer.f k a0_0 l0_1 a0_2 = some r) :
  Calls Try.prog 33 #[.agg #[.int .i64 a0_0, .slice A0_1 l0_1.length c0_1, .int .i64 a0_2]] w fun e w' => e = .returned (.bool r) ∧ Below w.heap.size w w' := by
 have hu48 := Try.underlying48
 have HR0_1 := As_.mk hr0_1
 have HC0_1 := As_.mk hc0_1
 clear hr0_1 hc0_1
 have HB := As_.mk (Below.refl w.heap.size w)
 have H : ((impl_InRange.f a0_0 0 9).bind fun t106 => (if t106 = true then ((impl_isAscending.f k l0_1 1 4).bind fun t107 => (if t107 = true then ((impl_IsValidKey.f a0_2).bind fun t108 => (some t108)) else (some false))) else (some false))) = some r := h
 clear h
 obtain ⟨t106, A2, H⟩ := bA H
 by_cases c3 : t106 = true
 ·subst c3
  replace H := iT H
  obtain ⟨t107, A4, H⟩ := bA H
  by_cases c5 : t107 = true
  ·subst c5
   replace H := iT H
   obtain ⟨t108, A6, H⟩ := bA H
   obtain rfl := Option.some.inj H
   go_enter Try.func33, Try.ntmps33
   go_wp2_with (first | ((with_reducible refine gate_dst (N := 1) rfl ?_); refine bx (N := 1) (cs := #[.int .i64 a0_0, .slice A0_1 l0_1.length c0_1, .int .i64 a0_2]) (t := 48) ?_; intro gb105 hg w7 hbox hb; have BK105 := As_.mk (hbox); have GW105 := As_.mk ((by rw [hg]; exact (below_size sqh) : w.heap.size ≤ gb105)); have GE105 := As_.mk ((by rw [hg]; exact (below_size sqh) : w.heap.size ≤ gb105)); replace HB := As_.mk (below_step sqh hb); clear hb hbox hg; obtain ⟨hcz8_0, hcz8_1, hcz8_2, hfz8_0, hfz8_1, hfz8_2⟩ := sd3 BK105.out) | ((with_reducible refine gate_callee (f := 75) rfl ?_); refine goesL_ (some 5) rfl rfl Try.func75 sqk rfl #[.int .i64 a0_0, .int .i64 0, .int .i64 9] rfl sqm ?_; (with_reducible refine (impl_InRange.calls a0_0 0 9 true _ A2.out).mono ?_); rintro e w' ⟨rfl, ⟨nd, rfl⟩⟩; refine ⟨_, rfl, ?_⟩) | (go_at_call 76; (with_reducible refine (impl_isAscending.calls k _ _ l0_1 1 4 true _ ?side1 ?side2 A4.out).mono ?_); (case side1 => repeat (first | exact (Kd.C_below HR0_1.out sqh) | (with_reducible refine Kd.C_alloc ?_ _) | (with_reducible refine Kd.C_drewN ?_ _) | (with_reducible refine Kd.C_drew ?_))); (case side2 => exact HC0_1.out); rintro e w' ⟨rfl, ⟨nd, rfl⟩⟩) | (go_at_call 77; (with_reducible refine (impl_IsValidKey.calls a0_2 t108 _ A6.out).mono ?_); rintro e w' ⟨rfl, ⟨nd, rfl⟩⟩))
   go_ret
   exact ⟨sqe, sqh⟩
  ·replace c5 := Bool.eq_false_iff.mpr c5
   subst c5
   replace H := iF H
   obtain rfl := Option.some.inj H
   go_enter Try.func33, Try.ntmps33
   go_wp2_with (first | ((with_reducible refine gate_dst (N := 1) rfl ?_); refine bx (N := 1) (cs := #[.int .i64 a0_0, .slice A0_1 l0_1.length c0_1, .int .i64 a0_2]) (t := 48) ?_; intro gb105 hg w9 hbox hb; have BK105 := As_.mk (hbox); have GW105 := As_.mk ((by rw [hg]; exact (below_size sqh) : w.heap.size ≤ gb105)); have GE105 := As_.mk ((by rw [hg]; exact (below_size sqh) : w.heap.size ≤ gb105)); replace HB := As_.mk (below_step sqh hb); clear hb hbox hg; obtain ⟨hcz10_0, hcz10_1, hcz10_2, hfz10_0, hfz10_1, hfz10_2⟩ := sd3 BK105.out) | ((with_reducible refine gate_callee (f := 75) rfl ?_); refine goesL_ (some 5) rfl rfl Try.func75 sqk rfl #[.int .i64 a0_0, .int .i64 0, .int .i64 9] rfl sqm ?_; (with_reducible refine (impl_InRange.calls a0_0 0 9 true _ A2.out).mono ?_); rintro e w' ⟨rfl, ⟨nd, rfl⟩⟩; refine ⟨_, rfl, ?_⟩) | (go_at_call 76; (with_reducible refine (impl_isAscending.calls k _ _ l0_1 1 4 false _ ?side1 ?side2 A4.out).mono ?_); (case side1 => repeat (first | exact (Kd.C_below HR0_1.out sqh) | (with_reducible refine Kd.C_alloc ?_ _) | (with_reducible refine Kd.C_drewN ?_ _) | (with_reducible refine Kd.C_drew ?_))); (case side2 => exact HC0_1.out); rintro e w' ⟨rfl, ⟨nd, rfl⟩⟩))
   go_ret
   exact ⟨sqe, sqh⟩
 ·replace c3 := Bool.eq_false_iff.mpr c3
  subst c3
  replace H := iF H
  obtain rfl := Option.some.inj H
  go_enter Try.func33, Try.ntmps33
  go_wp2_with (first | ((with_reducible refine gate_dst (N := 1) rfl ?_); refine bx (N := 1) (cs := #[.int .i64 a0_0, .slice A0_1 l0_1.length c0_1, .int .i64 a0_2]) (t := 48) ?_; intro gb105 hg w11 hbox hb; have BK105 := As_.mk (hbox); have GW105 := As_.mk ((by rw [hg]; exact (below_size sqh) : w.heap.size ≤ gb105)); have GE105 := As_.mk ((by rw [hg]; exact (below_size sqh) : w.heap.size ≤ gb105)); replace HB := As_.mk (below_step sqh hb); clear hb hbox hg; obtain ⟨hcz12_0, hcz12_1, hcz12_2, hfz12_0, hfz12_1, hfz12_2⟩ := sd3 BK105.out) | ((with_reducible refine gate_callee (f := 75) rfl ?_); refine goesL_ (some 5) rfl rfl Try.func75 sqk rfl #[.int .i64 a0_0, .int .i64 0, .int .i64 9] rfl sqm ?_; (with_reducible refine (impl_InRange.calls a0_0 0 9 false _ A2.out).mono ?_); rintro e w' ⟨rfl, ⟨nd, rfl⟩⟩; refine ⟨_, rfl, ?_⟩))
  go_ret
  exact ⟨sqe, sqh⟩

/-! ### impl_IsTime: function 83 -/
def impl_IsTime.f (a0 : Int) : Option (Bool) := (impl_InRange.f a0 0 10000).bind fun t109 => (some t109)
set_option maxHeartbeats 8000000 in
set_option maxRecDepth 100000 in
theorem impl_IsTime.calls (a0 : Int) (r : Bool) (w : World) (h : impl_IsTime.f a0 = some r) :
  Calls Try.prog 83 #[.int .i64 a0] w fun e w' => e = .returned (.bool r) ∧ Drawn0 w w' := by
 have H : ((impl_InRange.f a0 0 10000).bind fun t109 => (some t109)) = some r := h
 clear h
 obtain ⟨t109, A2, H⟩ := bA H
 obtain rfl := Option.some.inj H
 go_enter Try.func83, Try.ntmps83
 go_wp2_with (first | ((with_reducible refine gate_callee (f := 75) rfl ?_); refine goesL_ (some 4) rfl rfl Try.func75 sqk rfl #[.int .i64 a0, .int .i64 0, .int .i64 10000] rfl sqm ?_; (with_reducible refine (impl_InRange.calls a0 0 10000 t109 _ A2.out).mono ?_); rintro e w' ⟨rfl, ⟨nd, rfl⟩⟩; refine ⟨_, rfl, ?_⟩))
 go_ret
 exact ⟨sqr, by repeat (first | exact Drawn0.refl _ | apply Drawn0.step)⟩

/-! ### impl_IsName: function 118 -/
def impl_IsName.f (a0 : Int) : Option (Bool) := (impl_InRange.f a0 10 49).bind fun t110 => (some t110)
set_option maxHeartbeats 8000000 in
set_option maxRecDepth 100000 in
theorem impl_IsName.calls (a0 : Int) (r : Bool) (w : World) (h : impl_IsName.f a0 = some r) :
  Calls Try.prog 118 #[.int .i64 a0] w fun e w' => e = .returned (.bool r) ∧ Drawn0 w w' := by
 have H : ((impl_InRange.f a0 10 49).bind fun t110 => (some t110)) = some r := h
 clear h
 obtain ⟨t110, A2, H⟩ := bA H
 obtain rfl := Option.some.inj H
 go_enter Try.func118, Try.ntmps118
 go_wp2_with (first | ((with_reducible refine gate_callee (f := 75) rfl ?_); refine goesL_ (some 4) rfl rfl Try.func75 sqk rfl #[.int .i64 a0, .int .i64 10, .int .i64 49] rfl sqm ?_; (with_reducible refine (impl_InRange.calls a0 10 49 t110 _ A2.out).mono ?_); rintro e w' ⟨rfl, ⟨nd, rfl⟩⟩; refine ⟨_, rfl, ?_⟩))
 go_ret
 exact ⟨sqr, by repeat (first | exact Drawn0.refl _ | apply Drawn0.step)⟩

/-! ### impl_KindOf: function 134 -/
def impl_KindOf.f (a0 : Int) : Option (Int) := (impl_IsName.f a0).bind fun t111 => (if t111 = true then (some (wrap64 (Int.tdiv a0 10))) else (some 0))
set_option maxHeartbeats 8000000 in
set_option maxRecDepth 100000 in
theorem impl_KindOf.calls (a0 : Int) (r : Int) (w : World) (h : impl_KindOf.f a0 = some r) :
  Calls Try.prog 134 #[.int .i64 a0] w fun e w' => e = .returned (.int .i64 r) ∧ Drawn0 w w' := by
 have H : ((impl_IsName.f a0).bind fun t111 => (if t111 = true then (some (wrap64 (Int.tdiv a0 10))) else (some 0))) = some r := h
 clear h
 obtain ⟨t111, A2, H⟩ := bA H
 by_cases c3 : t111 = true
 ·subst c3
  replace H := iT H
  obtain rfl := Option.some.inj H
  go_enter Try.func134, Try.ntmps134
  go_wp2_with (first | ((with_reducible refine gate_callee (f := 118) rfl ?_); refine goesL_ (some 4) rfl rfl Try.func118 sqk rfl #[.int .i64 a0] rfl sqm ?_; (with_reducible refine (impl_IsName.calls a0 true _ A2.out).mono ?_); rintro e w' ⟨rfl, ⟨nd, rfl⟩⟩; refine ⟨_, rfl, ?_⟩))
  go_ret
  exact ⟨sqr, by repeat (first | exact Drawn0.refl _ | apply Drawn0.step)⟩
 ·replace c3 := Bool.eq_false_iff.mpr c3
  subst c3
  replace H := iF H
  obtain rfl := Option.some.inj H
  go_enter Try.func134, Try.ntmps134
  go_wp2_with (first | ((with_reducible refine gate_callee (f := 118) rfl ?_); refine goesL_ (some 4) rfl rfl Try.func118 sqk rfl #[.int .i64 a0] rfl sqm ?_; (with_reducible refine (impl_IsName.calls a0 false _ A2.out).mono ?_); rintro e w' ⟨rfl, ⟨nd, rfl⟩⟩; refine ⟨_, rfl, ?_⟩))
  go_ret
  exact ⟨sqr, by repeat (first | exact Drawn0.refl _ | apply Drawn0.step)⟩

/-! ### impl_HasKind: function 124 -/
def impl_HasKind.f (a0 : Int) (a1 : Int) : Option (Bool) := (impl_IsName.f a0).bind fun t112 => (if t112 = true then ((impl_KindOf.f a0).bind fun t113 => (some (t113 == a1))) else (some false))
set_option maxHeartbeats 8000000 in
set_option maxRecDepth 100000 in
theorem impl_HasKind.calls (a0 : Int) (a1 : Int) (r : Bool) (w : World) (h : impl_HasKind.f a0 a1 = some r) :
  Calls Try.prog 124 #[.int .i64 a0, .int .i64 a1] w fun e w' => e = .returned (.bool r) ∧ Drawn0 w w' := by
 have H : ((impl_IsName.f a0).bind fun t112 => (if t112 = true then ((impl_KindOf.f a0).bind fun t113 => (some (t113 == a1))) else (some false))) = some r := h
 clear h
 obtain ⟨t112, A3, H⟩ := bA H
 by_cases c4 : t112 = true
 ·subst c4
  replace H := iT H
  obtain ⟨t113, A5, H⟩ := bA H
  obtain rfl := Option.some.inj H
  go_enter Try.func124, Try.ntmps124
  go_wp2_with (first | ((with_reducible refine gate_callee (f := 118) rfl ?_); refine goesL_ (some 6) rfl rfl Try.func118 sqk rfl #[.int .i64 a0] rfl sqm ?_; (with_reducible refine (impl_IsName.calls a0 true _ A3.out).mono ?_); rintro e w' ⟨rfl, ⟨nd, rfl⟩⟩; refine ⟨_, rfl, ?_⟩) | (go_at_call 134; (with_reducible refine (impl_KindOf.calls a0 t113 _ A5.out).mono ?_); rintro e w' ⟨rfl, ⟨nd, rfl⟩⟩))
  go_ret
  exact ⟨sqr, by repeat (first | exact Drawn0.refl _ | apply Drawn0.step)⟩
 ·replace c4 := Bool.eq_false_iff.mpr c4
  subst c4
  replace H := iF H
  obtain rfl := Option.some.inj H
  go_enter Try.func124, Try.ntmps124
  go_wp2_with (first | ((with_reducible refine gate_callee (f := 118) rfl ?_); refine goesL_ (some 6) rfl rfl Try.func118 sqk rfl #[.int .i64 a0] rfl sqm ?_; (with_reducible refine (impl_IsName.calls a0 false _ A3.out).mono ?_); rintro e w' ⟨rfl, ⟨nd, rfl⟩⟩; refine ⟨_, rfl, ?_⟩))
  go_ret
  exact ⟨sqr, by repeat (first | exact Drawn0.refl _ | apply Drawn0.step)⟩

/-! ### impl_isClaim: function 103 -/
def impl_isClaim.f (a0_0 : Int) (a0_1 : Int) (a0_2 : Int) (a0_3 : Int) (a0_4 : Int) (a0_5 : Int) : Option (Bool) := if a0_0 = 1 then ((impl_HasKind.f a0_1 1).bind fun t115 => (if t115 = true then ((impl_InRange.f a0_2 0 5).bind fun t116 => (some t116)) else (some false))) else (if a0_0 = 2 then ((impl_HasKind.f a0_1 1).bind fun t117 => (if t117 = true then ((impl_HasKind.f a0_2 2).bind fun t118 => (some t118)) else (some false))) else (if a0_0 = 3 then ((impl_HasKind.f a0_1 2).bind fun t119 => (if t119 = true then ((impl_InRange.f a0_2 0 3).bind fun t120 => (some t120)) else (some false))) else (if a0_0 = 4 then ((impl_HasKind.f a0_1 3).bind fun t121 => (if t121 = true then ((impl_InRange.f a0_2 0 3).bind fun t122 => (some t122)) else (some false))) else (some false))))
theorem z103_0 {Q : Prop} (g : Q := by rw [hg]; exact (below_size sqh)) : Q := g
set_option maxHeartbeats 8000000 in
set_option maxRecDepth 100000 in
theorem impl_isClaim.calls (a0_0 : Int) (a0_1 : Int) (a0_2 : Int) (a0_3 : Int) (a0_4 : Int) (a0_5 : Int) (r : Bool) (w : World) (h : impl_isClaim.f a0_0 a0_1 a0_2 a0_3 a0_4 a0_5 = some r) :
  Calls Try.prog 103 #[.agg #[.int .i64 a0_0, .int .i64 a0_1, .int .i64 a0_2, .int .i64 a0_3, .int .i64 a0_4, .int .i64 a0_5]] w fun e w' => e = .returned (.bool r) ∧ Below w.heap.size w w' := by
 have hu55 := Try.underlying55
 have HB := As_.mk (Below.refl w.heap.size w)
 have H : (if a0_0 = 1 then ((impl_HasKind.f a0_1 1).bind fun t115 => (if t115 = true then ((impl_InRange.f a0_2 0 5).bind fun t116 => (some t116)) else (some false))) else (if a0_0 = 2 then ((impl_HasKind.f a0_1 1).bind fun t117 => (if t117 = true then ((impl_HasKind.f a0_2 2).bind fun t118 => (some t118)) else (some false))) else (if a0_0 = 3 then ((impl_HasKind.f a0_1 2).bind fun t119 => (if t119 = true then ((impl_InRange.f a0_2 0 3).bind fun t120 => (some t120)) else (some false))) else (if a0_0 = 4 then ((impl_HasKind.f a0_1 3).bind fun t121 => (if t121 = true then ((impl_InRange.f a0_2 0 3).bind fun t122 => (some t122)) else (some false))) else (some false))))) = some r := h
 clear h
 by_cases c2 : a0_0 = 1
 ·rw [if_pos c2] at H
  have c2b0 : (a0_0 == 1) = true := beq_iff_eq.mpr c2
  have c2b1 : (a0_0 != 1) = false := bne_eq_false_iff_eq.mpr c2
  clear c2
  obtain ⟨t115, A3, H⟩ := bA H
  by_cases c4 : t115 = true
  ·subst c4
   replace H := iT H
   obtain ⟨t116, A5, H⟩ := bA H
   obtain rfl := Option.some.inj H
   go_enter Try.func103, Try.ntmps103
   go_wp2_with (first | ((with_reducible refine gate_dst (N := 1) rfl ?_); refine bx (N := 1) (cs := #[.int .i64 a0_0, .int .i64 a0_1, .int .i64 a0_2, .int .i64 a0_3, .int .i64 a0_4, .int .i64 a0_5]) (t := 55) ?_; intro gb114 hg w6 hbox hb; have BK114 := As_.mk (hbox); have GW114 := As_.mk ((z103_0 : w.heap.size ≤ gb114)); have GE114 := As_.mk ((z103_0 : w.heap.size ≤ gb114)); replace HB := As_.mk (below_step sqh hb); clear hb hbox hg; obtain ⟨hcz7_0, hcz7_1, hcz7_2, hcz7_3, hcz7_4, hcz7_5, hfz7_0, hfz7_1, hfz7_2, hfz7_3, hfz7_4, hfz7_5⟩ := sd6 BK114.out) | ((with_reducible refine gate_callee (f := 124) rfl ?_); refine goesL_ (some 9) rfl rfl Try.func124 sqk rfl #[.int .i64 a0_1, .int .i64 1] rfl sqm ?_; (with_reducible refine (impl_HasKind.calls a0_1 1 true _ A3.out).mono ?_); rintro e w' ⟨rfl, ⟨nd, rfl⟩⟩; refine ⟨_, rfl, ?_⟩) | (go_at_call 75; (with_reducible refine (impl_InRange.calls a0_2 0 5 t116 _ A5.out).mono ?_); rintro e w' ⟨rfl, ⟨nd, rfl⟩⟩))
   go_ret
   exact ⟨sqe, sqh⟩
  ·replace c4 := Bool.eq_false_iff.mpr c4
   subst c4
   replace H := iF H
   obtain rfl := Option.some.inj H
   go_enter Try.func103, Try.ntmps103
   go_wp2_with (first | ((with_reducible refine gate_dst (N := 1) rfl ?_); refine bx (N := 1) (cs := #[.int .i64 a0_0, .int .i64 a0_1, .int .i64 a0_2, .int .i64 a0_3, .int .i64 a0_4, .int .i64 a0_5]) (t := 55) ?_; intro gb114 hg w8 hbox hb; have BK114 := As_.mk (hbox); have GW114 := As_.mk ((z103_0 : w.heap.size ≤ gb114)); have GE114 := As_.mk ((z103_0 : w.heap.size ≤ gb114)); replace HB := As_.mk (below_step sqh hb); clear hb hbox hg; obtain ⟨hcz9_0, hcz9_1, hcz9_2, hcz9_3, hcz9_4, hcz9_5, hfz9_0, hfz9_1, hfz9_2, hfz9_3, hfz9_4, hfz9_5⟩ := sd6 BK114.out) | ((with_reducible refine gate_callee (f := 124) rfl ?_); refine goesL_ (some 9) rfl rfl Try.func124 sqk rfl #[.int .i64 a0_1, .int .i64 1] rfl sqm ?_; (with_reducible refine (impl_HasKind.calls a0_1 1 false _ A3.out).mono ?_); rintro e w' ⟨rfl, ⟨nd, rfl⟩⟩; refine ⟨_, rfl, ?_⟩))
   go_ret
   exact ⟨sqe, sqh⟩
 ·rw [if_neg c2] at H
  have c2b0 : (a0_0 == 1) = false := beq_eq_false_iff_ne.mpr c2
  have c2b1 : (a0_0 != 1) = true := bne_iff_ne.mpr c2
  by_cases c10 : a0_0 = 2
  ·rw [if_pos c10] at H
   have c10b0 : (a0_0 == 2) = true := beq_iff_eq.mpr c10
   have c10b1 : (a0_0 != 2) = false := bne_eq_false_iff_eq.mpr c10
   clear c10
   obtain ⟨t117, A11, H⟩ := bA H
   by_cases c12 : t117 = true
   ·subst c12
    replace H := iT H
    obtain ⟨t118, A13, H⟩ := bA H
    obtain rfl := Option.some.inj H
    go_enter Try.func103, Try.ntmps103
    go_wp2_with (first | ((with_reducible refine gate_dst (N := 1) rfl ?_); refine bx (N := 1) (cs := #[.int .i64 a0_0, .int .i64 a0_1, .int .i64 a0_2, .int .i64 a0_3, .int .i64 a0_4, .int .i64 a0_5]) (t := 55) ?_; intro gb114 hg w14 hbox hb; have BK114 := As_.mk (hbox); have GW114 := As_.mk ((z103_0 : w.heap.size ≤ gb114)); have GE114 := As_.mk ((z103_0 : w.heap.size ≤ gb114)); replace HB := As_.mk (below_step sqh hb); clear hb hbox hg; obtain ⟨hcz15_0, hcz15_1, hcz15_2, hcz15_3, hcz15_4, hcz15_5, hfz15_0, hfz15_1, hfz15_2, hfz15_3, hfz15_4, hfz15_5⟩ := sd6 BK114.out) | ((with_reducible refine gate_callee (f := 124) rfl ?_); refine goesL_ (some 19) rfl rfl Try.func124 sqk rfl #[.int .i64 a0_1, .int .i64 1] rfl sqm ?_; (with_reducible refine (impl_HasKind.calls a0_1 1 true _ A11.out).mono ?_); rintro e w' ⟨rfl, ⟨nd, rfl⟩⟩; refine ⟨_, rfl, ?_⟩) | (go_at_call 124; (with_reducible refine (impl_HasKind.calls a0_2 2 t118 _ A13.out).mono ?_); rintro e w' ⟨rfl, ⟨nd, rfl⟩⟩))
    go_ret
    exact ⟨sqe, sqh⟩
   ·replace c12 := Bool.eq_false_iff.mpr c12
    subst c12
    replace H := iF H
    obtain rfl := Option.some.inj H
    go_enter Try.func103, Try.ntmps103
    go_wp2_with (first | ((with_reducible refine gate_dst (N := 1) rfl ?_); refine bx (N := 1) (cs := #[.int .i64 a0_0, .int .i64 a0_1, .int .i64 a0_2, .int .i64 a0_3, .int .i64 a0_4, .int .i64 a0_5]) (t := 55) ?_; intro gb114 hg w16 hbox hb; have BK114 := As_.mk (hbox); have GW114 := As_.mk ((z103_0 : w.heap.size ≤ gb114)); have GE114 := As_.mk ((z103_0 : w.heap.size ≤ gb114)); replace HB := As_.mk (below_step sqh hb); clear hb hbox hg; obtain ⟨hcz17_0, hcz17_1, hcz17_2, hcz17_3, hcz17_4, hcz17_5, hfz17_0, hfz17_1, hfz17_2, hfz17_3, hfz17_4, hfz17_5⟩ := sd6 BK114.out) | ((with_reducible refine gate_callee (f := 124) rfl ?_); refine goesL_ (some 19) rfl rfl Try.func124 sqk rfl #[.int .i64 a0_1, .int .i64 1] rfl sqm ?_; (with_reducible refine (impl_HasKind.calls a0_1 1 false _ A11.out).mono ?_); rintro e w' ⟨rfl, ⟨nd, rfl⟩⟩; refine ⟨_, rfl, ?_⟩))
    go_ret
    exact ⟨sqe, sqh⟩
  ·rw [if_neg c10] at H
   have c10b0 : (a0_0 == 2) = false := beq_eq_false_iff_ne.mpr c10
   have c10b1 : (a0_0 != 2) = true := bne_iff_ne.mpr c10
   by_cases c18 : a0_0 = 3
   ·rw [if_pos c18] at H
    have c18b0 : (a0_0 == 3) = true := beq_iff_eq.mpr c18
    have c18b1 : (a0_0 != 3) = false := bne_eq_false_iff_eq.mpr c18
    clear c18
    obtain ⟨t119, A19, H⟩ := bA H
    by_cases c20 : t119 = true
    ·subst c20
     replace H := iT H
     obtain ⟨t120, A21, H⟩ := bA H
     obtain rfl := Option.some.inj H
     go_enter Try.func103, Try.ntmps103
     go_wp2_with (first | ((with_reducible refine gate_dst (N := 1) rfl ?_); refine bx (N := 1) (cs := #[.int .i64 a0_0, .int .i64 a0_1, .int .i64 a0_2, .int .i64 a0_3, .int .i64 a0_4, .int .i64 a0_5]) (t := 55) ?_; intro gb114 hg w22 hbox hb; have BK114 := As_.mk (hbox); have GW114 := As_.mk ((z103_0 : w.heap.size ≤ gb114)); have GE114 := As_.mk ((z103_0 : w.heap.size ≤ gb114)); replace HB := As_.mk (below_step sqh hb); clear hb hbox hg; obtain ⟨hcz23_0, hcz23_1, hcz23_2, hcz23_3, hcz23_4, hcz23_5, hfz23_0, hfz23_1, hfz23_2, hfz23_3, hfz23_4, hfz23_5⟩ := sd6 BK114.out) | ((with_reducible refine gate_callee (f := 124) rfl ?_); refine goesL_ (some 29) rfl rfl Try.func124 sqk rfl #[.int .i64 a0_1, .int .i64 2] rfl sqm ?_; (with_reducible refine (impl_HasKind.calls a0_1 2 true _ A19.out).mono ?_); rintro e w' ⟨rfl, ⟨nd, rfl⟩⟩; refine ⟨_, rfl, ?_⟩) | (go_at_call 75; (with_reducible refine (impl_InRange.calls a0_2 0 3 t120 _ A21.out).mono ?_); rintro e w' ⟨rfl, ⟨nd, rfl⟩⟩))
     go_ret
     exact ⟨sqe, sqh⟩
    ·replace c20 := Bool.eq_false_iff.mpr c20
     subst c20
     replace H := iF H
     obtain rfl := Option.some.inj H
     go_enter Try.func103, Try.ntmps103
     go_wp2_with (first | ((with_reducible refine gate_dst (N := 1) rfl ?_); refine bx (N := 1) (cs := #[.int .i64 a0_0, .int .i64 a0_1, .int .i64 a0_2, .int .i64 a0_3, .int .i64 a0_4, .int .i64 a0_5]) (t := 55) ?_; intro gb114 hg w24 hbox hb; have BK114 := As_.mk (hbox); have GW114 := As_.mk ((z103_0 : w.heap.size ≤ gb114)); have GE114 := As_.mk ((z103_0 : w.heap.size ≤ gb114)); replace HB := As_.mk (below_step sqh hb); clear hb hbox hg; obtain ⟨hcz25_0, hcz25_1, hcz25_2, hcz25_3, hcz25_4, hcz25_5, hfz25_0, hfz25_1, hfz25_2, hfz25_3, hfz25_4, hfz25_5⟩ := sd6 BK114.out) | ((with_reducible refine gate_callee (f := 124) rfl ?_); refine goesL_ (some 29) rfl rfl Try.func124 sqk rfl #[.int .i64 a0_1, .int .i64 2] rfl sqm ?_; (with_reducible refine (impl_HasKind.calls a0_1 2 false _ A19.out).mono ?_); rintro e w' ⟨rfl, ⟨nd, rfl⟩⟩; refine ⟨_, rfl, ?_⟩))
     go_ret
     exact ⟨sqe, sqh⟩
   ·rw [if_neg c18] at H
    have c18b0 : (a0_0 == 3) = false := beq_eq_false_iff_ne.mpr c18
    have c18b1 : (a0_0 != 3) = true := bne_iff_ne.mpr c18
    by_cases c26 : a0_0 = 4
    ·rw [if_pos c26] at H
     have c26b0 : (a0_0 == 4) = true := beq_iff_eq.mpr c26
     have c26b1 : (a0_0 != 4) = false := bne_eq_false_iff_eq.mpr c26
     clear c26
     obtain ⟨t121, A27, H⟩ := bA H
     by_cases c28 : t121 = true
     ·subst c28
      replace H := iT H
      obtain ⟨t122, A29, H⟩ := bA H
      obtain rfl := Option.some.inj H
      go_enter Try.func103, Try.ntmps103
      go_wp2_with (first | ((with_reducible refine gate_dst (N := 1) rfl ?_); refine bx (N := 1) (cs := #[.int .i64 a0_0, .int .i64 a0_1, .int .i64 a0_2, .int .i64 a0_3, .int .i64 a0_4, .int .i64 a0_5]) (t := 55) ?_; intro gb114 hg w30 hbox hb; have BK114 := As_.mk (hbox); have GW114 := As_.mk ((z103_0 : w.heap.size ≤ gb114)); have GE114 := As_.mk ((z103_0 : w.heap.size ≤ gb114)); replace HB := As_.mk (below_step sqh hb); clear hb hbox hg; obtain ⟨hcz31_0, hcz31_1, hcz31_2, hcz31_3, hcz31_4, hcz31_5, hfz31_0, hfz31_1, hfz31_2, hfz31_3, hfz31_4, hfz31_5⟩ := sd6 BK114.out) | ((with_reducible refine gate_callee (f := 124) rfl ?_); refine goesL_ (some 39) rfl rfl Try.func124 sqk rfl #[.int .i64 a0_1, .int .i64 3] rfl sqm ?_; (with_reducible refine (impl_HasKind.calls a0_1 3 true _ A27.out).mono ?_); rintro e w' ⟨rfl, ⟨nd, rfl⟩⟩; refine ⟨_, rfl, ?_⟩) | (go_at_call 75; (with_reducible refine (impl_InRange.calls a0_2 0 3 t122 _ A29.out).mono ?_); rintro e w' ⟨rfl, ⟨nd, rfl⟩⟩))
      go_ret
      exact ⟨sqe, sqh⟩
     ·replace c28 := Bool.eq_false_iff.mpr c28
      subst c28
      replace H := iF H
      obtain rfl := Option.some.inj H
      go_enter Try.func103, Try.ntmps103
      go_wp2_with (first | ((with_reducible refine gate_dst (N := 1) rfl ?_); refine bx (N := 1) (cs := #[.int .i64 a0_0, .int .i64 a0_1, .int .i64 a0_2, .int .i64 a0_3, .int .i64 a0_4, .int .i64 a0_5]) (t := 55) ?_; intro gb114 hg w32 hbox hb; have BK114 := As_.mk (hbox); have GW114 := As_.mk ((z103_0 : w.heap.size ≤ gb114)); have GE114 := As_.mk ((z103_0 : w.heap.size ≤ gb114)); replace HB := As_.mk (below_step sqh hb); clear hb hbox hg; obtain ⟨hcz33_0, hcz33_1, hcz33_2, hcz33_3, hcz33_4, hcz33_5, hfz33_0, hfz33_1, hfz33_2, hfz33_3, hfz33_4, hfz33_5⟩ := sd6 BK114.out) | ((with_reducible refine gate_callee (f := 124) rfl ?_); refine goesL_ (some 39) rfl rfl Try.func124 sqk rfl #[.int .i64 a0_1, .int .i64 3] rfl sqm ?_; (with_reducible refine (impl_HasKind.calls a0_1 3 false _ A27.out).mono ?_); rintro e w' ⟨rfl, ⟨nd, rfl⟩⟩; refine ⟨_, rfl, ?_⟩))
      go_ret
      exact ⟨sqe, sqh⟩
    ·rw [if_neg c26] at H
     have c26b0 : (a0_0 == 4) = false := beq_eq_false_iff_ne.mpr c26
     have c26b1 : (a0_0 != 4) = true := bne_iff_ne.mpr c26
     obtain rfl := Option.some.inj H
     go_enter Try.func103, Try.ntmps103
     go_wp2_with (first | ((with_reducible refine gate_dst (N := 1) rfl ?_); refine bx (N := 1) (cs := #[.int .i64 a0_0, .int .i64 a0_1, .int .i64 a0_2, .int .i64 a0_3, .int .i64 a0_4, .int .i64 a0_5]) (t := 55) ?_; intro gb114 hg w34 hbox hb; have BK114 := As_.mk (hbox); have GW114 := As_.mk ((z103_0 : w.heap.size ≤ gb114)); have GE114 := As_.mk ((z103_0 : w.heap.size ≤ gb114)); replace HB := As_.mk (below_step sqh hb); clear hb hbox hg; obtain ⟨hcz35_0, hcz35_1, hcz35_2, hcz35_3, hcz35_4, hcz35_5, hfz35_0, hfz35_1, hfz35_2, hfz35_3, hfz35_4, hfz35_5⟩ := sd6 BK114.out))
     go_ret
     exact ⟨sqe, sqh⟩

/-! ### impl_IsFact: function 61 -/
def impl_IsFact.f (a0_0 : Int) (a0_1 : Int) (a0_2 : Int) (a0_3 : Int) (a0_4 : Int) (a0_5 : Int) : Option (Bool) := (impl_isClaim.f a0_0 a0_1 a0_2 a0_3 a0_4 a0_5).bind fun t124 => (if t124 = true then ((impl_InRange.f a0_3 0 9).bind fun t125 => (if t125 = true then ((impl_IsTime.f a0_4).bind fun t126 => (if t126 = true then ((impl_IsTime.f a0_5).bind fun t127 => (if t127 = true then (some (decide (a0_4 ≤ a0_5))) else (some false))) else (some false))) else (some false))) else (some false))
theorem z61_0 {Q : Prop} (g : Q := by rw [hg]; exact (below_size sqh)) : Q := g
set_option maxHeartbeats 8000000 in
set_option maxRecDepth 100000 in
theorem impl_IsFact.calls (a0_0 : Int) (a0_1 : Int) (a0_2 : Int) (a0_3 : Int) (a0_4 : Int) (a0_5 : Int) (r : Bool) (w : World) (h : impl_IsFact.f a0_0 a0_1 a0_2 a0_3 a0_4 a0_5 = some r) :
  Calls Try.prog 61 #[.agg #[.int .i64 a0_0, .int .i64 a0_1, .int .i64 a0_2, .int .i64 a0_3, .int .i64 a0_4, .int .i64 a0_5]] w fun e w' => e = .returned (.bool r) ∧ Below w.heap.size w w' := by
 have hu55 := Try.underlying55
 have HB := As_.mk (Below.refl w.heap.size w)
 have H : ((impl_isClaim.f a0_0 a0_1 a0_2 a0_3 a0_4 a0_5).bind fun t124 => (if t124 = true then ((impl_InRange.f a0_3 0 9).bind fun t125 => (if t125 = true then ((impl_IsTime.f a0_4).bind fun t126 => (if t126 = true then ((impl_IsTime.f a0_5).bind fun t127 => (if t127 = true then (some (decide (a0_4 ≤ a0_5))) else (some false))) else (some false))) else (some false))) else (some false))) = some r := h
 clear h
 obtain ⟨t124, A2, H⟩ := bA H
 by_cases c3 : t124 = true
 ·subst c3
  replace H := iT H
  obtain ⟨t125, A4, H⟩ := bA H
  by_cases c5 : t125 = true
  ·subst c5
   replace H := iT H
   obtain ⟨t126, A6, H⟩ := bA H
   by_cases c7 : t126 = true
   ·subst c7
    replace H := iT H
    obtain ⟨t127, A8, H⟩ := bA H
    by_cases c9 : t127 = true
    ·subst c9
     replace H := iT H
     obtain rfl := Option.some.inj H
     go_enter Try.func61, Try.ntmps61
     go_wp2_with (first | ((with_reducible refine gate_dst (N := 1) rfl ?_); refine bx (N := 1) (cs := #[.int .i64 a0_0, .int .i64 a0_1, .int .i64 a0_2, .int .i64 a0_3, .int .i64 a0_4, .int .i64 a0_5]) (t := 55) ?_; intro gb123 hg w10 hbox hb; have BK123 := As_.mk (hbox); have GW123 := As_.mk ((z61_0 : w.heap.size ≤ gb123)); have GE123 := As_.mk ((z61_0 : w.heap.size ≤ gb123)); replace HB := As_.mk (below_step sqh hb); clear hb hbox hg; obtain ⟨hcz11_0, hcz11_1, hcz11_2, hcz11_3, hcz11_4, hcz11_5, hfz11_0, hfz11_1, hfz11_2, hfz11_3, hfz11_4, hfz11_5⟩ := sd6 BK123.out) | ((with_reducible refine gate_callee (f := 103) rfl ?_); refine goesL_ (some 4) rfl rfl Try.func103 sqk rfl #[.agg #[.int .i64 a0_0, .int .i64 a0_1, .int .i64 a0_2, .int .i64 a0_3, .int .i64 a0_4, .int .i64 a0_5]] rfl sqm ?_; (with_reducible refine (impl_isClaim.calls a0_0 a0_1 a0_2 a0_3 a0_4 a0_5 true _ A2.out).mono ?_); rintro e w12 ⟨rfl, hb⟩; refine ⟨_, rfl, ?_⟩; replace BK123 := As_.mk (blk_below (bo BK123) hb); replace HB := As_.mk (below_step sqh hb); (try clear hb); obtain ⟨hcz13_0, hcz13_1, hcz13_2, hcz13_3, hcz13_4, hcz13_5, hfz13_0, hfz13_1, hfz13_2, hfz13_3, hfz13_4, hfz13_5⟩ := sd6 BK123.out) | (go_at_call 75; (with_reducible refine (impl_InRange.calls a0_3 0 9 true _ A4.out).mono ?_); rintro e w' ⟨rfl, ⟨nd, rfl⟩⟩) | (go_at_call 83; (with_reducible refine (impl_IsTime.calls a0_4 true _ A6.out).mono ?_); rintro e w' ⟨rfl, ⟨nd, rfl⟩⟩) | (go_at_call 83; (with_reducible refine (impl_IsTime.calls a0_5 true _ A8.out).mono ?_); rintro e w' ⟨rfl, ⟨nd, rfl⟩⟩))
     go_ret
     exact ⟨sqe, sqh⟩
    ·replace c9 := Bool.eq_false_iff.mpr c9
     subst c9
     replace H := iF H
     obtain rfl := Option.some.inj H
     go_enter Try.func61, Try.ntmps61
     go_wp2_with (first | ((with_reducible refine gate_dst (N := 1) rfl ?_); refine bx (N := 1) (cs := #[.int .i64 a0_0, .int .i64 a0_1, .int .i64 a0_2, .int .i64 a0_3, .int .i64 a0_4, .int .i64 a0_5]) (t := 55) ?_; intro gb123 hg w14 hbox hb; have BK123 := As_.mk (hbox); have GW123 := As_.mk ((z61_0 : w.heap.size ≤ gb123)); have GE123 := As_.mk ((z61_0 : w.heap.size ≤ gb123)); replace HB := As_.mk (below_step sqh hb); clear hb hbox hg; obtain ⟨hcz15_0, hcz15_1, hcz15_2, hcz15_3, hcz15_4, hcz15_5, hfz15_0, hfz15_1, hfz15_2, hfz15_3, hfz15_4, hfz15_5⟩ := sd6 BK123.out) | ((with_reducible refine gate_callee (f := 103) rfl ?_); refine goesL_ (some 4) rfl rfl Try.func103 sqk rfl #[.agg #[.int .i64 a0_0, .int .i64 a0_1, .int .i64 a0_2, .int .i64 a0_3, .int .i64 a0_4, .int .i64 a0_5]] rfl sqm ?_; (with_reducible refine (impl_isClaim.calls a0_0 a0_1 a0_2 a0_3 a0_4 a0_5 true _ A2.out).mono ?_); rintro e w16 ⟨rfl, hb⟩; refine ⟨_, rfl, ?_⟩; replace BK123 := As_.mk (blk_below (bo BK123) hb); replace HB := As_.mk (below_step sqh hb); (try clear hb); obtain ⟨hcz17_0, hcz17_1, hcz17_2, hcz17_3, hcz17_4, hcz17_5, hfz17_0, hfz17_1, hfz17_2, hfz17_3, hfz17_4, hfz17_5⟩ := sd6 BK123.out) | (go_at_call 75; (with_reducible refine (impl_InRange.calls a0_3 0 9 true _ A4.out).mono ?_); rintro e w' ⟨rfl, ⟨nd, rfl⟩⟩) | (go_at_call 83; (with_reducible refine (impl_IsTime.calls a0_4 true _ A6.out).mono ?_); rintro e w' ⟨rfl, ⟨nd, rfl⟩⟩) | (go_at_call 83; (with_reducible refine (impl_IsTime.calls a0_5 false _ A8.out).mono ?_); rintro e w' ⟨rfl, ⟨nd, rfl⟩⟩))
     go_ret
     exact ⟨sqe, sqh⟩
   ·replace c7 := Bool.eq_false_iff.mpr c7
    subst c7
    replace H := iF H
    obtain rfl := Option.some.inj H
    go_enter Try.func61, Try.ntmps61
    go_wp2_with (first | ((with_reducible refine gate_dst (N := 1) rfl ?_); refine bx (N := 1) (cs := #[.int .i64 a0_0, .int .i64 a0_1, .int .i64 a0_2, .int .i64 a0_3, .int .i64 a0_4, .int .i64 a0_5]) (t := 55) ?_; intro gb123 hg w18 hbox hb; have BK123 := As_.mk (hbox); have GW123 := As_.mk ((z61_0 : w.heap.size ≤ gb123)); have GE123 := As_.mk ((z61_0 : w.heap.size ≤ gb123)); replace HB := As_.mk (below_step sqh hb); clear hb hbox hg; obtain ⟨hcz19_0, hcz19_1, hcz19_2, hcz19_3, hcz19_4, hcz19_5, hfz19_0, hfz19_1, hfz19_2, hfz19_3, hfz19_4, hfz19_5⟩ := sd6 BK123.out) | ((with_reducible refine gate_callee (f := 103) rfl ?_); refine goesL_ (some 4) rfl rfl Try.func103 sqk rfl #[.agg #[.int .i64 a0_0, .int .i64 a0_1, .int .i64 a0_2, .int .i64 a0_3, .int .i64 a0_4, .int .i64 a0_5]] rfl sqm ?_; (with_reducible refine (impl_isClaim.calls a0_0 a0_1 a0_2 a0_3 a0_4 a0_5 true _ A2.out).mono ?_); rintro e w20 ⟨rfl, hb⟩; refine ⟨_, rfl, ?_⟩; replace BK123 := As_.mk (blk_below (bo BK123) hb); replace HB := As_.mk (below_step sqh hb); (try clear hb); obtain ⟨hcz21_0, hcz21_1, hcz21_2, hcz21_3, hcz21_4, hcz21_5, hfz21_0, hfz21_1, hfz21_2, hfz21_3, hfz21_4, hfz21_5⟩ := sd6 BK123.out) | (go_at_call 75; (with_reducible refine (impl_InRange.calls a0_3 0 9 true _ A4.out).mono ?_); rintro e w' ⟨rfl, ⟨nd, rfl⟩⟩) | (go_at_call 83; (with_reducible refine (impl_IsTime.calls a0_4 false _ A6.out).mono ?_); rintro e w' ⟨rfl, ⟨nd, rfl⟩⟩))
    go_ret
    exact ⟨sqe, sqh⟩
  ·replace c5 := Bool.eq_false_iff.mpr c5
   subst c5
   replace H := iF H
   obtain rfl := Option.some.inj H
   go_enter Try.func61, Try.ntmps61
   go_wp2_with (first | ((with_reducible refine gate_dst (N := 1) rfl ?_); refine bx (N := 1) (cs := #[.int .i64 a0_0, .int .i64 a0_1, .int .i64 a0_2, .int .i64 a0_3, .int .i64 a0_4, .int .i64 a0_5]) (t := 55) ?_; intro gb123 hg w22 hbox hb; have BK123 := As_.mk (hbox); have GW123 := As_.mk ((z61_0 : w.heap.size ≤ gb123)); have GE123 := As_.mk ((z61_0 : w.heap.size ≤ gb123)); replace HB := As_.mk (below_step sqh hb); clear hb hbox hg; obtain ⟨hcz23_0, hcz23_1, hcz23_2, hcz23_3, hcz23_4, hcz23_5, hfz23_0, hfz23_1, hfz23_2, hfz23_3, hfz23_4, hfz23_5⟩ := sd6 BK123.out) | ((with_reducible refine gate_callee (f := 103) rfl ?_); refine goesL_ (some 4) rfl rfl Try.func103 sqk rfl #[.agg #[.int .i64 a0_0, .int .i64 a0_1, .int .i64 a0_2, .int .i64 a0_3, .int .i64 a0_4, .int .i64 a0_5]] rfl sqm ?_; (with_reducible refine (impl_isClaim.calls a0_0 a0_1 a0_2 a0_3 a0_4 a0_5 true _ A2.out).mono ?_); rintro e w24 ⟨rfl, hb⟩; refine ⟨_, rfl, ?_⟩; replace BK123 := As_.mk (blk_below (bo BK123) hb); replace HB := As_.mk (below_step sqh hb); (try clear hb); obtain ⟨hcz25_0, hcz25_1, hcz25_2, hcz25_3, hcz25_4, hcz25_5, hfz25_0, hfz25_1, hfz25_2, hfz25_3, hfz25_4, hfz25_5⟩ := sd6 BK123.out) | (go_at_call 75; (with_reducible refine (impl_InRange.calls a0_3 0 9 false _ A4.out).mono ?_); rintro e w' ⟨rfl, ⟨nd, rfl⟩⟩))
   go_ret
   exact ⟨sqe, sqh⟩
 ·replace c3 := Bool.eq_false_iff.mpr c3
  subst c3
  replace H := iF H
  obtain rfl := Option.some.inj H
  go_enter Try.func61, Try.ntmps61
  go_wp2_with (first | ((with_reducible refine gate_dst (N := 1) rfl ?_); refine bx (N := 1) (cs := #[.int .i64 a0_0, .int .i64 a0_1, .int .i64 a0_2, .int .i64 a0_3, .int .i64 a0_4, .int .i64 a0_5]) (t := 55) ?_; intro gb123 hg w26 hbox hb; have BK123 := As_.mk (hbox); have GW123 := As_.mk ((z61_0 : w.heap.size ≤ gb123)); have GE123 := As_.mk ((z61_0 : w.heap.size ≤ gb123)); replace HB := As_.mk (below_step sqh hb); clear hb hbox hg; obtain ⟨hcz27_0, hcz27_1, hcz27_2, hcz27_3, hcz27_4, hcz27_5, hfz27_0, hfz27_1, hfz27_2, hfz27_3, hfz27_4, hfz27_5⟩ := sd6 BK123.out) | ((with_reducible refine gate_callee (f := 103) rfl ?_); refine goesL_ (some 4) rfl rfl Try.func103 sqk rfl #[.agg #[.int .i64 a0_0, .int .i64 a0_1, .int .i64 a0_2, .int .i64 a0_3, .int .i64 a0_4, .int .i64 a0_5]] rfl sqm ?_; (with_reducible refine (impl_isClaim.calls a0_0 a0_1 a0_2 a0_3 a0_4 a0_5 false _ A2.out).mono ?_); rintro e w28 ⟨rfl, hb⟩; refine ⟨_, rfl, ?_⟩; replace BK123 := As_.mk (blk_below (bo BK123) hb); replace HB := As_.mk (below_step sqh hb); (try clear hb)))
  go_ret
  exact ⟨sqe, sqh⟩

/-! ### impl_Mod: function 130 -/
def impl_Mod.f (a0 : Int) (a1 : Int) : Option (Int) := (impl_InRange.f a1 1 1000000000000).bind fun t128 => (if t128 = true then (if a1 = 0 then (none) else (some (Int.tmod (wrap64 ((Int.tmod a0 a1) + a1)) a1))) else (some 0))
set_option maxHeartbeats 8000000 in
set_option maxRecDepth 100000 in
theorem impl_Mod.calls (a0 : Int) (a1 : Int) (r : Int) (w : World) (h : impl_Mod.f a0 a1 = some r) :
  Calls Try.prog 130 #[.int .i64 a0, .int .i64 a1] w fun e w' => e = .returned (.int .i64 r) ∧ Drawn0 w w' := by
 have H : ((impl_InRange.f a1 1 1000000000000).bind fun t128 => (if t128 = true then (if a1 = 0 then (none) else (some (Int.tmod (wrap64 ((Int.tmod a0 a1) + a1)) a1))) else (some 0))) = some r := h
 clear h
 obtain ⟨t128, A3, H⟩ := bA H
 by_cases c4 : t128 = true
 ·subst c4
  replace H := iT H
  by_cases c5 : a1 = 0
  ·rw [if_pos c5] at H
   exact absurd H (by simp)
  ·rw [if_neg c5] at H
   have c5b0 : (a1 == 0) = false := beq_eq_false_iff_ne.mpr c5
   have c5b1 : (a1 != 0) = true := bne_iff_ne.mpr c5
   obtain rfl := Option.some.inj H
   go_enter Try.func130, Try.ntmps130
   go_wp2_with (first | ((with_reducible refine gate_callee (f := 75) rfl ?_); refine goesL_ (some 6) rfl rfl Try.func75 sqk rfl #[.int .i64 a1, .int .i64 1, .int .i64 1000000000000] rfl sqm ?_; (with_reducible refine (impl_InRange.calls a1 1 1000000000000 true _ A3.out).mono ?_); rintro e w' ⟨rfl, ⟨nd, rfl⟩⟩; refine ⟨_, rfl, ?_⟩))
   go_ret
   exact ⟨sqr, by repeat (first | exact Drawn0.refl _ | apply Drawn0.step)⟩
 ·replace c4 := Bool.eq_false_iff.mpr c4
  subst c4
  replace H := iF H
  obtain rfl := Option.some.inj H
  go_enter Try.func130, Try.ntmps130
  go_wp2_with (first | ((with_reducible refine gate_callee (f := 75) rfl ?_); refine goesL_ (some 6) rfl rfl Try.func75 sqk rfl #[.int .i64 a1, .int .i64 1, .int .i64 1000000000000] rfl sqm ?_; (with_reducible refine (impl_InRange.calls a1 1 1000000000000 false _ A3.out).mono ?_); rintro e w' ⟨rfl, ⟨nd, rfl⟩⟩; refine ⟨_, rfl, ?_⟩))
  go_ret
  exact ⟨sqr, by repeat (first | exact Drawn0.refl _ | apply Drawn0.step)⟩

end Go.Proofs.Ytabpgiebhgkfhaa.XFnIssuers
