/- Written by this session's own program (wip/xprint, which runs over the kit's print): what the functions that the law reaches come to, each proved; and the law's row. Conditions: none. -/
import Derived.Test.YtlmhemcpkmjkiaaUFnAppraisalSq
import Derived.Test.YtlmhemcpkmjkiaaUFnAppraisalx0
import Derived.Test.YtlmhemcpkmjkiaaUFnAppraisalx2
namespace Go.Proofs.Ytlmhemcpkmjkiaa.XFnAppraisal
open Go.RowKit Go.Proofs.YtlmhemcpkmjkiaaW.PrintWords Go.Proofs.YtlmhemcpkmjkiaaW.PrintLast Go.Proofs.YtlmhemcpkmjkiaaW.PrintMore Go.Proofs.YtlmhemcpkmjkiaaSq
attribute [local go_sem] max2_int min2_int max_two min_two max_three min_three max_four min_four   -- for this text's walks alone
set_option linter.unusedVariables false
set_option linter.unusedSimpArgs false

/-! ### impl_isAscending: function 79 -/
def impl_isAscending.l0 : Nat → List Int → Int → Int → List Int → Int → Int → Option (Bool)
 | 0, _, _, _, _, _, _ => none
 | k + 1, x0, x1, x2, x9, x10, x11 => if x11 < x10 then (if 0 ≤ x11 then (if x11 < (x9.length : Int) then ((impl_InRange.f (rd x9 x11) x1 x2).bind fun t115 => (if t115 = true then (if x11 > 0 then (if 0 ≤ (wrap64 (x11 - 1)) then (if (wrap64 (x11 - 1)) < (x0.length : Int) then (if (rd x0 (wrap64 (x11 - 1))) ≥ (rd x9 x11) then (some false) else (impl_isAscending.l0 k x0 x1 x2 x9 x10 (wrap64 (x11 + 1)))) else (none)) else (none)) else (impl_isAscending.l0 k x0 x1 x2 x9 x10 (wrap64 (x11 + 1)))) else (some false))) else (none)) else (none)) else (some true)
def impl_isAscending.f (k : Nat) (l0 : List Int) (a1 : Int) (a2 : Int) : Option (Bool) := impl_isAscending.l0 k l0 a1 a2 l0 (l0.length : Int) 0
set_option maxHeartbeats 8000000 in
set_option maxRecDepth 100000 in
theorem impl_isAscending.calls (k : Nat) (A0 : Option Addr) (c0 : Nat) (l0 : List Int) (a1 : Int) (a2 : Int) (r : Bool) (w : World) (hr0 : Kd.C (Kd.int .i64) w A0 l0.length l0) (hc0 : l0.length ≤ c0) (h : impl_isAscending.f k l0 a1 a2 = some r) :
  Calls Try.prog 79 #[.slice A0 l0.length c0, .int .i64 a1, .int .i64 a2] w fun e w' => e = .returned (.bool r) ∧ Drawn0 w w' := by
 have HR0 := Aside0.mk hr0
 have HC0 := Aside0.mk hc0
 clear hr0 hc0
 have H : (impl_isAscending.l0 k l0 a1 a2 l0 (l0.length : Int) 0) = some r := h
 clear h
 have H' := Aside0.mk H
 clear H
 go_enter Try.func79, Try.ntmps79
 go_wp2
 go_loopg [11] k (fun kq v11 w' => ∃ (x11_1 : Int), v11 = .int .i64 x11_1 ∧ Aside0 (impl_isAscending.l0 kq l0 a1 a2 l0 (l0.length : Int) x11_1 = some r) ∧ Aside0 (kq ≤ k) ∧ Drawn0 w w')
 case atStart => exact ⟨(0), sqr, H', ⟨Nat.le_refl _⟩, by repeat (first | exact Drawn0.refl _ | apply Drawn0.step)⟩
 case round =>
  clear H'; try clear p2
  obtain ⟨x11_1, rfl, HA, HK1, ⟨m1, rfl⟩⟩ := hrel
  cases gk with
  | zero => exact absurd HA.out (by simp [impl_isAscending.l0])
  | succ k1 =>
   have H := HA.out
   clear HA
   simp only [impl_isAscending.l0] at H
   by_cases c4 : x11_1 < (l0.length : Int)
   ·rw [if_pos c4] at H
    have c4b0 : decide (x11_1 < (l0.length : Int)) = true := decide_eq_true c4
    clear c4
    by_cases c5 : 0 ≤ x11_1
    ·rw [if_pos c5] at H
     have c5b0 : decide (0 ≤ x11_1) = true := decide_eq_true c5
     clear c5
     by_cases c6 : x11_1 < (l0.length : Int)
     ·rw [if_pos c6] at H
      have c6b0 : decide (x11_1 < (l0.length : Int)) = true := decide_eq_true c6
      clear c6
      obtain ⟨t115, A7, H⟩ := bA H
      by_cases c8 : t115 = true
      ·subst c8
       replace H := iT H
       by_cases c9 : x11_1 > 0
       ·rw [if_pos c9] at H
        have c9b0 : decide (0 < x11_1) = true := decide_eq_true c9
        clear c9
        obtain ⟨ji10, hji10⟩ : ∃ j_ : Int, (wrap64 (x11_1 - 1)) = j_ := ⟨_, rfl⟩
        replace H : (if 0 ≤ (ji10) then (if (ji10) < (l0.length : Int) then (if (rd l0 (ji10)) ≥ (rd l0 x11_1) then (some false) else (impl_isAscending.l0 k1 l0 a1 a2 l0 (l0.length : Int) (wrap64 (x11_1 + 1)))) else (none)) else (none)) = some r := by first | (rw [hji10] at H; exact H) | (simp only [hji10] at H ⊢; exact H)
        (try rw [hji10] at A7)
        have hji10w : (IntKind.i64.wrap (x11_1 - 1)) = ji10 := (i64_w _).trans hji10
        by_cases c11 : 0 ≤ (ji10)
        ·rw [if_pos c11] at H
         have c11b0 : decide (0 ≤ (ji10)) = true := decide_eq_true c11
         clear c11
         by_cases c12 : (ji10) < (l0.length : Int)
         ·rw [if_pos c12] at H
          have c12b0 : decide ((ji10) < (l0.length : Int)) = true := decide_eq_true c12
          clear c12
          by_cases c13 : (rd l0 (ji10)) ≥ (rd l0 x11_1)
          ·rw [if_pos c13] at H
           have c13b0 : decide ((rd l0 x11_1) ≤ (rd l0 (ji10))) = true := decide_eq_true c13
           clear c13
           obtain rfl := Option.some.inj H
           have p114 : 0 ≤ (x11_1 : Int) := of_decide_eq_true sqs
           have q114 : x11_1 < (l0.length : Int) := of_decide_eq_true sqs
           obtain ⟨ad114, e114, hx114_0⟩ := Kd.at_int HR0.out x11_1 p114 q114
           cases e114
           replace p114 := eq_true p114
           replace q114 := eq_true q114
           go_wp2_with (first | ((with_reducible refine gate_callee (f := 70) rfl ?_); refine goesL_ (some 19) rfl rfl Try.func70 sqk rfl #[.int .i64 (rd l0 x11_1), .int .i64 a1, .int .i64 a2] rfl sqm ?_; (with_reducible refine (impl_InRange.calls (rd l0 x11_1) a1 a2 true _ A7.out).mono ?_); rintro e w' ⟨rfl, ⟨nd, rfl⟩⟩; refine ⟨_, rfl, ?_⟩; have p116 : 0 ≤ ((ji10) : Int) := of_decide_eq_true sqs; have q116 : (ji10) < (l0.length : Int) := of_decide_eq_true sqs; obtain ⟨ad116, e116, hx116_0⟩ := Kd.at_int HR0.out (ji10) p116 q116; obtain rfl : ad114 = ad116 := (by injection e116); replace p116 := eq_true p116; replace q116 := eq_true q116))
           go_ret
           exact ⟨by first | rfl | (simp; done) | (simp only [← hji10] <;> (first | rfl | simp)) | (simp [*]; done), by repeat (first | exact Drawn0.refl _ | apply Drawn0.step)⟩
          ·rw [if_neg c13] at H
           have c13b0 : decide ((rd l0 x11_1) ≤ (rd l0 (ji10))) = false := decide_eq_false c13
           clear c13
           have H' := Aside0.mk H
           clear H
           have p114 : 0 ≤ (x11_1 : Int) := of_decide_eq_true sqs
           have q114 : x11_1 < (l0.length : Int) := of_decide_eq_true sqs
           obtain ⟨ad114, e114, hx114_0⟩ := Kd.at_int HR0.out x11_1 p114 q114
           cases e114
           replace p114 := eq_true p114
           replace q114 := eq_true q114
           go_wp2_with (first | ((with_reducible refine gate_callee (f := 70) rfl ?_); refine goesL_ (some 19) rfl rfl Try.func70 sqk rfl #[.int .i64 (rd l0 x11_1), .int .i64 a1, .int .i64 a2] rfl sqm ?_; (with_reducible refine (impl_InRange.calls (rd l0 x11_1) a1 a2 true _ A7.out).mono ?_); rintro e w' ⟨rfl, ⟨nd, rfl⟩⟩; refine ⟨_, rfl, ?_⟩; have p116 : 0 ≤ ((ji10) : Int) := of_decide_eq_true sqs; have q116 : (ji10) < (l0.length : Int) := of_decide_eq_true sqs; obtain ⟨ad116, e116, hx116_0⟩ := Kd.at_int HR0.out (ji10) p116 q116; obtain rfl : ad114 = ad116 := (by injection e116); replace p116 := eq_true p116; replace q116 := eq_true q116))
           go_roundg k1
           case measure => have := HK1.out; omega
           case rel => exact ⟨(wrap64 (x11_1 + 1)), sqr, H', ⟨by have := HK1.out; omega⟩, by repeat (first | exact Drawn0.refl _ | apply Drawn0.step)⟩
         ·rw [if_neg c12] at H
          exact absurd H (by simp)
        ·rw [if_neg c11] at H
         exact absurd H (by simp)
       ·rw [if_neg c9] at H
        have c9b0 : decide (0 < x11_1) = false := decide_eq_false c9
        clear c9
        have H' := Aside0.mk H
        clear H
        have p114 : 0 ≤ (x11_1 : Int) := of_decide_eq_true sqs
        have q114 : x11_1 < (l0.length : Int) := of_decide_eq_true sqs
        obtain ⟨ad114, e114, hx114_0⟩ := Kd.at_int HR0.out x11_1 p114 q114
        cases e114
        replace p114 := eq_true p114
        replace q114 := eq_true q114
        go_wp2_with (first | ((with_reducible refine gate_callee (f := 70) rfl ?_); refine goesL_ (some 19) rfl rfl Try.func70 sqk rfl #[.int .i64 (rd l0 x11_1), .int .i64 a1, .int .i64 a2] rfl sqm ?_; (with_reducible refine (impl_InRange.calls (rd l0 x11_1) a1 a2 true _ A7.out).mono ?_); rintro e w' ⟨rfl, ⟨nd, rfl⟩⟩; refine ⟨_, rfl, ?_⟩))
        go_roundg k1
        case measure => have := HK1.out; omega
        case rel => exact ⟨(wrap64 (x11_1 + 1)), sqr, H', ⟨by have := HK1.out; omega⟩, by repeat (first | exact Drawn0.refl _ | apply Drawn0.step)⟩
      ·replace c8 := Bool.eq_false_iff.mpr c8
       subst c8
       replace H := iF H
       obtain rfl := Option.some.inj H
       have p114 : 0 ≤ (x11_1 : Int) := of_decide_eq_true sqs
       have q114 : x11_1 < (l0.length : Int) := of_decide_eq_true sqs
       obtain ⟨ad114, e114, hx114_0⟩ := Kd.at_int HR0.out x11_1 p114 q114
       cases e114
       replace p114 := eq_true p114
       replace q114 := eq_true q114
       go_wp2_with (first | ((with_reducible refine gate_callee (f := 70) rfl ?_); refine goesL_ (some 19) rfl rfl Try.func70 sqk rfl #[.int .i64 (rd l0 x11_1), .int .i64 a1, .int .i64 a2] rfl sqm ?_; (with_reducible refine (impl_InRange.calls (rd l0 x11_1) a1 a2 false _ A7.out).mono ?_); rintro e w' ⟨rfl, ⟨nd, rfl⟩⟩; refine ⟨_, rfl, ?_⟩))
       go_ret
       exact ⟨sqr, by repeat (first | exact Drawn0.refl _ | apply Drawn0.step)⟩
     ·rw [if_neg c6] at H
      exact absurd H (by simp)
    ·rw [if_neg c5] at H
     exact absurd H (by simp)
   ·rw [if_neg c4] at H
    have c4b0 : decide (x11_1 < (l0.length : Int)) = false := decide_eq_false c4
    clear c4
    obtain rfl := Option.some.inj H
    go_wp2
    go_ret
    exact ⟨sqr, by repeat (first | exact Drawn0.refl _ | apply Drawn0.step)⟩

-- NOT PRINTED: function 141 (slices_IndexFunc_int_int)

-- NOT PRINTED: function 127 (slices_ContainsFunc_int_int)

/-! ### impl_areApart: function 80 -/
/-- The first index of l at which p, or -1. -/
def impl_areApart.idx (p : Int → Bool) (l : List Int) : Int := ((List.range l.length).find? fun i => p (l.getD i 0)).elim (-1) fun i => (i : Int)
theorem impl_areApart.idx_hit (p : Int → Bool) (l : List Int) (i : Nat) (hi : i < l.length) (hp : p (l.getD i 0) = true) (hn : ∀ j, j < i → p (l.getD j 0) = false) : impl_areApart.idx p l = (i : Int) := by
 have hf : ((List.range l.length).find? fun i => p (l.getD i 0)) = some i := by
  rw [List.find?_range_eq_some]
  exact ⟨hp, by simpa using hi, fun j hj => by simpa using hn j hj⟩
 unfold impl_areApart.idx
 rw [hf]
 rfl
theorem impl_areApart.idx_miss (p : Int → Bool) (l : List Int) (hn : ∀ j, j < l.length → p (l.getD j 0) = false) : impl_areApart.idx p l = -1 := by
 have hf : ((List.range l.length).find? fun i => p (l.getD i 0)) = none := by
  rw [List.find?_eq_none]
  intro x hx
  have := hn x (by simpa using hx)
  simpa using this
 unfold impl_areApart.idx
 rw [hf]
 rfl
theorem impl_areApart.idx_cases (p : Int → Bool) (l : List Int) : impl_areApart.idx p l = -1 ∨ ∃ i : Nat, i < l.length ∧ impl_areApart.idx p l = (i : Int) := by
 unfold impl_areApart.idx
 cases hf : (List.range l.length).find? fun i => p (l.getD i 0) with
 | none => exact .inl rfl
 | some i =>
  rw [List.find?_range_eq_some] at hf
  exact .inr ⟨i, by simpa using hf.2.1, rfl⟩
def impl_areApart.has (l : List Int) (n : Int) : Bool := (List.range l.length).any fun i => l.getD i 0 == n
theorem impl_areApart.has_of (l : List Int) (n : Int) (hl : l.length ≤ 1099511627776) : ∃ k, slices_Contains_int_int.f k l n = some (impl_areApart.has l n) := by
 have h1 : slices_Index_int_int.f (l.length + 1) l n = some (((List.range l.length).find? fun i => l.getD i 0 == n).elim (-1) fun i => (i : Int)) := by
  unfold slices_Index_int_int.f
  refine Go.Proofs.YtlmhemcpkmjkiaaLib.findLoop (fun k i => slices_Index_int_int.l0 k l n (l.length : Int) i) l.length 0 (fun i => l.getD i 0 == n) (fun i => (i : Int)) (-1) ?_ ?_ ?_ (l.length + 1) (by omega)
  ·intro k i _ hi hp
   have hp' : ¬ l.getD i 0 = n := by simpa using hp
   simp only [slices_Index_int_int.l0, Go.Proofs.YtlmhemcpkmjkiaaLib.rd_nat]
   rw [if_pos (by omega), if_pos (by omega), if_pos (by omega), if_neg (fun h => hp' h.symm), Go.Proofs.YtlmhemcpkmjkiaaLib.wrap_succ hi hl]
  ·intro k i _ hi hp
   have hp' : l.getD i 0 = n := by simpa using hp
   simp only [slices_Index_int_int.l0, Go.Proofs.YtlmhemcpkmjkiaaLib.rd_nat]
   rw [if_pos (by omega), if_pos (by omega), if_pos (by omega), if_pos hp'.symm]
  ·intro k _
   simp only [slices_Index_int_int.l0]
   rw [if_neg (by omega)]
 refine ⟨l.length + 1, ?_⟩
 unfold slices_Contains_int_int.f impl_areApart.has
 rw [h1, Option.bind_some]
 congr 1
 cases hf : (List.range l.length).find? fun i => l.getD i 0 == n with
 | none =>
  rw [List.find?_eq_none] at hf
  show decide ((-1 : Int) ≥ 0) = _
  rw [eq_comm, show decide ((-1 : Int) ≥ 0) = false from rfl, List.any_eq_false]
  exact hf
 | some i =>
  rw [List.find?_range_eq_some] at hf
  show decide ((i : Int) ≥ 0) = _
  rw [eq_comm, decide_eq_true (show (i : Int) ≥ 0 by omega), List.any_eq_true]
  exact ⟨i, hf.2.1, hf.1⟩
def impl_areApart.out (b : List Int) (n : Int) : Bool := impl_areApart.has b n
set_option maxRecDepth 100000 in
set_option maxHeartbeats 1000000 in
theorem impl_areApart.closure (n : Int) (b : List Int) (Ab : Option Addr) (cb : Nat) (B1 : Nat) (W : World) (h1 : W.cell? ⟨B1, 0, none⟩ = some (.slice Ab b.length cb)) (hrb : Kd.C (Kd.int .i64) W Ab b.length b) (hcb : b.length ≤ cb) (hlb : b.length ≤ 1099511627776) :
  Calls Try.prog 128 #[.int .i64 n, .pointer (some ⟨B1, 0, none⟩)] W fun e w' => e = .returned (.bool (impl_areApart.out b n)) ∧ Below W.heap.size W w' := by
 obtain ⟨k, hk⟩ := impl_areApart.has_of b n hlb
 have HK := Aside0.mk hk
 have HR := Aside0.mk hrb
 have HC := Aside0.mk hcb
 clear hk hrb hcb
 unfold impl_areApart.out
 generalize impl_areApart.has b n = r at HK ⊢
 go_enter Try.func128, Try.ntmps128
 go_wp2_with (first | (go_at_call 75; refine (slices_Contains_int_int.calls k _ _ b n r _ HR.out HC.out HK.out).mono ?_; rintro e w' ⟨rfl, ⟨nd, rfl⟩⟩))
 go_ret
 exact ⟨rfl, by repeat (first | exact Below.refl _ _ | apply pw_below_drewN | apply below_drew)⟩
set_option maxRecDepth 100000 in
set_option maxHeartbeats 4000000 in
theorem impl_areApart.indexFunc (A : Option Addr) (c : Nat) (l : List Int) (b : List Int) (Ab : Option Addr) (cb : Nat) (B1 : Nat) (w : World) (hr : Kd.C (Kd.int .i64) w A l.length l) (h1 : w.cell? ⟨B1, 0, none⟩ = some (.slice Ab b.length cb)) (hrb : Kd.C (Kd.int .i64) w Ab b.length b) (hcb : b.length ≤ cb) (hlb : b.length ≤ 1099511627776) :
  Calls Try.prog 141 #[.slice A l.length c, .func (.func 128) #[] #[.pointer (some ⟨B1, 0, none⟩)]] w fun e w' => e = .returned (.int .i64 (impl_areApart.idx (impl_areApart.out b) l)) ∧ Below w.heap.size w w' := by
 have hb1 := World.block_lt_of_cell? w _ h1
 have HR := Aside0.mk hr
 have hmax : l.length ≤ 9223372036854775807 := Kd.C_max hr
 clear hr
 have H1 := Aside0.mk h1
 clear h1
 have HB1 := Aside0.mk hb1
 clear hb1
 have Xhrb := Aside0.mk hrb
 clear hrb
 have Xhcb := Aside0.mk hcb
 clear hcb
 have Xhlb := Aside0.mk hlb
 clear hlb
 go_enter Try.func141, Try.ntmps141
 go_wp2
 go_loopg [5, 8] l.length (fun gg _ s8 wr => ∃ kk : Nat, kk ≤ l.length ∧ l.length - kk ≤ gg ∧ s8 = .int .i64 kk ∧ Aside0 (Below w.heap.size w wr) ∧ Aside0 (∀ j, j < kk → impl_areApart.out b (l.getD j 0) = false))
 case atStart => exact ⟨0, Nat.zero_le _, by omega, rfl, ⟨Below.refl _ w⟩, ⟨fun j hj => absurd hj (Nat.not_lt_zero _)⟩⟩
 case round =>
  obtain ⟨kk, hkk, hg, rfl, BW, AA⟩ := hrel
  by_cases hlt : kk < l.length
  ·have hltz : (kk : Int) < (l.length : Int) := by omega
   obtain ⟨ad, e, hx0⟩ := Kd.at_int HR.out (kk : Int) (by omega) hltz
   subst e
   replace hx0 := (BW.out.cell (World.block_lt_of_cell? w _ hx0)).trans hx0
   rw [Int.toNat_natCast] at hx0
   have hcall := impl_areApart.closure (rd l (kk : Int)) b Ab cb B1 wr ((BW.out.cell (p := ⟨B1, 0, none⟩) HB1.out).trans H1.out) (Kd.C_below Xhrb.out BW.out) (Xhcb.out) (Xhlb.out)
   have hrd : rd l (kk : Int) = l.getD kk 0 := by unfold rd; rw [Int.toNat_natCast]
   generalize hy : rd l (kk : Int) = y at hx0 hcall hrd
   clear hy
   have HY := Aside0.mk hrd
   clear hrd
   cases hq : impl_areApart.out b y with
   | true =>
    rw [hq] at hcall
    have HQ := Aside0.mk hq
    clear hq
    go_wp2_with (first | (go_at_call 128; refine hcall.mono ?_; rintro e w' ⟨rfl, hb'⟩))
    go_ret
    exact ⟨by rw [impl_areApart.idx_hit (impl_areApart.out b) l kk hlt (by rw [← HY.out]; exact HQ.out) AA.out]; rfl, below_then BW.out BW.out.size hb'⟩
   | false =>
    rw [hq] at hcall
    have HQ := Aside0.mk hq
    clear hq
    go_wp2_with (first | (go_at_call 128; refine hcall.mono ?_; rintro e w' ⟨rfl, hb'⟩))
    go_roundg (l.length - (kk + 1))
    case measure => omega
    case rel =>
     refine ⟨kk + 1, by omega, by omega, by go_num, ⟨below_then BW.out BW.out.size hb'⟩, ⟨fun j hj => ?_⟩⟩
     rcases Nat.lt_succ_iff_lt_or_eq.1 hj with hj | rfl
     ·exact AA.out j hj
     ·rw [← HY.out]; exact HQ.out
  ·have hltz : ¬ (kk : Int) < (l.length : Int) := by omega
   obtain rfl : kk = l.length := by omega
   go_wp2
   go_ret
   exact ⟨by rw [impl_areApart.idx_miss (impl_areApart.out b) l AA.out]; rfl, BW.out⟩
set_option maxRecDepth 100000 in
set_option maxHeartbeats 1000000 in
theorem impl_areApart.containsFunc (A : Option Addr) (c : Nat) (l : List Int) (b : List Int) (Ab : Option Addr) (cb : Nat) (B1 : Nat) (w : World) (hr : Kd.C (Kd.int .i64) w A l.length l) (h1 : w.cell? ⟨B1, 0, none⟩ = some (.slice Ab b.length cb)) (hrb : Kd.C (Kd.int .i64) w Ab b.length b) (hcb : b.length ≤ cb) (hlb : b.length ≤ 1099511627776) :
  Calls Try.prog 127 #[.slice A l.length c, .func (.func 128) #[] #[.pointer (some ⟨B1, 0, none⟩)]] w fun e w' => e = .returned (.bool (decide (0 ≤ impl_areApart.idx (impl_areApart.out b) l))) ∧ Below w.heap.size w w' := by
 have hcall := impl_areApart.indexFunc A c l b Ab cb B1 w hr h1 hrb hcb hlb
 clear hr h1 hrb hcb hlb
 generalize impl_areApart.idx (impl_areApart.out b) l = r at hcall ⊢
 go_enter Try.func127, Try.ntmps127
 go_wp2_with (first | (go_at_call 141; refine hcall.mono ?_; rintro e w' ⟨rfl, hb'⟩))
 go_ret
 exact ⟨rfl, hb'⟩
/-- No number occurs in both. -/
def impl_areApart.f (l0 l1 : List Int) : Option (Bool) := if l1.length ≤ 1099511627776 then some (!decide (0 ≤ impl_areApart.idx (impl_areApart.out l1) l0)) else none
set_option maxRecDepth 100000 in
set_option maxHeartbeats 1000000 in
theorem impl_areApart.calls (A0 : Option Addr) (c0 : Nat) (l0 : List Int) (A1 : Option Addr) (c1 : Nat) (l1 : List Int) (r : Bool) (w : World) (hr0 : Kd.C (Kd.int .i64) w A0 l0.length l0) (hc0 : l0.length ≤ c0) (hr1 : Kd.C (Kd.int .i64) w A1 l1.length l1) (hc1 : l1.length ≤ c1) (h : impl_areApart.f l0 l1 = some r) :
  Calls Try.prog 80 #[.slice A0 l0.length c0, .slice A1 l1.length c1] w fun e w' => e = .returned (.bool r) ∧ Below w.heap.size w w' := by
 unfold impl_areApart.f at h
 split at h
 ·rename_i hl
  obtain rfl := Option.some.inj h
  have hcall := impl_areApart.containsFunc A0 c0 l0 l1 A1 c1 w.heap.size (w.alloc (.cells #[.slice A1 l1.length c1] 28)) (Kd.C_alloc hr0 _) (by simp) (Kd.C_alloc hr1 _) hc1 hl
  clear hr0 hc0 hr1 hc1 h hl
  generalize decide (0 ≤ impl_areApart.idx (impl_areApart.out l1) l0) = r at hcall ⊢
  go_enter Try.func80, Try.ntmps80
  go_wp2_with (first | (go_at_call 127; refine hcall.mono ?_; rintro e w' ⟨rfl, hb'⟩))
  go_ret
  exact ⟨rfl, ((Below.refl w.heap.size w).alloc (Nat.le_refl _) _).trans (hb'.mono (by simp))⟩
 ·cases h

/-! ### impl_IsAllowed: function 32 -/
def impl_IsAllowed.l0 : Nat → List (List Int) → Int → Int → Int → List Int → List Int → List Int → Option (Bool)
 | 0, _, _, _, _, _, _, _ => none
 | k + 1, x11, x12, x13, x118000, x118001, x118002, x118003 => if x13 < x12 then (if 0 ≤ x13 then (if x13 < (x11.length : Int) then (if ((rd_L1 x11 x13).length : Int) > 8 then (some false) else ((impl_isAscending.f k (rd_L1 x11 x13) 0 99).bind fun t122 => (if t122 = true then (impl_IsAllowed.l0 k x11 x12 (wrap64 (x13 + 1)) x118000 x118001 x118002 x118003) else (some false)))) else (none)) else (none)) else (if x118000 ≥ 0 then ((impl_areApart.f x118001 x118002).bind fun t123 => (if t123 = true then ((impl_areApart.f x118001 x118003).bind fun t124 => (if t124 = true then ((impl_areApart.f x118002 x118003).bind fun t125 => (some t125)) else (some false))) else (some false))) else (some false))
def impl_IsAllowed.f (k : Nat) (a0_0 : Int) (l0_1 : List Int) (l0_2 : List Int) (l0_3 : List Int) : Option (Bool) := (some (([l0_1, l0_2, l0_3] : List (List Int)) : List (List Int))).bind fun y118 => (impl_IsAllowed.l0 k y118 (y118.length : Int) 0 a0_0 l0_1 l0_2 l0_3)
theorem z32_0 {Q : Prop} (g : Q := by (with_reducible repeat (first | apply Kd.V_alloc | apply Kd.V_drewN | apply Kd.V_drew)); exact HO_118003.out) : Q := g
theorem z32_1 {Q : Prop} (g : Q := by (with_reducible repeat (first | apply Kd.V_alloc | apply Kd.V_drewN | apply Kd.V_drew)); exact HO_118002.out) : Q := g
theorem z32_2 {Q : Prop} (g : Q := by (with_reducible repeat (first | apply Kd.V_alloc | apply Kd.V_drewN | apply Kd.V_drew)); exact HO_118001.out) : Q := g
theorem z32_3 {Q : Prop} (g : Q := by (with_reducible repeat (first | apply Kd.N_alloc | apply Kd.N_drewN | apply Kd.N_drew)); exact HO_11.out) : Q := g
set_option maxHeartbeats 8000000 in
set_option maxRecDepth 100000 in
theorem impl_IsAllowed.calls (k : Nat) (a0_0 : Int) (P0_1_ : Nat → Prop) (A0_1 : Option Addr) (c0_1 : Nat) (l0_1 : List Int) (P0_2_ : Nat → Prop) (A0_2 : Option Addr) (c0_2 : Nat) (l0_2 : List Int) (P0_3_ : Nat → Prop) (A0_3 : Option Addr) (c0_3 : Nat) (l0_3 : List Int) (r : Bool) (w : World) (hs0_1 : Kd.V (Kd.int .i64) 3 w w.heap.size (fun k_ => P0_1_ k_) (.slice A0_1 l0_1.length c0_1) l0_1) (hs0_2 : Kd.V (Kd.int .i64) 3 w w.heap.size (fun k_ => P0_2_ k_) (.slice A0_2 l0_2.length c0_2) l0_2) (hs0_3 : Kd.V (Kd.int .i64) 3 w w.heap.size (fun k_ => P0_3_ k_) (.slice A0_3 l0_3.length c0_3) l0_3) (h : impl_IsAllowed.f k a0_0 l0_1 l0_2 l0_3 = some r) :
  Calls Try.prog 32 #[.agg #[.int .i64 a0_0, .slice A0_1 l0_1.length c0_1, .slice A0_2 l0_2.length c0_2, .slice A0_3 l0_3.length c0_3]] w fun e w' => e = .returned (.bool r) ∧ Below w.heap.size w w' := by
 have hu33 := Try.underlying33
 have HO0_1 := Aside0.mk (show Kd.V (Kd.int .i64) 3 w w.heap.size (fun k_ => ((P0_1_ k_ ∨ P0_2_ k_ ∨ P0_3_ k_) ∨ w.heap.size ≤ k_)) (.slice A0_1 l0_1.length c0_1) l0_1 from Kd.V_mono hs0_1 (fun k_ hk => .inl (.inl hk)))
 have HO0_2 := Aside0.mk (show Kd.V (Kd.int .i64) 3 w w.heap.size (fun k_ => ((P0_1_ k_ ∨ P0_2_ k_ ∨ P0_3_ k_) ∨ w.heap.size ≤ k_)) (.slice A0_2 l0_2.length c0_2) l0_2 from Kd.V_mono hs0_2 (fun k_ hk => .inl (.inr (.inl hk))))
 have HO0_3 := Aside0.mk (show Kd.V (Kd.int .i64) 3 w w.heap.size (fun k_ => ((P0_1_ k_ ∨ P0_2_ k_ ∨ P0_3_ k_) ∨ w.heap.size ≤ k_)) (.slice A0_3 l0_3.length c0_3) l0_3 from Kd.V_mono hs0_3 (fun k_ hk => .inl (.inr (.inr hk))))
 have HB := Aside0.mk (Below.refl w.heap.size w)
 have H : ((some (([l0_1, l0_2, l0_3] : List (List Int)) : List (List Int))).bind fun y118 => (impl_IsAllowed.l0 k y118 (y118.length : Int) 0 a0_0 l0_1 l0_2 l0_3)) = some r := h
 clear h
 obtain ⟨y118, hy118⟩ : ∃ y_ : List (List Int), y_ = (([l0_1, l0_2, l0_3] : List (List Int))) := ⟨_, rfl⟩
 replace H : (impl_IsAllowed.l0 k y118 (y118.length : Int) 0 a0_0 l0_1 l0_2 l0_3) = some r := by first | (rw [hy118]; with_reducible exact H) | (have H2_ := (Option.bind_some _ _).symm.trans H; rw [hy118]; with_reducible exact H2_) | (have H2_ := (Option.bind_some _ _).symm.trans H; with_reducible exact H2_) | with_reducible exact H | (rw [hy118]; exact H) | exact H
 have Ny118 := Aside0.mk hy118
 clear hy118
 have H' := Aside0.mk H
 clear H
 go_enter Try.func32, Try.ntmps32
 go_wp2_with (first | ((with_reducible refine gate_dst (N := 1) rfl ?_); refine bx (N := 1) (cs := #[.int .i64 a0_0, .slice A0_1 l0_1.length c0_1, .slice A0_2 l0_2.length c0_2, .slice A0_3 l0_3.length c0_3]) (t := 33) ?_; intro gb117 hg w2 hbox hb; replace HO0_1 := Aside0.mk (Kd.V_below (Kd.V_elderB (by (with_reducible repeat (first | apply Kd.V_alloc | apply Kd.V_drewN | apply Kd.V_drew)); exact HO0_1.out) gb117 (Nat.le_of_eq hg.symm)) hb); replace HO0_2 := Aside0.mk (Kd.V_below (Kd.V_elderB (by (with_reducible repeat (first | apply Kd.V_alloc | apply Kd.V_drewN | apply Kd.V_drew)); exact HO0_2.out) gb117 (Nat.le_of_eq hg.symm)) hb); replace HO0_3 := Aside0.mk (Kd.V_below (Kd.V_elderB (by (with_reducible repeat (first | apply Kd.V_alloc | apply Kd.V_drewN | apply Kd.V_drew)); exact HO0_3.out) gb117 (Nat.le_of_eq hg.symm)) hb); have BK117 := Aside0.mk (hbox); have GW117 := Aside0.mk ((by rw [hg]; exact (below_size sqh) : w.heap.size ≤ gb117)); have GE117 := Aside0.mk ((by rw [hg]; exact (below_size sqh) : w.heap.size ≤ gb117)); replace HB := Aside0.mk (below_step sqh hb); clear hb hbox hg; obtain ⟨hcz3_0, hcz3_1, hcz3_2, hcz3_3, hfz3_0, hfz3_1, hfz3_2, hfz3_3⟩ := sd4 BK117.out) | ((with_reducible refine gate_dst (N := 11) rfl ?_); refine Kd.N_lit (Kd.slice 3 (Kd.int .i64)) _ 28 ?hg (N' := 11) ?hd (xs := ([l0_1, l0_2, l0_3] : List (List Int))) (inner := [.slice A0_1 l0_1.length c0_1, .slice A0_2 l0_2.length c0_2, .slice A0_3 l0_3.length c0_3]) (ok := (fun k_ => ((P0_1_ k_ ∨ P0_2_ k_ ∨ P0_3_ k_) ∨ w.heap.size ≤ k_) ∧ k_ ≠ gb117)) (okp := (fun k_ => ((P0_1_ k_ ∨ P0_2_ k_ ∨ P0_3_ k_) ∨ w.heap.size ≤ k_) ∧ k_ ≠ gb117)) ?hr ?hp (fun _ hk => hk) ((show ∀ k_, w2.heap.size ≤ k_ → (fun k_ => ((P0_1_ k_ ∨ P0_2_ k_ ∨ P0_3_ k_) ∨ w.heap.size ≤ k_) ∧ k_ ≠ gb117) k_ from fun k_ hk => ⟨(.inr (Nat.le_trans (below_size sqh) hk)), Kd.freshB (bo BK117) k_ hk⟩) _ (Nat.le_refl _)) (Below.refl _ _) (Nat.le_refl _) (by simp) ?_; (case hd => rfl); (case hg => rfl); (case hr => first | (go_simp; done) | (go_simp; rfl)); (case hp => exact (Reps.one (show Kd.FK (Kd.slice 3 (Kd.int .i64)) _ _ l0_1 [.slice A0_1 l0_1.length c0_1] from (Kd.FK_slice_mk (Kd.V_reads' (Kd.V_mono (ok' := (fun k_ => ((P0_1_ k_ ∨ P0_2_ k_ ∨ P0_3_ k_) ∨ w.heap.size ≤ k_) ∧ k_ ≠ gb117)) (HO0_1.out) (fun k_ hk => ⟨hk.1, hk.2⟩))).2.1 (Kd.V_F (Kd.V_mono (ok' := (fun k_ => ((P0_1_ k_ ∨ P0_2_ k_ ∨ P0_3_ k_) ∨ w.heap.size ≤ k_) ∧ k_ ≠ gb117)) (HO0_1.out) (fun k_ hk => ⟨hk.1, hk.2⟩))))) (Reps.one (show Kd.FK (Kd.slice 3 (Kd.int .i64)) _ _ l0_2 [.slice A0_2 l0_2.length c0_2] from (Kd.FK_slice_mk (Kd.V_reads' (Kd.V_mono (ok' := (fun k_ => ((P0_1_ k_ ∨ P0_2_ k_ ∨ P0_3_ k_) ∨ w.heap.size ≤ k_) ∧ k_ ≠ gb117)) (HO0_2.out) (fun k_ hk => ⟨hk.1, hk.2⟩))).2.1 (Kd.V_F (Kd.V_mono (ok' := (fun k_ => ((P0_1_ k_ ∨ P0_2_ k_ ∨ P0_3_ k_) ∨ w.heap.size ≤ k_) ∧ k_ ≠ gb117)) (HO0_2.out) (fun k_ hk => ⟨hk.1, hk.2⟩))))) (Reps.one (show Kd.FK (Kd.slice 3 (Kd.int .i64)) _ _ l0_3 [.slice A0_3 l0_3.length c0_3] from (Kd.FK_slice_mk (Kd.V_reads' (Kd.V_mono (ok' := (fun k_ => ((P0_1_ k_ ∨ P0_2_ k_ ∨ P0_3_ k_) ∨ w.heap.size ≤ k_) ∧ k_ ≠ gb117)) (HO0_3.out) (fun k_ hk => ⟨hk.1, hk.2⟩))).2.1 (Kd.V_F (Kd.V_mono (ok' := (fun k_ => ((P0_1_ k_ ∨ P0_2_ k_ ∨ P0_3_ k_) ∨ w.heap.size ≤ k_) ∧ k_ ≠ gb117)) (HO0_3.out) (fun k_ hk => ⟨hk.1, hk.2⟩))))) (Reps.none _ _))))); intro v119 w4 ho5 hb hg_ hnew_; clear hg_ hnew_; (first | rw [← Ny118.out] at ho5 | (simp only [Int.reduceToNat] at ho5; rw [← Ny118.out] at ho5)); replace HO0_1 := Aside0.mk (Kd.V_elder' (by (with_reducible repeat (first | apply Kd.V_alloc | apply Kd.V_drewN | apply Kd.V_drew)); exact HO0_1.out) (Kd.N_base ho5) hb); replace HO0_2 := Aside0.mk (Kd.V_elder' (by (with_reducible repeat (first | apply Kd.V_alloc | apply Kd.V_drewN | apply Kd.V_drew)); exact HO0_2.out) (Kd.N_base ho5) hb); replace HO0_3 := Aside0.mk (Kd.V_elder' (by (with_reducible repeat (first | apply Kd.V_alloc | apply Kd.V_drewN | apply Kd.V_drew)); exact HO0_3.out) (Kd.N_base ho5) hb); have HO120 := Aside0.mk (Kd.N_lower ho5 (below_size sqh)); replace BK117 := Aside0.mk (blk_below (bo BK117) hb); replace HB := Aside0.mk (below_step sqh hb); clear hb ho5; obtain ⟨Ao6, co6, eo6⟩ := Kd.N_slice HO120.out; subst eo6))
 go_loopg [13] k (fun kq v13 w' => ∃ (x13_1 : Int), v13 = .int .i64 x13_1 ∧ Aside0 (impl_IsAllowed.l0 kq y118 (y118.length : Int) x13_1 a0_0 l0_1 l0_2 l0_3 = some r) ∧ Aside0 (kq ≤ k) ∧ Aside0 (Kd.N (Kd.slice 3 (Kd.int .i64)) 28 w' w.heap.size (fun k_ => ((P0_1_ k_ ∨ P0_2_ k_ ∨ P0_3_ k_) ∨ w.heap.size ≤ k_) ∧ k_ ≠ gb117) (.slice Ao6 y118.length co6) y118) ∧ Aside0 (Kd.V (Kd.int .i64) 3 w' w.heap.size (fun k_ => ((P0_1_ k_ ∨ P0_2_ k_ ∨ P0_3_ k_) ∨ w.heap.size ≤ k_) ∧ some k_ ≠ ((.slice Ao6 y118.length co6) : Value).ownBlock ∧ k_ ≠ gb117) (.slice A0_1 l0_1.length c0_1) l0_1) ∧ Aside0 (Kd.V (Kd.int .i64) 3 w' w.heap.size (fun k_ => ((P0_1_ k_ ∨ P0_2_ k_ ∨ P0_3_ k_) ∨ w.heap.size ≤ k_) ∧ some k_ ≠ ((.slice Ao6 y118.length co6) : Value).ownBlock ∧ k_ ≠ gb117) (.slice A0_2 l0_2.length c0_2) l0_2) ∧ Aside0 (Kd.V (Kd.int .i64) 3 w' w.heap.size (fun k_ => ((P0_1_ k_ ∨ P0_2_ k_ ∨ P0_3_ k_) ∨ w.heap.size ≤ k_) ∧ some k_ ≠ ((.slice Ao6 y118.length co6) : Value).ownBlock ∧ k_ ≠ gb117) (.slice A0_3 l0_3.length c0_3) l0_3) ∧ Aside0 (w'.heap[gb117]? = some (.cells #[.int .i64 a0_0, (.slice A0_1 l0_1.length c0_1), (.slice A0_2 l0_2.length c0_2), (.slice A0_3 l0_3.length c0_3)] 33 (0, 0))) ∧ Aside0 (Below w.heap.size w w'))
 case atStart => exact ⟨(0), sqr, H', ⟨Nat.le_refl _⟩, ⟨by (with_reducible repeat (first | apply Kd.N_alloc | apply Kd.N_drewN | apply Kd.N_drew)); exact HO120.out⟩, ⟨by (with_reducible repeat (first | apply Kd.V_alloc | apply Kd.V_drewN | apply Kd.V_drew)); exact Kd.V_mono HO0_1.out (fun _ hk => ⟨hk.1.1, ⟨hk.2, hk.1.2⟩⟩)⟩, ⟨by (with_reducible repeat (first | apply Kd.V_alloc | apply Kd.V_drewN | apply Kd.V_drew)); exact Kd.V_mono HO0_2.out (fun _ hk => ⟨hk.1.1, ⟨hk.2, hk.1.2⟩⟩)⟩, ⟨by (with_reducible repeat (first | apply Kd.V_alloc | apply Kd.V_drewN | apply Kd.V_drew)); exact Kd.V_mono HO0_3.out (fun _ hk => ⟨hk.1.1, ⟨hk.2, hk.1.2⟩⟩)⟩, ⟨sqb BK117.out⟩, ⟨sqh⟩⟩
 case round =>
  clear H'; try clear p2; try clear c3; try clear hcz3_0; try clear hcz3_1; try clear hcz3_2; try clear hcz3_3; try clear hfz3_0; try clear hfz3_1; try clear hfz3_2; try clear hfz3_3
  obtain ⟨x13_1, rfl, HA, HK1, HO_11, HO_118001, HO_118002, HO_118003, BK117, HB⟩ := hrel
  cases gk with
  | zero => exact absurd HA.out (by simp [impl_IsAllowed.l0])
  | succ k1 =>
   have H := HA.out
   clear HA
   simp only [impl_IsAllowed.l0] at H
   by_cases c7 : x13_1 < (y118.length : Int)
   ·rw [if_pos c7] at H
    have c7b0 : decide (x13_1 < (y118.length : Int)) = true := decide_eq_true c7
    clear c7
    by_cases c8 : 0 ≤ x13_1
    ·rw [if_pos c8] at H
     have c8b0 : decide (0 ≤ x13_1) = true := decide_eq_true c8
     clear c8
     by_cases c9 : x13_1 < (y118.length : Int)
     ·rw [if_pos c9] at H
      have c9b0 : decide (x13_1 < (y118.length : Int)) = true := decide_eq_true c9
      clear c9
      by_cases c10 : ((rd_L1 y118 x13_1).length : Int) > 8
      ·rw [if_pos c10] at H
       have c10b0 : decide (8 < ((rd_L1 y118 x13_1).length : Int)) = true := decide_eq_true c10
       have c10b1 : decide (8 < (rd_L1 y118 x13_1).length) = true := decide_eq_true (by omega)
       clear c10
       obtain rfl := Option.some.inj H
       have p121 : 0 ≤ (x13_1 : Int) := of_decide_eq_true sqs
       have q121 : x13_1 < (y118.length : Int) := of_decide_eq_true sqs
       obtain ⟨ad121, A121_0, c121_0, e121, hx121_0, hl121_0, hi121_0⟩ := at_L1 (Kd.N_reads' HO_11.out).2.2 x13_1 p121 q121
       cases e121
       obtain ⟨ce121, hce121, hMe121, hcc121⟩ := Kd.N_get HO_11.out [] x13_1 p121 (by first | exact q121 | exact of_decide_eq_true sqs | (have e_ := (Kd.N_reads' HO_11.out).1; omega))
       obtain ⟨ua121_0, uc121_0, rfl, ul121_0, ge121_0⟩ := Kd.FK_slice_open hMe121
       have hv121_0 := hcc121 0 _ rfl
       rw [Nat.add_zero, show ((Kd.slice 3 (Kd.int .i64))).sz = 1 from rfl, Nat.mul_one] at hv121_0
       replace hv121_0 := Option.some.inj (hv121_0.symm.trans hx121_0)
       injection hv121_0 with hva_ hvn_ hvc_
       rw [hva_] at ge121_0
       rw [hvc_] at ul121_0
       have HL121_0 := Aside0.mk (show Kd.V (Kd.int .i64) 3 _ w.heap.size _ _ (rd_L1 y118 x13_1) from Kd.V_mk ul121_0 ge121_0)
       clear hva_ hvn_ hvc_ ge121_0 ul121_0; clear hcc121 hce121
       have HR121_0 := Aside0.mk hi121_0
       have HC121_0 := Aside0.mk hl121_0
       clear hi121_0 hl121_0
       replace p121 := eq_true p121
       replace q121 := eq_true q121
       go_wp2
       go_ret
       exact ⟨sqe, sqh⟩
      ·rw [if_neg c10] at H
       have c10b0 : decide (8 < ((rd_L1 y118 x13_1).length : Int)) = false := decide_eq_false c10
       have c10b1 : decide (8 < (rd_L1 y118 x13_1).length) = false := decide_eq_false (by omega)
       clear c10
       obtain ⟨t122, A11, H⟩ := bA H
       by_cases c12 : t122 = true
       ·subst c12
        replace H := iT H
        have H' := Aside0.mk H
        clear H
        have p121 : 0 ≤ (x13_1 : Int) := of_decide_eq_true sqs
        have q121 : x13_1 < (y118.length : Int) := of_decide_eq_true sqs
        obtain ⟨ad121, A121_0, c121_0, e121, hx121_0, hl121_0, hi121_0⟩ := at_L1 (Kd.N_reads' HO_11.out).2.2 x13_1 p121 q121
        cases e121
        obtain ⟨ce121, hce121, hMe121, hcc121⟩ := Kd.N_get HO_11.out [] x13_1 p121 (by first | exact q121 | exact of_decide_eq_true sqs | (have e_ := (Kd.N_reads' HO_11.out).1; omega))
        obtain ⟨ua121_0, uc121_0, rfl, ul121_0, ge121_0⟩ := Kd.FK_slice_open hMe121
        have hv121_0 := hcc121 0 _ rfl
        rw [Nat.add_zero, show ((Kd.slice 3 (Kd.int .i64))).sz = 1 from rfl, Nat.mul_one] at hv121_0
        replace hv121_0 := Option.some.inj (hv121_0.symm.trans hx121_0)
        injection hv121_0 with hva_ hvn_ hvc_
        rw [hva_] at ge121_0
        rw [hvc_] at ul121_0
        have HL121_0 := Aside0.mk (show Kd.V (Kd.int .i64) 3 _ w.heap.size _ _ (rd_L1 y118 x13_1) from Kd.V_mk ul121_0 ge121_0)
        clear hva_ hvn_ hvc_ ge121_0 ul121_0; clear hcc121 hce121
        have HR121_0 := Aside0.mk hi121_0
        have HC121_0 := Aside0.mk hl121_0
        clear hi121_0 hl121_0
        replace p121 := eq_true p121
        replace q121 := eq_true q121
        go_wp2_with (first | (go_at_call 79; (with_reducible refine (impl_isAscending.calls k1 _ _ (rd_L1 y118 x13_1) 0 99 true _ ?side1 ?side2 A11.out).mono ?_); (case side1 => repeat (first | exact (by repeat (first | (with_reducible exact HR121_0.out) | (with_reducible refine Kd.C_alloc ?_ _) | (with_reducible refine Kd.C_drewN ?_ _) | (with_reducible refine Kd.C_drew ?_) | exact HR121_0.out)) | (with_reducible refine Kd.C_alloc ?_ _) | (with_reducible refine Kd.C_drewN ?_ _) | (with_reducible refine Kd.C_drew ?_))); (case side2 => exact HC121_0.out); rintro e w' ⟨rfl, ⟨nd, rfl⟩⟩))
        go_roundg k1
        case measure => have := HK1.out; omega
        case rel => exact ⟨(wrap64 (x13_1 + 1)), sqr, H', ⟨by have := HK1.out; omega⟩, ⟨by (with_reducible repeat (first | apply Kd.N_alloc | apply Kd.N_drewN | apply Kd.N_drew)); exact HO_11.out⟩, ⟨by (with_reducible repeat (first | apply Kd.V_alloc | apply Kd.V_drewN | apply Kd.V_drew)); exact HO_118001.out⟩, ⟨by (with_reducible repeat (first | apply Kd.V_alloc | apply Kd.V_drewN | apply Kd.V_drew)); exact HO_118002.out⟩, ⟨by (with_reducible repeat (first | apply Kd.V_alloc | apply Kd.V_drewN | apply Kd.V_drew)); exact HO_118003.out⟩, ⟨sqb BK117.out⟩, ⟨sqh⟩⟩
       ·replace c12 := Bool.eq_false_iff.mpr c12
        subst c12
        replace H := iF H
        obtain rfl := Option.some.inj H
        have p121 : 0 ≤ (x13_1 : Int) := of_decide_eq_true sqs
        have q121 : x13_1 < (y118.length : Int) := of_decide_eq_true sqs
        obtain ⟨ad121, A121_0, c121_0, e121, hx121_0, hl121_0, hi121_0⟩ := at_L1 (Kd.N_reads' HO_11.out).2.2 x13_1 p121 q121
        cases e121
        obtain ⟨ce121, hce121, hMe121, hcc121⟩ := Kd.N_get HO_11.out [] x13_1 p121 (by first | exact q121 | exact of_decide_eq_true sqs | (have e_ := (Kd.N_reads' HO_11.out).1; omega))
        obtain ⟨ua121_0, uc121_0, rfl, ul121_0, ge121_0⟩ := Kd.FK_slice_open hMe121
        have hv121_0 := hcc121 0 _ rfl
        rw [Nat.add_zero, show ((Kd.slice 3 (Kd.int .i64))).sz = 1 from rfl, Nat.mul_one] at hv121_0
        replace hv121_0 := Option.some.inj (hv121_0.symm.trans hx121_0)
        injection hv121_0 with hva_ hvn_ hvc_
        rw [hva_] at ge121_0
        rw [hvc_] at ul121_0
        have HL121_0 := Aside0.mk (show Kd.V (Kd.int .i64) 3 _ w.heap.size _ _ (rd_L1 y118 x13_1) from Kd.V_mk ul121_0 ge121_0)
        clear hva_ hvn_ hvc_ ge121_0 ul121_0; clear hcc121 hce121
        have HR121_0 := Aside0.mk hi121_0
        have HC121_0 := Aside0.mk hl121_0
        clear hi121_0 hl121_0
        replace p121 := eq_true p121
        replace q121 := eq_true q121
        go_wp2_with (first | (go_at_call 79; (with_reducible refine (impl_isAscending.calls k1 _ _ (rd_L1 y118 x13_1) 0 99 false _ ?side1 ?side2 A11.out).mono ?_); (case side1 => repeat (first | exact (by repeat (first | (with_reducible exact HR121_0.out) | (with_reducible refine Kd.C_alloc ?_ _) | (with_reducible refine Kd.C_drewN ?_ _) | (with_reducible refine Kd.C_drew ?_) | exact HR121_0.out)) | (with_reducible refine Kd.C_alloc ?_ _) | (with_reducible refine Kd.C_drewN ?_ _) | (with_reducible refine Kd.C_drew ?_))); (case side2 => exact HC121_0.out); rintro e w' ⟨rfl, ⟨nd, rfl⟩⟩))
        go_ret
        exact ⟨sqe, sqh⟩
     ·rw [if_neg c9] at H
      exact absurd H (by simp)
    ·rw [if_neg c8] at H
     exact absurd H (by simp)
   ·rw [if_neg c7] at H
    have c7b0 : decide (x13_1 < (y118.length : Int)) = false := decide_eq_false c7
    clear c7
    by_cases c13 : a0_0 ≥ 0
    ·rw [if_pos c13] at H
     have c13b0 : decide (0 ≤ a0_0) = true := decide_eq_true c13
     clear c13
     obtain ⟨t123, A14, H⟩ := bA H
     by_cases c15 : t123 = true
     ·subst c15
      replace H := iT H
      obtain ⟨t124, A16, H⟩ := bA H
      by_cases c17 : t124 = true
      ·subst c17
       replace H := iT H
       obtain ⟨t125, A18, H⟩ := bA H
       obtain rfl := Option.some.inj H
       obtain ⟨hcz19_0, hcz19_1, hcz19_2, hcz19_3, hfz19_0, hfz19_1, hfz19_2, hfz19_3⟩ := sd4 BK117.out
       go_wp2_with (first | (go_at_call 80; (with_reducible refine (impl_areApart.calls _ _ l0_1 _ _ l0_2 true _ ?side1 ?side2 ?side3 ?side4 A14.out).mono ?_); (case side1 => repeat (first | exact (Kd.V_reads' HO_118001.out).2.2 | (with_reducible refine Kd.C_alloc ?_ _) | (with_reducible refine Kd.C_drewN ?_ _) | (with_reducible refine Kd.C_drew ?_))); (case side2 => exact (Kd.V_reads' HO_118001.out).2.1); (case side3 => repeat (first | exact (Kd.V_reads' HO_118002.out).2.2 | (with_reducible refine Kd.C_alloc ?_ _) | (with_reducible refine Kd.C_drewN ?_ _) | (with_reducible refine Kd.C_drew ?_))); (case side4 => exact (Kd.V_reads' HO_118002.out).2.1); rintro e w20 ⟨rfl, hb⟩; replace HO_11 := Aside0.mk (Kd.N_below z32_3 hb); replace HO_118001 := Aside0.mk (Kd.V_below z32_2 hb); replace HO_118002 := Aside0.mk (Kd.V_below z32_1 hb); replace HO_118003 := Aside0.mk (Kd.V_below z32_0 hb); replace BK117 := Aside0.mk (blk_below (bo BK117) hb); replace HB := Aside0.mk (below_step sqh hb); (try clear hb); obtain ⟨hcz21_0, hcz21_1, hcz21_2, hcz21_3, hfz21_0, hfz21_1, hfz21_2, hfz21_3⟩ := sd4 BK117.out) | (go_at_call 80; (with_reducible refine (impl_areApart.calls _ _ l0_1 _ _ l0_3 true _ ?side1 ?side2 ?side3 ?side4 A16.out).mono ?_); (case side1 => repeat (first | exact (Kd.V_reads' HO_118001.out).2.2 | (with_reducible refine Kd.C_alloc ?_ _) | (with_reducible refine Kd.C_drewN ?_ _) | (with_reducible refine Kd.C_drew ?_))); (case side2 => exact (Kd.V_reads' HO_118001.out).2.1); (case side3 => repeat (first | exact (Kd.V_reads' HO_118003.out).2.2 | (with_reducible refine Kd.C_alloc ?_ _) | (with_reducible refine Kd.C_drewN ?_ _) | (with_reducible refine Kd.C_drew ?_))); (case side4 => exact (Kd.V_reads' HO_118003.out).2.1); rintro e w22 ⟨rfl, hb⟩; replace HO_11 := Aside0.mk (Kd.N_below z32_3 hb); replace HO_118001 := Aside0.mk (Kd.V_below z32_2 hb); replace HO_118002 := Aside0.mk (Kd.V_below z32_1 hb); replace HO_118003 := Aside0.mk (Kd.V_below z32_0 hb); replace BK117 := Aside0.mk (blk_below (bo BK117) hb); replace HB := Aside0.mk (below_step sqh hb); (try clear hb); obtain ⟨hcz23_0, hcz23_1, hcz23_2, hcz23_3, hfz23_0, hfz23_1, hfz23_2, hfz23_3⟩ := sd4 BK117.out) | (go_at_call 80; (with_reducible refine (impl_areApart.calls _ _ l0_2 _ _ l0_3 t125 _ ?side1 ?side2 ?side3 ?side4 A18.out).mono ?_); (case side1 => repeat (first | exact (Kd.V_reads' HO_118002.out).2.2 | (with_reducible refine Kd.C_alloc ?_ _) | (with_reducible refine Kd.C_drewN ?_ _) | (with_reducible refine Kd.C_drew ?_))); (case side2 => exact (Kd.V_reads' HO_118002.out).2.1); (case side3 => repeat (first | exact (Kd.V_reads' HO_118003.out).2.2 | (with_reducible refine Kd.C_alloc ?_ _) | (with_reducible refine Kd.C_drewN ?_ _) | (with_reducible refine Kd.C_drew ?_))); (case side4 => exact (Kd.V_reads' HO_118003.out).2.1); rintro e w24 ⟨rfl, hb⟩; replace HO_11 := Aside0.mk (Kd.N_below z32_3 hb); replace HO_118001 := Aside0.mk (Kd.V_below z32_2 hb); replace HO_118002 := Aside0.mk (Kd.V_below z32_1 hb); replace HO_118003 := Aside0.mk (Kd.V_below z32_0 hb); replace BK117 := Aside0.mk (blk_below (bo BK117) hb); replace HB := Aside0.mk (below_step sqh hb); (try clear hb)))
       go_ret
       exact ⟨sqe, sqh⟩
      ·replace c17 := Bool.eq_false_iff.mpr c17
       subst c17
       replace H := iF H
       obtain rfl := Option.some.inj H
       obtain ⟨hcz25_0, hcz25_1, hcz25_2, hcz25_3, hfz25_0, hfz25_1, hfz25_2, hfz25_3⟩ := sd4 BK117.out
       go_wp2_with (first | (go_at_call 80; (with_reducible refine (impl_areApart.calls _ _ l0_1 _ _ l0_2 true _ ?side1 ?side2 ?side3 ?side4 A14.out).mono ?_); (case side1 => repeat (first | exact (Kd.V_reads' HO_118001.out).2.2 | (with_reducible refine Kd.C_alloc ?_ _) | (with_reducible refine Kd.C_drewN ?_ _) | (with_reducible refine Kd.C_drew ?_))); (case side2 => exact (Kd.V_reads' HO_118001.out).2.1); (case side3 => repeat (first | exact (Kd.V_reads' HO_118002.out).2.2 | (with_reducible refine Kd.C_alloc ?_ _) | (with_reducible refine Kd.C_drewN ?_ _) | (with_reducible refine Kd.C_drew ?_))); (case side4 => exact (Kd.V_reads' HO_118002.out).2.1); rintro e w26 ⟨rfl, hb⟩; replace HO_11 := Aside0.mk (Kd.N_below z32_3 hb); replace HO_118001 := Aside0.mk (Kd.V_below z32_2 hb); replace HO_118002 := Aside0.mk (Kd.V_below z32_1 hb); replace HO_118003 := Aside0.mk (Kd.V_below z32_0 hb); replace BK117 := Aside0.mk (blk_below (bo BK117) hb); replace HB := Aside0.mk (below_step sqh hb); (try clear hb); obtain ⟨hcz27_0, hcz27_1, hcz27_2, hcz27_3, hfz27_0, hfz27_1, hfz27_2, hfz27_3⟩ := sd4 BK117.out) | (go_at_call 80; (with_reducible refine (impl_areApart.calls _ _ l0_1 _ _ l0_3 false _ ?side1 ?side2 ?side3 ?side4 A16.out).mono ?_); (case side1 => repeat (first | exact (Kd.V_reads' HO_118001.out).2.2 | (with_reducible refine Kd.C_alloc ?_ _) | (with_reducible refine Kd.C_drewN ?_ _) | (with_reducible refine Kd.C_drew ?_))); (case side2 => exact (Kd.V_reads' HO_118001.out).2.1); (case side3 => repeat (first | exact (Kd.V_reads' HO_118003.out).2.2 | (with_reducible refine Kd.C_alloc ?_ _) | (with_reducible refine Kd.C_drewN ?_ _) | (with_reducible refine Kd.C_drew ?_))); (case side4 => exact (Kd.V_reads' HO_118003.out).2.1); rintro e w28 ⟨rfl, hb⟩; replace HO_11 := Aside0.mk (Kd.N_below z32_3 hb); replace HO_118001 := Aside0.mk (Kd.V_below z32_2 hb); replace HO_118002 := Aside0.mk (Kd.V_below z32_1 hb); replace HO_118003 := Aside0.mk (Kd.V_below z32_0 hb); replace BK117 := Aside0.mk (blk_below (bo BK117) hb); replace HB := Aside0.mk (below_step sqh hb); (try clear hb)))
       go_ret
       exact ⟨sqe, sqh⟩
     ·replace c15 := Bool.eq_false_iff.mpr c15
      subst c15
      replace H := iF H
      obtain rfl := Option.some.inj H
      obtain ⟨hcz29_0, hcz29_1, hcz29_2, hcz29_3, hfz29_0, hfz29_1, hfz29_2, hfz29_3⟩ := sd4 BK117.out
      go_wp2_with (first | (go_at_call 80; (with_reducible refine (impl_areApart.calls _ _ l0_1 _ _ l0_2 false _ ?side1 ?side2 ?side3 ?side4 A14.out).mono ?_); (case side1 => repeat (first | exact (Kd.V_reads' HO_118001.out).2.2 | (with_reducible refine Kd.C_alloc ?_ _) | (with_reducible refine Kd.C_drewN ?_ _) | (with_reducible refine Kd.C_drew ?_))); (case side2 => exact (Kd.V_reads' HO_118001.out).2.1); (case side3 => repeat (first | exact (Kd.V_reads' HO_118002.out).2.2 | (with_reducible refine Kd.C_alloc ?_ _) | (with_reducible refine Kd.C_drewN ?_ _) | (with_reducible refine Kd.C_drew ?_))); (case side4 => exact (Kd.V_reads' HO_118002.out).2.1); rintro e w30 ⟨rfl, hb⟩; replace HO_11 := Aside0.mk (Kd.N_below z32_3 hb); replace HO_118001 := Aside0.mk (Kd.V_below z32_2 hb); replace HO_118002 := Aside0.mk (Kd.V_below z32_1 hb); replace HO_118003 := Aside0.mk (Kd.V_below z32_0 hb); replace BK117 := Aside0.mk (blk_below (bo BK117) hb); replace HB := Aside0.mk (below_step sqh hb); (try clear hb)))
      go_ret
      exact ⟨sqe, sqh⟩
    ·rw [if_neg c13] at H
     have c13b0 : decide (0 ≤ a0_0) = false := decide_eq_false c13
     clear c13
     obtain rfl := Option.some.inj H
     obtain ⟨hcz31_0, hcz31_1, hcz31_2, hcz31_3, hfz31_0, hfz31_1, hfz31_2, hfz31_3⟩ := sd4 BK117.out
     go_wp2
     go_ret
     exact ⟨sqe, sqh⟩

end Go.Proofs.Ytlmhemcpkmjkiaa.XFnAppraisal
