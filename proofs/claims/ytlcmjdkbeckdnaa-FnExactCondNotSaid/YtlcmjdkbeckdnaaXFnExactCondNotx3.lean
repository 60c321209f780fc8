/- Written by this session's own program (wip/xprint, which runs over the kit's print): what the functions that the law reaches come to, each proved; and the law's row. Conditions: none. -/
import Derived.Test.YtlcmjdkbeckdnaaXFnExactCondNotx0
import Derived.Test.YtlcmjdkbeckdnaaXFnExactCondNotx1
import Derived.Test.YtlcmjdkbeckdnaaXFnExactCondNotx2
namespace Go.Proofs.Ytlcmjdkbeckdnaa.XFnExactCondNot
open Go.RowKit Go.Proofs.YtlcmjdkbeckdnaaW.PrintWords Go.Proofs.YtlcmjdkbeckdnaaW.PrintLast Go.Proofs.YtlcmjdkbeckdnaaW.PrintMore
attribute [local go_sem] max2_int min2_int max_two min_two max_three min_three max_four min_four   -- for this text's walks alone
set_option linter.unusedVariables false
set_option linter.unusedSimpArgs false

/-! ### laws_markCondS: function 32 -/
mutual
/-- A node marked from k on: the number behind it, and the node. -/
def laws_markCondS.g1 : S29 → Int → Int × S29
  | ⟨_, _, _, l⟩, k => ((laws_markCondS.g l (wrap64 (wrap64 (wrap64 (k + 1) + 1) + 1))).1, ⟨k, wrap64 (k + 1), wrap64 (wrap64 (k + 1) + 1), (laws_markCondS.g l (wrap64 (wrap64 (wrap64 (k + 1) + 1) + 1))).2⟩)
def laws_markCondS.g : List S29 → Int → Int × List S29
  | [], k => (k, [])
  | x :: l, k => ((laws_markCondS.g l (laws_markCondS.g1 x k).1).1, (laws_markCondS.g1 x k).2 :: (laws_markCondS.g l (laws_markCondS.g1 x k).1).2)
end
theorem laws_markCondS.g1_eq (x : S29) (k : Int) : laws_markCondS.g1 x k = ((laws_markCondS.g x.f3 (wrap64 (wrap64 (wrap64 (k + 1) + 1) + 1))).1, ⟨k, wrap64 (k + 1), wrap64 (wrap64 (k + 1) + 1), (laws_markCondS.g x.f3 (wrap64 (wrap64 (wrap64 (k + 1) + 1) + 1))).2⟩) := by cases x; rw [laws_markCondS.g1]
theorem laws_markCondS.lt (x : S29) : SizeOf.sizeOf x.f3 < SizeOf.sizeOf x := by
  cases x
  simp
  omega
theorem laws_markCondS.set_at {α : Type} (a b : List α) (x y : α) : (a ++ x :: b).set a.length y = a ++ y :: b := by
  rw [List.set_append_right _ _ (Nat.le_refl _), Nat.sub_self, List.set_cons_zero]
theorem laws_markCondS.get_at {α : Type} (a b : List α) (x z : α) : (a ++ x :: b).getD a.length z = x := by
  rw [List.getD_eq_getElem?_getD, List.getElem?_append_right (Nat.le_refl _), Nat.sub_self]
  rfl
/-- One of a node's numbers is written: its cell, and what stands behind it. -/
theorem laws_markCondS.put {W : World} {base : Nat} {ok : Nat → Prop} {g n c : Nat} {a b : List S29} {x : S29} (HS : Kd.S k29 29 W base ok (.slice (some ⟨g, 0, none⟩) n c) (a ++ x :: b)) (i : Int) (hi : i = (a.length : Int)) :
    (W.cell? ⟨g, i.toNat * 4, none⟩ = some (.int .i64 x.f0) ∧ W.cell? ⟨g, i.toNat * 4 + 1, none⟩ = some (.int .i64 x.f1) ∧ W.cell? ⟨g, i.toNat * 4 + 2, none⟩ = some (.int .i64 x.f2)) ∧
    (W.frozen? ⟨g, i.toNat * 4, none⟩ = false ∧ W.frozen? ⟨g, i.toNat * 4 + 1, none⟩ = false ∧ W.frozen? ⟨g, i.toNat * 4 + 2, none⟩ = false) ∧
    (∀ v, Kd.S k29 29 (W.setCell ⟨g, i.toNat * 4, none⟩ (.int .i64 v)) base ok (.slice (some ⟨g, 0, none⟩) n c) (a ++ ⟨v, x.f1, x.f2, x.f3⟩ :: b)) ∧
    (∀ v, Kd.S k29 29 (W.setCell ⟨g, i.toNat * 4 + 1, none⟩ (.int .i64 v)) base ok (.slice (some ⟨g, 0, none⟩) n c) (a ++ ⟨x.f0, v, x.f2, x.f3⟩ :: b)) ∧
    (∀ v, Kd.S k29 29 (W.setCell ⟨g, i.toNat * 4 + 2, none⟩ (.int .i64 v)) base ok (.slice (some ⟨g, 0, none⟩) n c) (a ++ ⟨x.f0, x.f1, v, x.f3⟩ :: b)) := by
  subst hi
  have hn := (Kd.S_reads' HS).1
  have hlt : (a.length : Int) < (n : Int) := by rw [hn, List.length_append, List.length_cons]; omega
  obtain ⟨oki, ce, hcl, hM, hcc, hfr, hoki, hH⟩ := Kd.S_elem HS z29 (a.length : Int) (by omega) hlt
  rw [Int.toNat_natCast, laws_markCondS.get_at] at hM
  obtain ⟨v3, rfl, g3⟩ := k29_openM hM
  have hH' : Kd.H k29 29 W base (fun k => ok k ∧ ¬ (fun _ => False) k) (.slice (some ⟨g, 0, none⟩) n c) (a ++ x :: b) (a.length : Int) oki [.int .i64 x.f0, .int .i64 x.f1, .int .i64 x.f2, v3] := Kd.H_mono hH (fun k hk => ⟨hk, fun h => h⟩)
  refine ⟨⟨hcc 0 _ rfl, hcc 1 _ rfl, hcc 2 _ rfl⟩, ⟨hfr 0, hfr 1, hfr 2⟩, fun v => ?_, fun v => ?_, fun v => ?_⟩
  · have := (Kd.S_seg hH' (by omega) hlt (seg := [.int .i64 v]) (j := 0) (show 1 ≤ 4 from by decide) (x' := ⟨v, x.f1, x.f2, x.f3⟩) (k29_mkM W base oki ⟨v, x.f1, x.f2, x.f3⟩ g3) (fun _ hk => .inl hk) (fun _ hk => hk.elim)).1
    rw [Int.toNat_natCast, laws_markCondS.set_at] at this
    exact this
  · have := (Kd.S_seg hH' (by omega) hlt (seg := [.int .i64 v]) (j := 1) (show 2 ≤ 4 from by decide) (x' := ⟨x.f0, v, x.f2, x.f3⟩) (k29_mkM W base oki ⟨x.f0, v, x.f2, x.f3⟩ g3) (fun _ hk => .inl hk) (fun _ hk => hk.elim)).1
    rw [Int.toNat_natCast, laws_markCondS.set_at] at this
    exact this
  · have := (Kd.S_seg hH' (by omega) hlt (seg := [.int .i64 v]) (j := 2) (show 3 ≤ 4 from by decide) (x' := ⟨x.f0, x.f1, v, x.f3⟩) (k29_mkM W base oki ⟨x.f0, x.f1, v, x.f3⟩ g3) (fun _ hk => .inl hk) (fun _ hk => hk.elim)).1
    rw [Int.toNat_natCast, laws_markCondS.set_at] at this
    exact this
/-- A node's row, lent. -/
theorem laws_markCondS.lend {W : World} {base : Nat} {ok : Nat → Prop} {g n c : Nat} {a b : List S29} {x : S29} (HS : Kd.S k29 29 W base ok (.slice (some ⟨g, 0, none⟩) n c) (a ++ x :: b)) (i : Int) (hi : i = (a.length : Int)) :
    ∃ (oki : Nat → Prop) (A3 : Option Addr) (c3 : Nat), W.cell? ⟨g, i.toNat * 4 + 3, none⟩ = some (.slice A3 x.f3.length c3) ∧ Kd.S k29 29 W base oki (.slice A3 x.f3.length c3) x.f3 ∧ (∀ k, oki k → ok k) ∧
      ∀ (W1 : World) (l : List S29), Kept W W1 oki → Kd.S k29 29 W1 base oki (.slice A3 x.f3.length c3) l → Kd.S k29 29 W1 base ok (.slice (some ⟨g, 0, none⟩) n c) (a ++ ⟨x.f0, x.f1, x.f2, l⟩ :: b) := by
  subst hi
  have hn := (Kd.S_reads' HS).1
  have hlt : (a.length : Int) < (n : Int) := by rw [hn, List.length_append, List.length_cons]; omega
  obtain ⟨oki, ce, hcl, hM, hcc, hfr, hoki, hH⟩ := Kd.S_elem HS z29 (a.length : Int) (by omega) hlt
  rw [Int.toNat_natCast, laws_markCondS.get_at] at hM
  obtain ⟨v3, rfl, g3⟩ := k29_openM hM
  obtain ⟨A3, c3, rfl⟩ := Kd.S_slice g3
  refine ⟨oki, A3, c3, hcc 3 _ rfl, g3, fun k hk => (hoki k hk).1, fun W1 l hk hl => ?_⟩
  have := Kd.H_back (Kd.H_kept hH hk (fun k _ hn => hn)) (k29_mkM W1 base oki ⟨x.f0, x.f1, x.f2, l⟩ hl) (fun _ hk => hk)
  rw [Int.toNat_natCast, laws_markCondS.set_at] at this
  exact this
set_option maxHeartbeats 8000000 in
set_option maxRecDepth 100000 in
theorem laws_markCondS.go (n : Nat) : ∀ (P0_ : Nat → Prop) (u9000_ : Value) (l0 : List S29) (a1 : Int) (w0 w : World) (hn : SizeOf.sizeOf l0 ≤ n) (hB : Below w0.heap.size w0 w) (ho0 : Kd.S k29 29 w w0.heap.size P0_ u9000_ l0),
    Calls Try.prog 32 #[u9000_, .int .i64 a1] w fun e w' => e = .returned (.int .i64 (laws_markCondS.g l0 a1).1) ∧ Kd.S k29 29 w' w0.heap.size P0_ u9000_ (laws_markCondS.g l0 a1).2 ∧ Below w0.heap.size w0 w' ∧ Kept w w' P0_ := by
  induction n using Nat.strongRecOn with
  | _ n ih =>
  intro P0_ u9000_ l0 a1 w0 w hn hB ho0
  have hu := Try.underlying29
  obtain ⟨A, c, rfl⟩ := Kd.S_slice ho0
  obtain ⟨rl, hrl⟩ : ∃ rl, rl = laws_markCondS.g l0 a1 := ⟨_, rfl⟩
  have HR := Aside0.mk hrl
  rw [← hrl]
  clear hrl
  have HMX := Aside0.mk (Kd.S_reads' ho0).2.2.2.1
  have HO0 := Aside0.mk ho0
  have HB0 := Aside0.mk hB
  have HN := Aside0.mk hn
  clear ho0 hB hn
  obtain ⟨N, hN⟩ : ∃ N, N = l0.length := ⟨_, rfl⟩
  have HNN := Aside0.mk hN
  go_enter Try.func32, Try.ntmps32
  go_wp2
  go_loopg [1, 5] N (fun kq v1 v5 w' => ∃ (z : Int) (kc : Int) (a b : List S29), v1 = .int .i64 kc ∧ v5 = .int .i64 z ∧ Aside0 (z = (a.length : Int)) ∧ Aside0 (a.length + b.length = l0.length) ∧ Aside0 (b.length ≤ kq) ∧ Aside0 (∀ x ∈ b, x ∈ l0) ∧ Aside0 ((rl.1 = (laws_markCondS.g b kc).1) ∧ rl.2 = a ++ (laws_markCondS.g b kc).2) ∧ Aside0 (Kd.S k29 29 w' w0.heap.size P0_ (.slice A l0.length c) (a ++ b)) ∧ Aside0 (Below w0.heap.size w0 w') ∧ Aside0 (Kept w w' P0_))
  case atStart => exact ⟨0, a1, [], l0, rfl, rfl, ⟨rfl⟩, ⟨by simp⟩, ⟨by omega⟩, ⟨fun _ h => h⟩, ⟨by rw [HR.out]; exact ⟨rfl, rfl⟩⟩, HO0, HB0, ⟨Kept.refl _ _⟩⟩
  case round =>
    obtain ⟨z, kc, a, b, rfl, rfl, HZ, HL, HM, HI, HG, HO, HB, HK⟩ := hrel
    have hz0 : (0 ≤ z) = True := eq_true (by rw [HZ.out]; omega)
    cases b with
    | nil =>
      have hz1 : decide (z < (l0.length : Int)) = false := decide_eq_false (by have := HL.out; rw [HZ.out]; simp at this; omega)
      go_wp2
      go_ret
      have hg := HG.out
      simp only [laws_markCondS.g, List.append_nil] at hg
      rw [hg.1, hg.2]
      refine ⟨rfl, ?_, HB.out, HK.out⟩
      have := HO.out
      rwa [List.append_nil] at this
    | cons x b =>
      have hlt : z < (l0.length : Int) := by have := HL.out; rw [HZ.out]; simp at this; omega
      have hz1 : decide (z < (l0.length : Int)) = true := decide_eq_true hlt
      have hz2 : (z < (l0.length : Int)) = True := eq_true hlt
      clear hlt
      obtain ⟨g, cg, eg, gb, gl, gg⟩ := Kd.S_form HO.out (by simp; omega)
      injection eg with ea en ec
      subst ea
      subst ec
      clear en gb gl gg
      have HP := (laws_markCondS.put HO.out z HZ.out)
      obtain ⟨⟨hx0, hx1, hx2⟩, ⟨hf0, hf1, hf2⟩, hq0, _, _⟩ := HP
      have HQ0 := Aside0.mk (hq0 kc)
      clear hq0 hx1 hx2 hf1 hf2
      have HMg : Aside0 (P0_ g) := ⟨(Kd.S_R HO.out).1 g (by simp [Value.ownBlock])⟩
      have HW0 : Aside0 (w0.heap.size ≤ g) := ⟨Kd.S_base HO.out g (by simp [Value.ownBlock])⟩
      go_wp2_with (first
        | ((with_reducible refine gate_store (t := 3) (p := 16) rfl ?_); refine store_event (t := 3) (p := 16) (v := ?vo16) (w1 := (wr.setCell ⟨g, z.toNat * 4, none⟩ (.int .i64 kc))) ?hg ?ho ?hn ?hr ?_; (case ho => rfl); (case hg => rfl); (case hn => rfl); (case hr => first | (go_simp; done) | (go_simp; rfl))
           intro w1 hw
           have HO1 := Aside0.mk (show Kd.S k29 29 w1 _ _ _ _ from by rw [hw]; exact HQ0.out)
           have HB1 := Aside0.mk (show Below w0.heap.size w0 w1 from by rw [hw]; exact below_set HB.out HW0.out)
           have HK1 := Aside0.mk (show Kept w w1 P0_ from by rw [hw]; exact HK.out.setCell (.inl HMg.out) _)
           clear hw HO HB HK HQ0 hx0 hf0
           obtain ⟨⟨_, hx1, _⟩, ⟨_, hf1, _⟩, _, hq1, _⟩ := laws_markCondS.put HO1.out z HZ.out
           have HQ1 := Aside0.mk (hq1 (wrap64 (kc + 1)))
           clear hq1)
        | ((with_reducible refine gate_store (t := 3) (p := 23) rfl ?_); refine store_event (t := 3) (p := 23) (v := ?vo23) (w1 := (w1.setCell ⟨g, z.toNat * 4 + 1, none⟩ (.int .i64 (wrap64 (kc + 1))))) ?hg ?ho ?hn ?hr ?_; (case ho => rfl); (case hg => rfl); (case hn => rfl); (case hr => first | (go_simp; done) | (go_simp; rfl))
           intro w2 hw
           have HO2 := Aside0.mk (show Kd.S k29 29 w2 _ _ _ _ from by rw [hw]; exact HQ1.out)
           have HB2 := Aside0.mk (show Below w0.heap.size w0 w2 from by rw [hw]; exact below_set HB1.out HW0.out)
           have HK2 := Aside0.mk (show Kept w w2 P0_ from by rw [hw]; exact HK1.out.setCell (.inl HMg.out) _)
           clear hw HO1 HB1 HK1 HQ1 hx1 hf1
           obtain ⟨⟨_, _, hx2⟩, ⟨_, _, hf2⟩, _, _, hq2⟩ := laws_markCondS.put HO2.out z HZ.out
           have HQ2 := Aside0.mk (hq2 (wrap64 (wrap64 (kc + 1) + 1)))
           clear hq2)
        | ((with_reducible refine gate_store (t := 3) (p := 30) rfl ?_); refine store_event (t := 3) (p := 30) (v := ?vo30) (w1 := (w2.setCell ⟨g, z.toNat * 4 + 2, none⟩ (.int .i64 (wrap64 (wrap64 (kc + 1) + 1))))) ?hg ?ho ?hn ?hr ?_; (case ho => rfl); (case hg => rfl); (case hn => rfl); (case hr => first | (go_simp; done) | (go_simp; rfl))
           intro w3 hw
           have HO3 := Aside0.mk (show Kd.S k29 29 w3 _ _ _ _ from by rw [hw]; exact HQ2.out)
           have HB3 := Aside0.mk (show Below w0.heap.size w0 w3 from by rw [hw]; exact below_set HB2.out HW0.out)
           have HK3 := Aside0.mk (show Kept w w3 P0_ from by rw [hw]; exact HK2.out.setCell (.inl HMg.out) _)
           clear hw HO2 HB2 HK2 HQ2 hx2 hf2
           obtain ⟨oki, A3, c3, hx3, hs3, hi3, hback⟩ := laws_markCondS.lend HO3.out z HZ.out
           replace hx3 : w3.cell? ⟨g, z.toNat * 4 + 3, none⟩ = some (.slice A3 x.f3.length c3) := hx3
           have HS3 := Aside0.mk (show Kd.S k29 29 w3 _ oki (.slice A3 x.f3.length c3) x.f3 from hs3)
           have HI3 := Aside0.mk hi3
           have HBK := Aside0.mk hback
           clear hs3 hi3 hback)
        | (go_at_call 32; refine (ih (SizeOf.sizeOf x.f3) (by have h1 := List.sizeOf_lt_of_mem (HI.out x (by simp)); have h2 := HN.out; have h3 := laws_markCondS.lt x; omega) oki (.slice A3 x.f3.length c3) x.f3 (wrap64 (wrap64 (wrap64 (kc + 1) + 1) + 1)) w0 _ (Nat.le_refl _) HB3.out HS3.out).mono ?_
           rintro e w4 ⟨rfl, hs4, hb4, hk4⟩
           have HO4 := Aside0.mk (HBK.out w4 _ hk4 hs4)
           have HB4 := Aside0.mk hb4
           have HK4 := Aside0.mk (Kept.then_ HK3.out hk4 (fun k hk => .inl (HI3.out k hk)))
           clear hs4 hb4 hk4 HBK HS3 HO3 HB3 HK3 hx3))
      cases gk with
      | zero => exact absurd HM.out (by simp)
      | succ k1 =>
      go_roundg k1
      case measure => omega
      case rel =>
        refine ⟨z + 1, (laws_markCondS.g1 x kc).1, a ++ [(laws_markCondS.g1 x kc).2], b, ?_, ?_, ⟨by rw [HZ.out]; simp⟩, ⟨by have := HL.out; simp at this ⊢; omega⟩, ⟨by have := HM.out; simp at this; omega⟩, ⟨fun y hy => HI.out y (by simp [hy])⟩, ⟨?_⟩, ⟨?_⟩, HB4, HK4⟩
        · rw [laws_markCondS.g1_eq]
        · have h1 := of_eq_true hz2
          have h2 := of_eq_true hz0
          have h3 := HMX.out
          show Value.int .i64 (wrap64 (z + 1)) = .int .i64 (z + 1)
          rw [show wrap64 (z + 1) = z + 1 by unfold wrap64; omega]
        · have := HG.out
          rw [laws_markCondS.g] at this
          simpa using this
        · rw [laws_markCondS.g1_eq, List.append_assoc]
          exact HO4.out
/-- All nodes of a row of trees, and of the rows inside, are marked from a1 on. -/
def laws_markCondS.f (l0 : List S29) (a1 : Int) : Option (Int × List S29) := some (laws_markCondS.g l0 a1)
theorem laws_markCondS.calls (P0_ : Nat → Prop) (u9000_ : Value) (l0 : List S29) (a1 : Int) (r1 : Int) (r2 : List S29) (w0 w : World) (hB : Below w0.heap.size w0 w) (ho0 : Kd.S k29 29 w w0.heap.size P0_ u9000_ l0) (h : laws_markCondS.f l0 a1 = some (r1, r2)) :
    Calls Try.prog 32 #[u9000_, .int .i64 a1] w fun e w' => e = .returned (.int .i64 r1) ∧ Kd.S k29 29 w' w0.heap.size P0_ u9000_ r2 ∧ Below w0.heap.size w0 w' ∧ Kept w w' (fun k_ => P0_ k_) := by
  unfold laws_markCondS.f at h
  have h' := Option.some.inj h
  have := laws_markCondS.go (SizeOf.sizeOf l0) P0_ u9000_ l0 a1 w0 w (Nat.le_refl _) hB ho0
  rw [h'] at this
  exact this

/-! ### laws_markCond: function 21 -/
/-- All nodes below a node are marked from a1 on. -/
def laws_markCond.f (a0_0 : Int) (a0_1 : Int) (a0_2 : Int) (l0_3 : List S29) (a1 : Int) : Option (Int × List S29) := some (laws_markCondS.g l0_3 a1)
set_option maxHeartbeats 8000000 in
set_option maxRecDepth 100000 in
theorem laws_markCond.calls (a0_0 : Int) (a0_1 : Int) (a0_2 : Int) (P0_3_ : Nat → Prop) (u9000_ : Value) (l0_3 : List S29) (a1 : Int) (r1 : Int) (r2 : List S29) (w0 w : World) (hB : Below w0.heap.size w0 w) (ho0_3 : Kd.S k29 29 w w0.heap.size P0_3_ u9000_ l0_3) (h : laws_markCond.f a0_0 a0_1 a0_2 l0_3 a1 = some (r1, r2)) :
    Calls Try.prog 21 #[.agg #[.int .i64 a0_0, .int .i64 a0_1, .int .i64 a0_2, u9000_], .int .i64 a1] w fun e w' => e = .returned (.int .i64 r1) ∧ Kd.S k29 29 w' w0.heap.size P0_3_ u9000_ r2 ∧ Below w0.heap.size w0 w' ∧ Kept w w' (fun k_ => P0_3_ k_) := by
  have hu := Try.underlying29
  obtain ⟨A, c, rfl⟩ := Kd.S_slice ho0_3
  have hcall := laws_markCondS.calls P0_3_ (.slice A l0_3.length c) l0_3 a1 r1 r2 w0 (w.alloc (.cells #[.int .i64 a0_0, .int .i64 a0_1, .int .i64 a0_2, .slice A l0_3.length c] 29)) (hB.alloc hB.size _) (Kd.S_alloc ho0_3 _) h
  clear hB ho0_3 h
  go_enter Try.func21, Try.ntmps21
  go_wp2_with (first | (go_at_call 32; refine hcall.mono ?_; rintro e w' ⟨rfl, hs', hb', hk'⟩))
  go_ret
  exact ⟨rfl, hs', hb', Kept.then_ (Kept.of_below (below_alloc (Below.refl _ _) _) _) hk' (fun k hk => .inl hk)⟩

/-! ### laws_heldCondS: function 33 -/
mutual
def laws_heldCondS.l0 : Nat → List (S29) → Int → Int → Option (Int)
  | 0, _, _, _ => none
  | k + 1, x0, x1, x5 => if x5 < (x0.length : Int) then (if 0 ≤ x5 then (if ((rd_T29 x0 x5).f0) = x1 then (if ((rd_T29 x0 x5).f1) = (wrap64 (x1 + 1)) then (if ((rd_T29 x0 x5).f2) = (wrap64 ((wrap64 (x1 + 1)) + 1)) then ((laws_heldCondS.f k ((rd_T29 x0 x5).f3) (wrap64 ((wrap64 ((wrap64 (x1 + 1)) + 1)) + 1))).bind fun t181 => (if t181 < 0 then (some (-1)) else (laws_heldCondS.l0 k x0 t181 (wrap64 (x5 + 1))))) else (some (-1))) else (some (-1))) else (some (-1))) else (none)) else (some x1)
def laws_heldCondS.f : Nat → List (S29) → Int → Option (Int)
  | 0, _, _ => none
  | k + 1, l0, a1 => laws_heldCondS.l0 k l0 a1 0
end
set_option maxHeartbeats 8000000 in
set_option maxRecDepth 100000 in
theorem laws_heldCondS.calls (k : Nat) : ∀ (A0 : Option Addr) (c0 : Nat) (l0 : List (S29)) (a1 : Int) (r : Int) (w : World) (hr0 : Kd.C k29 w A0 l0.length l0) (hc0 : l0.length ≤ c0) (h : laws_heldCondS.f k l0 a1 = some r),
    Calls Try.prog 33 #[.slice A0 l0.length c0, .int .i64 a1] w fun e w' => e = .returned (.int .i64 r) ∧ Drawn0 w w' := by
  induction k using Nat.strongRecOn with
  | _ k ih =>
  intro A0 c0 l0 a1 r w hr0 hc0 h
  cases k with
  | zero => exact absurd h (by simp [laws_heldCondS.f])
  | succ k =>
  simp only [laws_heldCondS.f] at h
  have HR0 := Aside0.mk hr0
  have HC0 := Aside0.mk hc0
  clear hr0 hc0
  have H : (laws_heldCondS.l0 k l0 a1 0) = some r := h
  clear h
  have H' := Aside0.mk H
  clear H
  go_enter Try.func33, Try.ntmps33
  go_wp2
  go_loopg [1, 5] k (fun kq v1 v5 w' => ∃ (x1_1 : Int) (x5_1 : Int), v1 = .int .i64 x1_1 ∧ v5 = .int .i64 x5_1 ∧ Aside0 (laws_heldCondS.l0 kq l0 x1_1 x5_1 = some r) ∧ Aside0 (kq ≤ k) ∧ Drawn0 w w')
  case atStart => exact ⟨(a1), (0), (by first | rfl | (simp; done) | (simp [*]; done)), (by first | rfl | (simp; done) | (simp [*]; done)), H', ⟨Nat.le_refl _⟩, by repeat (first | exact Drawn0.refl _ | apply Drawn0.step)⟩
  case round =>
    clear H'
    try clear p2
    obtain ⟨x1_1, x5_1, rfl, rfl, HA, HK1, ⟨m1, rfl⟩⟩ := hrel
    cases gk with
    | zero => exact absurd HA.out (by simp [laws_heldCondS.l0])
    | succ k1 =>
      have H := HA.out
      clear HA
      simp only [laws_heldCondS.l0] at H
      by_cases c3 : x5_1 < (l0.length : Int)
      · rw [if_pos c3] at H
        have c3b0 : decide (x5_1 < (l0.length : Int)) = true := decide_eq_true c3
        clear c3
        by_cases c4 : 0 ≤ x5_1
        · rw [if_pos c4] at H
          have c4b0 : decide (0 ≤ x5_1) = true := decide_eq_true c4
          clear c4
          by_cases c5 : ((rd_T29 l0 x5_1).f0) = x1_1
          · rw [if_pos c5] at H
            have c5b0 : (((rd_T29 l0 x5_1).f0) == x1_1) = true := beq_iff_eq.mpr c5
            have c5b1 : (((rd_T29 l0 x5_1).f0) != x1_1) = false := bne_eq_false_iff_eq.mpr c5
            clear c5
            by_cases c6 : ((rd_T29 l0 x5_1).f1) = (wrap64 (x1_1 + 1))
            · rw [if_pos c6] at H
              have c6b0 : (((rd_T29 l0 x5_1).f1) == (wrap64 (x1_1 + 1))) = true := beq_iff_eq.mpr c6
              have c6b1 : (((rd_T29 l0 x5_1).f1) != (wrap64 (x1_1 + 1))) = false := bne_eq_false_iff_eq.mpr c6
              clear c6
              by_cases c7 : ((rd_T29 l0 x5_1).f2) = (wrap64 ((wrap64 (x1_1 + 1)) + 1))
              · rw [if_pos c7] at H
                have c7b0 : (((rd_T29 l0 x5_1).f2) == (wrap64 ((wrap64 (x1_1 + 1)) + 1))) = true := beq_iff_eq.mpr c7
                have c7b1 : (((rd_T29 l0 x5_1).f2) != (wrap64 ((wrap64 (x1_1 + 1)) + 1))) = false := bne_eq_false_iff_eq.mpr c7
                clear c7
                replace H := Option.bind_eq_some_iff.mp H
                obtain ⟨t181, A80, H⟩ := H
                replace H : (if t181 < 0 then (some (-1)) else (laws_heldCondS.l0 k1 l0 t181 (wrap64 (x5_1 + 1)))) = some r := H
                have A8 := Aside0.mk A80
                clear A80
                by_cases c9 : t181 < 0
                · rw [if_pos c9] at H
                  have c9b0 : decide (t181 < 0) = true := decide_eq_true c9
                  clear c9
                  obtain rfl := Option.some.inj H
                  have p177 : 0 ≤ (x5_1 : Int) := of_decide_eq_true (by first | (with_reducible assumption) | assumption)
                  have q177 : x5_1 < (l0.length : Int) := of_decide_eq_true (by first | (with_reducible assumption) | assumption)
                  obtain ⟨ad177, A177_3, c177_3, e177, hx177_0, hx177_1, hx177_2, hx177_3, hl177_3, hi177_3⟩ := at_T29 HR0.out x5_1 p177 q177
                  cases e177
                  have HR177_3 := Aside0.mk hi177_3
                  have HC177_3 := Aside0.mk hl177_3
                  clear hi177_3 hl177_3
                  replace p177 := eq_true p177
                  replace q177 := eq_true q177
                  have p178 : 0 ≤ (x5_1 : Int) := of_decide_eq_true (by first | (with_reducible assumption) | assumption)
                  have q178 : x5_1 < (l0.length : Int) := of_decide_eq_true (by first | (with_reducible assumption) | assumption)
                  obtain ⟨ad178, A178_3, c178_3, e178, hx178_0, hx178_1, hx178_2, hx178_3, hl178_3, hi178_3⟩ := at_T29 HR0.out x5_1 p178 q178
                  obtain rfl : ad177 = ad178 := (by injection e178)
                  have HR178_3 := Aside0.mk hi178_3
                  have HC178_3 := Aside0.mk hl178_3
                  clear hi178_3 hl178_3
                  replace p178 := eq_true p178
                  replace q178 := eq_true q178
                  have ea_ := Option.some.inj (hx177_3.symm.trans hx178_3)
                  injection ea_ with ea_ en_ ec_
                  subst ea_
                  subst ec_
                  clear en_
                  have p179 : 0 ≤ (x5_1 : Int) := of_decide_eq_true (by first | (with_reducible assumption) | assumption)
                  have q179 : x5_1 < (l0.length : Int) := of_decide_eq_true (by first | (with_reducible assumption) | assumption)
                  obtain ⟨ad179, A179_3, c179_3, e179, hx179_0, hx179_1, hx179_2, hx179_3, hl179_3, hi179_3⟩ := at_T29 HR0.out x5_1 p179 q179
                  obtain rfl : ad177 = ad179 := (by injection e179)
                  have HR179_3 := Aside0.mk hi179_3
                  have HC179_3 := Aside0.mk hl179_3
                  clear hi179_3 hl179_3
                  replace p179 := eq_true p179
                  replace q179 := eq_true q179
                  have ea_ := Option.some.inj (hx177_3.symm.trans hx179_3)
                  injection ea_ with ea_ en_ ec_
                  subst ea_
                  subst ec_
                  clear en_
                  have p180 : 0 ≤ (x5_1 : Int) := of_decide_eq_true (by first | (with_reducible assumption) | assumption)
                  have q180 : x5_1 < (l0.length : Int) := of_decide_eq_true (by first | (with_reducible assumption) | assumption)
                  obtain ⟨ad180, A180_3, c180_3, e180, hx180_0, hx180_1, hx180_2, hx180_3, hl180_3, hi180_3⟩ := at_T29 HR0.out x5_1 p180 q180
                  obtain rfl : ad177 = ad180 := (by injection e180)
                  have HR180_3 := Aside0.mk hi180_3
                  have HC180_3 := Aside0.mk hl180_3
                  clear hi180_3 hl180_3
                  replace p180 := eq_true p180
                  replace q180 := eq_true q180
                  have ea_ := Option.some.inj (hx177_3.symm.trans hx180_3)
                  injection ea_ with ea_ en_ ec_
                  subst ea_
                  subst ec_
                  clear en_
                  go_wp2_with (first | ((with_reducible refine gate_callee (f := 33) rfl ?_); refine goesL_ (some 45) rfl rfl Try.func33 (by kernel_rfl) rfl #[.slice A177_3 ((rd_T29 l0 x5_1).f3).length c177_3, .int .i64 (wrap64 ((wrap64 ((wrap64 (x1_1 + 1)) + 1)) + 1))] rfl (by (try simp only [List.map_toArray, List.map_cons, List.map_nil]); first | done | rfl | (simp only [List.length_drop, List.length_take]; rfl)) ?_; (with_reducible refine (ih k1 (by have := HK1.out; omega) _ _ ((rd_T29 l0 x5_1).f3) (wrap64 ((wrap64 ((wrap64 (x1_1 + 1)) + 1)) + 1)) t181 _ ?side1 ?side2 A8.out).mono ?_); (case side1 => repeat (first | exact HR180_3.out | (with_reducible refine Kd.C_alloc ?_ _) | (with_reducible refine Kd.C_drewN ?_ _) | (with_reducible refine Kd.C_drew ?_))); (case side2 => exact HC180_3.out); rintro e w' ⟨rfl, ⟨nd, rfl⟩⟩; refine ⟨_, rfl, ?_⟩))
                  go_ret
                  exact ⟨by first | rfl | (simp; done) | (simp [*]; done), by repeat (first | exact Drawn0.refl _ | apply Drawn0.step)⟩
                · rw [if_neg c9] at H
                  have c9b0 : decide (t181 < 0) = false := decide_eq_false c9
                  clear c9
                  have H' := Aside0.mk H
                  clear H
                  have p177 : 0 ≤ (x5_1 : Int) := of_decide_eq_true (by first | (with_reducible assumption) | assumption)
                  have q177 : x5_1 < (l0.length : Int) := of_decide_eq_true (by first | (with_reducible assumption) | assumption)
                  obtain ⟨ad177, A177_3, c177_3, e177, hx177_0, hx177_1, hx177_2, hx177_3, hl177_3, hi177_3⟩ := at_T29 HR0.out x5_1 p177 q177
                  cases e177
                  have HR177_3 := Aside0.mk hi177_3
                  have HC177_3 := Aside0.mk hl177_3
                  clear hi177_3 hl177_3
                  replace p177 := eq_true p177
                  replace q177 := eq_true q177
                  have p178 : 0 ≤ (x5_1 : Int) := of_decide_eq_true (by first | (with_reducible assumption) | assumption)
                  have q178 : x5_1 < (l0.length : Int) := of_decide_eq_true (by first | (with_reducible assumption) | assumption)
                  obtain ⟨ad178, A178_3, c178_3, e178, hx178_0, hx178_1, hx178_2, hx178_3, hl178_3, hi178_3⟩ := at_T29 HR0.out x5_1 p178 q178
                  obtain rfl : ad177 = ad178 := (by injection e178)
                  have HR178_3 := Aside0.mk hi178_3
                  have HC178_3 := Aside0.mk hl178_3
                  clear hi178_3 hl178_3
                  replace p178 := eq_true p178
                  replace q178 := eq_true q178
                  have ea_ := Option.some.inj (hx177_3.symm.trans hx178_3)
                  injection ea_ with ea_ en_ ec_
                  subst ea_
                  subst ec_
                  clear en_
                  have p179 : 0 ≤ (x5_1 : Int) := of_decide_eq_true (by first | (with_reducible assumption) | assumption)
                  have q179 : x5_1 < (l0.length : Int) := of_decide_eq_true (by first | (with_reducible assumption) | assumption)
                  obtain ⟨ad179, A179_3, c179_3, e179, hx179_0, hx179_1, hx179_2, hx179_3, hl179_3, hi179_3⟩ := at_T29 HR0.out x5_1 p179 q179
                  obtain rfl : ad177 = ad179 := (by injection e179)
                  have HR179_3 := Aside0.mk hi179_3
                  have HC179_3 := Aside0.mk hl179_3
                  clear hi179_3 hl179_3
                  replace p179 := eq_true p179
                  replace q179 := eq_true q179
                  have ea_ := Option.some.inj (hx177_3.symm.trans hx179_3)
                  injection ea_ with ea_ en_ ec_
                  subst ea_
                  subst ec_
                  clear en_
                  have p180 : 0 ≤ (x5_1 : Int) := of_decide_eq_true (by first | (with_reducible assumption) | assumption)
                  have q180 : x5_1 < (l0.length : Int) := of_decide_eq_true (by first | (with_reducible assumption) | assumption)
                  obtain ⟨ad180, A180_3, c180_3, e180, hx180_0, hx180_1, hx180_2, hx180_3, hl180_3, hi180_3⟩ := at_T29 HR0.out x5_1 p180 q180
                  obtain rfl : ad177 = ad180 := (by injection e180)
                  have HR180_3 := Aside0.mk hi180_3
                  have HC180_3 := Aside0.mk hl180_3
                  clear hi180_3 hl180_3
                  replace p180 := eq_true p180
                  replace q180 := eq_true q180
                  have ea_ := Option.some.inj (hx177_3.symm.trans hx180_3)
                  injection ea_ with ea_ en_ ec_
                  subst ea_
                  subst ec_
                  clear en_
                  go_wp2_with (first | ((with_reducible refine gate_callee (f := 33) rfl ?_); refine goesL_ (some 45) rfl rfl Try.func33 (by kernel_rfl) rfl #[.slice A177_3 ((rd_T29 l0 x5_1).f3).length c177_3, .int .i64 (wrap64 ((wrap64 ((wrap64 (x1_1 + 1)) + 1)) + 1))] rfl (by (try simp only [List.map_toArray, List.map_cons, List.map_nil]); first | done | rfl | (simp only [List.length_drop, List.length_take]; rfl)) ?_; (with_reducible refine (ih k1 (by have := HK1.out; omega) _ _ ((rd_T29 l0 x5_1).f3) (wrap64 ((wrap64 ((wrap64 (x1_1 + 1)) + 1)) + 1)) t181 _ ?side1 ?side2 A8.out).mono ?_); (case side1 => repeat (first | exact HR180_3.out | (with_reducible refine Kd.C_alloc ?_ _) | (with_reducible refine Kd.C_drewN ?_ _) | (with_reducible refine Kd.C_drew ?_))); (case side2 => exact HC180_3.out); rintro e w' ⟨rfl, ⟨nd, rfl⟩⟩; refine ⟨_, rfl, ?_⟩))
                  go_roundg k1
                  case measure => have := HK1.out; omega
                  case rel => exact ⟨(t181), (wrap64 (x5_1 + 1)), (by first | rfl | (simp; done) | (simp [*]; done)), (by first | rfl | (simp; done) | (simp [*]; done)), H', ⟨by have := HK1.out; omega⟩, by repeat (first | exact Drawn0.refl _ | apply Drawn0.step)⟩
              · rw [if_neg c7] at H
                have c7b0 : (((rd_T29 l0 x5_1).f2) == (wrap64 ((wrap64 (x1_1 + 1)) + 1))) = false := beq_eq_false_iff_ne.mpr c7
                have c7b1 : (((rd_T29 l0 x5_1).f2) != (wrap64 ((wrap64 (x1_1 + 1)) + 1))) = true := bne_iff_ne.mpr c7
                obtain rfl := Option.some.inj H
                have p177 : 0 ≤ (x5_1 : Int) := of_decide_eq_true (by first | (with_reducible assumption) | assumption)
                have q177 : x5_1 < (l0.length : Int) := of_decide_eq_true (by first | (with_reducible assumption) | assumption)
                obtain ⟨ad177, A177_3, c177_3, e177, hx177_0, hx177_1, hx177_2, hx177_3, hl177_3, hi177_3⟩ := at_T29 HR0.out x5_1 p177 q177
                cases e177
                have HR177_3 := Aside0.mk hi177_3
                have HC177_3 := Aside0.mk hl177_3
                clear hi177_3 hl177_3
                replace p177 := eq_true p177
                replace q177 := eq_true q177
                have p178 : 0 ≤ (x5_1 : Int) := of_decide_eq_true (by first | (with_reducible assumption) | assumption)
                have q178 : x5_1 < (l0.length : Int) := of_decide_eq_true (by first | (with_reducible assumption) | assumption)
                obtain ⟨ad178, A178_3, c178_3, e178, hx178_0, hx178_1, hx178_2, hx178_3, hl178_3, hi178_3⟩ := at_T29 HR0.out x5_1 p178 q178
                obtain rfl : ad177 = ad178 := (by injection e178)
                have HR178_3 := Aside0.mk hi178_3
                have HC178_3 := Aside0.mk hl178_3
                clear hi178_3 hl178_3
                replace p178 := eq_true p178
                replace q178 := eq_true q178
                have ea_ := Option.some.inj (hx177_3.symm.trans hx178_3)
                injection ea_ with ea_ en_ ec_
                subst ea_
                subst ec_
                clear en_
                have p179 : 0 ≤ (x5_1 : Int) := of_decide_eq_true (by first | (with_reducible assumption) | assumption)
                have q179 : x5_1 < (l0.length : Int) := of_decide_eq_true (by first | (with_reducible assumption) | assumption)
                obtain ⟨ad179, A179_3, c179_3, e179, hx179_0, hx179_1, hx179_2, hx179_3, hl179_3, hi179_3⟩ := at_T29 HR0.out x5_1 p179 q179
                obtain rfl : ad177 = ad179 := (by injection e179)
                have HR179_3 := Aside0.mk hi179_3
                have HC179_3 := Aside0.mk hl179_3
                clear hi179_3 hl179_3
                replace p179 := eq_true p179
                replace q179 := eq_true q179
                have ea_ := Option.some.inj (hx177_3.symm.trans hx179_3)
                injection ea_ with ea_ en_ ec_
                subst ea_
                subst ec_
                clear en_
                go_wp2
                go_ret
                exact ⟨by first | rfl | (simp; done) | (simp [*]; done), by repeat (first | exact Drawn0.refl _ | apply Drawn0.step)⟩
            · rw [if_neg c6] at H
              have c6b0 : (((rd_T29 l0 x5_1).f1) == (wrap64 (x1_1 + 1))) = false := beq_eq_false_iff_ne.mpr c6
              have c6b1 : (((rd_T29 l0 x5_1).f1) != (wrap64 (x1_1 + 1))) = true := bne_iff_ne.mpr c6
              obtain rfl := Option.some.inj H
              have p177 : 0 ≤ (x5_1 : Int) := of_decide_eq_true (by first | (with_reducible assumption) | assumption)
              have q177 : x5_1 < (l0.length : Int) := of_decide_eq_true (by first | (with_reducible assumption) | assumption)
              obtain ⟨ad177, A177_3, c177_3, e177, hx177_0, hx177_1, hx177_2, hx177_3, hl177_3, hi177_3⟩ := at_T29 HR0.out x5_1 p177 q177
              cases e177
              have HR177_3 := Aside0.mk hi177_3
              have HC177_3 := Aside0.mk hl177_3
              clear hi177_3 hl177_3
              replace p177 := eq_true p177
              replace q177 := eq_true q177
              have p178 : 0 ≤ (x5_1 : Int) := of_decide_eq_true (by first | (with_reducible assumption) | assumption)
              have q178 : x5_1 < (l0.length : Int) := of_decide_eq_true (by first | (with_reducible assumption) | assumption)
              obtain ⟨ad178, A178_3, c178_3, e178, hx178_0, hx178_1, hx178_2, hx178_3, hl178_3, hi178_3⟩ := at_T29 HR0.out x5_1 p178 q178
              obtain rfl : ad177 = ad178 := (by injection e178)
              have HR178_3 := Aside0.mk hi178_3
              have HC178_3 := Aside0.mk hl178_3
              clear hi178_3 hl178_3
              replace p178 := eq_true p178
              replace q178 := eq_true q178
              have ea_ := Option.some.inj (hx177_3.symm.trans hx178_3)
              injection ea_ with ea_ en_ ec_
              subst ea_
              subst ec_
              clear en_
              go_wp2
              go_ret
              exact ⟨by first | rfl | (simp; done) | (simp [*]; done), by repeat (first | exact Drawn0.refl _ | apply Drawn0.step)⟩
          · rw [if_neg c5] at H
            have c5b0 : (((rd_T29 l0 x5_1).f0) == x1_1) = false := beq_eq_false_iff_ne.mpr c5
            have c5b1 : (((rd_T29 l0 x5_1).f0) != x1_1) = true := bne_iff_ne.mpr c5
            obtain rfl := Option.some.inj H
            have p177 : 0 ≤ (x5_1 : Int) := of_decide_eq_true (by first | (with_reducible assumption) | assumption)
            have q177 : x5_1 < (l0.length : Int) := of_decide_eq_true (by first | (with_reducible assumption) | assumption)
            obtain ⟨ad177, A177_3, c177_3, e177, hx177_0, hx177_1, hx177_2, hx177_3, hl177_3, hi177_3⟩ := at_T29 HR0.out x5_1 p177 q177
            cases e177
            have HR177_3 := Aside0.mk hi177_3
            have HC177_3 := Aside0.mk hl177_3
            clear hi177_3 hl177_3
            replace p177 := eq_true p177
            replace q177 := eq_true q177
            go_wp2
            go_ret
            exact ⟨by first | rfl | (simp; done) | (simp [*]; done), by repeat (first | exact Drawn0.refl _ | apply Drawn0.step)⟩
        · rw [if_neg c4] at H
          exact absurd H (by simp)
      · rw [if_neg c3] at H
        have c3b0 : decide (x5_1 < (l0.length : Int)) = false := decide_eq_false c3
        clear c3
        obtain rfl := Option.some.inj H
        go_wp2
        go_ret
        exact ⟨by first | rfl | (simp; done) | (simp [*]; done), by repeat (first | exact Drawn0.refl _ | apply Drawn0.step)⟩

/-! ### laws_heldCond: function 22 -/
def laws_heldCond.f (k : Nat) (a0_0 : Int) (a0_1 : Int) (a0_2 : Int) (l0_3 : List (S29)) (a1 : Int) : Option (Int) := (laws_heldCondS.f k l0_3 a1).bind fun t183 => (if t183 < 0 then (some (-1)) else (some t183))
set_option maxHeartbeats 8000000 in
set_option maxRecDepth 100000 in
theorem laws_heldCond.calls (k : Nat) (a0_0 : Int) (a0_1 : Int) (a0_2 : Int) (A0_3 : Option Addr) (c0_3 : Nat) (l0_3 : List (S29)) (a1 : Int) (r : Int) (w : World) (hr0_3 : Kd.C k29 w A0_3 l0_3.length l0_3) (hc0_3 : l0_3.length ≤ c0_3) (h : laws_heldCond.f k a0_0 a0_1 a0_2 l0_3 a1 = some r) :
    Calls Try.prog 22 #[.agg #[.int .i64 a0_0, .int .i64 a0_1, .int .i64 a0_2, .slice A0_3 l0_3.length c0_3], .int .i64 a1] w fun e w' => e = .returned (.int .i64 r) ∧ Below w.heap.size w w' := by
  have hu29 := Try.underlying29
  have HR0_3 := Aside0.mk hr0_3
  have HC0_3 := Aside0.mk hc0_3
  clear hr0_3 hc0_3
  have HB := Aside0.mk (Below.refl w.heap.size w)
  have H : ((laws_heldCondS.f k l0_3 a1).bind fun t183 => (if t183 < 0 then (some (-1)) else (some t183))) = some r := h
  clear h
  replace H := Option.bind_eq_some_iff.mp H
  obtain ⟨t183, A30, H⟩ := H
  replace H : (if t183 < 0 then (some (-1)) else (some t183)) = some r := H
  have A3 := Aside0.mk A30
  clear A30
  by_cases c4 : t183 < 0
  · rw [if_pos c4] at H
    have c4b0 : decide (t183 < 0) = true := decide_eq_true c4
    clear c4
    obtain rfl := Option.some.inj H
    go_enter Try.func22, Try.ntmps22
    go_wp2_with (first | ((with_reducible refine gate_dst (N := 2) rfl ?_); refine box_event ?hg (N := 2) ?hd (cs := #[.int .i64 a0_0, .int .i64 a0_1, .int .i64 a0_2, .slice A0_3 l0_3.length c0_3]) (t := 29) ?hr ?_; (case hd => rfl); (case hg => rfl); (case hr => first | (go_simp; done) | (go_simp; rfl)); intro gb182 hg w5 hbox hb; have n0_ := Aside0.mk (below_step (by repeat (first | (with_reducible first | exact HB.out | apply below_alloc | apply pw_below_drewN | apply below_drew1) | exact HB.out)) hb); have n1_ := Aside0.mk (hbox); have n2_ := Aside0.mk ((by rw [hg]; exact (below_size (by repeat (first | (with_reducible first | exact HB.out | apply below_alloc | apply pw_below_drewN | apply below_drew1) | exact HB.out))) : w.heap.size ≤ gb182)); have n3_ := Aside0.mk ((by rw [hg]; exact (below_size (by repeat (first | (with_reducible first | exact HB.out | apply below_alloc | apply pw_below_drewN | apply below_drew1) | exact HB.out))) : w.heap.size ≤ gb182)); clear HB; have HB := n0_; have BK182 := n1_; have GW182 := n2_; have GE182 := n3_; clear n0_ n1_ n2_ n3_; clear hb hbox hg; have hcz6_0 : w5.cell? ⟨gb182, 0, none⟩ = some (.int .i64 a0_0) := (blk_cell BK182.out 0).trans rfl; have hcz6_1 : w5.cell? ⟨gb182, 1, none⟩ = some (.int .i64 a0_1) := (blk_cell BK182.out 1).trans rfl; have hcz6_2 : w5.cell? ⟨gb182, 2, none⟩ = some (.int .i64 a0_2) := (blk_cell BK182.out 2).trans rfl; have hcz6_3 : w5.cell? ⟨gb182, 3, none⟩ = some (.slice A0_3 l0_3.length c0_3) := (blk_cell BK182.out 3).trans rfl; have hfz6_0 := blk_frozen BK182.out 0; have hfz6_1 := blk_frozen BK182.out 1; have hfz6_2 := blk_frozen BK182.out 2; have hfz6_3 := blk_frozen BK182.out 3) | ((with_reducible refine gate_callee (f := 33) rfl ?_); refine goesL_ (some 8) rfl rfl Try.func33 (by kernel_rfl) rfl #[.slice A0_3 l0_3.length c0_3, .int .i64 a1] rfl (by (try simp only [List.map_toArray, List.map_cons, List.map_nil]); first | done | rfl | (simp only [List.length_drop, List.length_take]; rfl)) ?_; (with_reducible refine (laws_heldCondS.calls k _ _ l0_3 a1 t183 _ ?side1 ?side2 A3.out).mono ?_); (case side1 => repeat (first | exact (Kd.C_below HR0_3.out HB.out) | (with_reducible refine Kd.C_alloc ?_ _) | (with_reducible refine Kd.C_drewN ?_ _) | (with_reducible refine Kd.C_drew ?_))); (case side2 => exact HC0_3.out); rintro e w' ⟨rfl, ⟨nd, rfl⟩⟩; refine ⟨_, rfl, ?_⟩))
    go_ret
    exact ⟨by first | rfl | (simp [errW_none, errW_some] <;> rfl) | (simp [*, errW_none, errW_some] <;> rfl), by repeat (first | (with_reducible first | exact HB.out | apply below_alloc | apply pw_below_drewN | apply below_drew1 | refine below_set ?_ GE182.out) | exact HB.out)⟩
  · rw [if_neg c4] at H
    have c4b0 : decide (t183 < 0) = false := decide_eq_false c4
    clear c4
    obtain rfl := Option.some.inj H
    go_enter Try.func22, Try.ntmps22
    go_wp2_with (first | ((with_reducible refine gate_dst (N := 2) rfl ?_); refine box_event ?hg (N := 2) ?hd (cs := #[.int .i64 a0_0, .int .i64 a0_1, .int .i64 a0_2, .slice A0_3 l0_3.length c0_3]) (t := 29) ?hr ?_; (case hd => rfl); (case hg => rfl); (case hr => first | (go_simp; done) | (go_simp; rfl)); intro gb182 hg w7 hbox hb; have n0_ := Aside0.mk (below_step (by repeat (first | (with_reducible first | exact HB.out | apply below_alloc | apply pw_below_drewN | apply below_drew1) | exact HB.out)) hb); have n1_ := Aside0.mk (hbox); have n2_ := Aside0.mk ((by rw [hg]; exact (below_size (by repeat (first | (with_reducible first | exact HB.out | apply below_alloc | apply pw_below_drewN | apply below_drew1) | exact HB.out))) : w.heap.size ≤ gb182)); have n3_ := Aside0.mk ((by rw [hg]; exact (below_size (by repeat (first | (with_reducible first | exact HB.out | apply below_alloc | apply pw_below_drewN | apply below_drew1) | exact HB.out))) : w.heap.size ≤ gb182)); clear HB; have HB := n0_; have BK182 := n1_; have GW182 := n2_; have GE182 := n3_; clear n0_ n1_ n2_ n3_; clear hb hbox hg; have hcz8_0 : w7.cell? ⟨gb182, 0, none⟩ = some (.int .i64 a0_0) := (blk_cell BK182.out 0).trans rfl; have hcz8_1 : w7.cell? ⟨gb182, 1, none⟩ = some (.int .i64 a0_1) := (blk_cell BK182.out 1).trans rfl; have hcz8_2 : w7.cell? ⟨gb182, 2, none⟩ = some (.int .i64 a0_2) := (blk_cell BK182.out 2).trans rfl; have hcz8_3 : w7.cell? ⟨gb182, 3, none⟩ = some (.slice A0_3 l0_3.length c0_3) := (blk_cell BK182.out 3).trans rfl; have hfz8_0 := blk_frozen BK182.out 0; have hfz8_1 := blk_frozen BK182.out 1; have hfz8_2 := blk_frozen BK182.out 2; have hfz8_3 := blk_frozen BK182.out 3) | ((with_reducible refine gate_callee (f := 33) rfl ?_); refine goesL_ (some 8) rfl rfl Try.func33 (by kernel_rfl) rfl #[.slice A0_3 l0_3.length c0_3, .int .i64 a1] rfl (by (try simp only [List.map_toArray, List.map_cons, List.map_nil]); first | done | rfl | (simp only [List.length_drop, List.length_take]; rfl)) ?_; (with_reducible refine (laws_heldCondS.calls k _ _ l0_3 a1 t183 _ ?side1 ?side2 A3.out).mono ?_); (case side1 => repeat (first | exact (Kd.C_below HR0_3.out HB.out) | (with_reducible refine Kd.C_alloc ?_ _) | (with_reducible refine Kd.C_drewN ?_ _) | (with_reducible refine Kd.C_drew ?_))); (case side2 => exact HC0_3.out); rintro e w' ⟨rfl, ⟨nd, rfl⟩⟩; refine ⟨_, rfl, ?_⟩))
    go_ret
    exact ⟨by first | rfl | (simp [errW_none, errW_some] <;> rfl) | (simp [*, errW_none, errW_some] <;> rfl), by repeat (first | (with_reducible first | exact HB.out | apply below_alloc | apply pw_below_drewN | apply below_drew1 | refine below_set ?_ GE182.out) | exact HB.out)⟩

/-! ### laws_FnExactCondNot: function 5 -/
def laws_FnExactCondNot.f (k : Nat) (a0_0 : Int) (a0_1 : Int) (a0_2 : Int) (l0_3 : List (S24)) : Option (Bool) := (laws_szCond.f k a0_0 a0_1 a0_2 l0_3 1048576).bind fun t9 => (if t9 < 0 then some true else ((laws_toCond.f k a0_0 a0_1 a0_2 l0_3).bind fun (t17, t18, t19, t20) => ((spec_CondNot.f k t17 t18 t19 t20).bind fun (t26, t27, t28, t29) => ((laws_toCond.f k a0_0 a0_1 a0_2 l0_3).bind fun (t51, t52, t53, t54) => ((impl_CondNot.f k t51 t52 t53 t54).bind fun (t76, t77, t78, t79) => ((laws_eqCond.f k t76 t77 t78 t79 t26 t27 t28 t29).bind fun t105 => (if t105 = true then ((laws_toCond.f k a0_0 a0_1 a0_2 l0_3).bind fun (t110, t111, t112, t113) => ((laws_eqCond.f k t51 t52 t53 t54 t110 t111 t112 t113).bind fun t119 => (if t119 = true then ((laws_markCond.f t51 t52 t53 t54 1).bind fun (t127, t128) => (if t127 < 0 then some false else ((laws_eqCond.f k t76 t77 t78 t79 t26 t27 t28 t29).bind fun t141 => (if t141 = true then ((laws_markCond.f t76 t77 t78 t79 1).bind fun (t149, t150) => ((laws_heldCond.f k t76 t77 t78 t150 1).bind fun t158 => (if t158 < 0 then some false else (if t149 = t158 then ((laws_toCond.f k a0_0 a0_1 a0_2 l0_3).bind fun (t167, t168, t169, t170) => ((impl_CondNot.f k t167 t168 t169 t170).bind fun (t176, t177, t178, t179) => ((laws_eqCond.f k t176 t177 t178 t179 t26 t27 t28 t29).bind fun t205 => (if t205 = true then ((laws_heldCond.f k t76 t77 t78 t150 1).bind fun t213 => (if t213 < 0 then some false else (if t149 = t213 then (some true) else some false))) else some false)))) else some false)))) else some false)))) else some false))) else some false)))))))
set_option maxHeartbeats 8000000 in
set_option maxRecDepth 100000 in
theorem laws_FnExactCondNot.calls (k : Nat) (a0_0 : Int) (a0_1 : Int) (a0_2 : Int) (A0_3 : Option Addr) (c0_3 : Nat) (l0_3 : List (S24)) (r : Bool) (w : World) (hr0_3 : Kd.C k24 w A0_3 l0_3.length l0_3) (hc0_3 : l0_3.length ≤ c0_3) (h : laws_FnExactCondNot.f k a0_0 a0_1 a0_2 l0_3 = some r) (hr_ : Aside0 (r = true)) :
    Calls Try.prog 5 #[.agg #[.int .i64 a0_0, .int .i64 a0_1, .int .i64 a0_2, .slice A0_3 l0_3.length c0_3]] w fun e w' => e = .returned (.bool r) ∧ Below w.heap.size w w' := by
  obtain rfl := hr_.out
  have hu24 := Try.underlying24
  have hu29 := Try.underlying29
  have HR0_3 := Aside0.mk hr0_3
  have HC0_3 := Aside0.mk hc0_3
  clear hr0_3 hc0_3
  have HB := Aside0.mk (Below.refl w.heap.size w)
  have HS : Aside0 (0 ≤ w.heap.size) := ⟨Nat.zero_le _⟩
  unfold laws_FnExactCondNot.f at h
  obtain ⟨t9, E8, h⟩ := Option.bind_eq_some_iff.mp h
  (try dsimp only at E8 h)
  replace E8 := Aside0.mk E8
  by_cases c15 : t9 < 0
  · have cb_c15 : decide (t9 < 0) = true := decide_eq_true c15
    clear h
    go_enter Try.func5, Try.ntmps5
    go_wp2_with (first | ((with_reducible refine gate_dst (N := 1) rfl ?_); refine box_event ?hg (N := 1) ?hd (cs := #[.int .i64 a0_0, .int .i64 a0_1, .int .i64 a0_2, .slice A0_3 l0_3.length c0_3]) (t := 24) ?hr ?_; (case hd => rfl); (case hg => rfl); (case hr => first | (go_simp; done) | (go_simp; rfl)); intro g1 hg w2 hbox hb; have HZ3 : Aside0 (0 ≤ g1 ∧ w.heap.size ≤ g1) := ⟨by rw [hg]; exact ⟨HS.out, HB.out.size⟩⟩; replace HS := Go.Proofs.YtlcmjdkbeckdnaaTree.Z_b HS hb; replace HB := Go.Proofs.YtlcmjdkbeckdnaaTree.H_b HB hb; have HKg1 := Aside0.mk hbox; replace HS : Aside0 (g1 + 1 ≤ w2.heap.size) := ⟨blk_lt hbox⟩; clear hg hbox hb; have hc4 : w2.cell? ⟨g1, 0, none⟩ = some (.int .i64 a0_0) := (blk_cell HKg1.out 0).trans rfl; have hc5 : w2.cell? ⟨g1, 1, none⟩ = some (.int .i64 a0_1) := (blk_cell HKg1.out 1).trans rfl; have hc6 : w2.cell? ⟨g1, 2, none⟩ = some (.int .i64 a0_2) := (blk_cell HKg1.out 2).trans rfl; have hc7 : w2.cell? ⟨g1, 3, none⟩ = some (.slice A0_3 l0_3.length c0_3) := (blk_cell HKg1.out 3).trans rfl) | ((with_reducible refine gate_callee (f := 12) rfl ?_); refine goesL_ (some 13) rfl rfl Try.func12 (by kernel_rfl) rfl #[.agg #[.int .i64 a0_0, .int .i64 a0_1, .int .i64 a0_2, .slice A0_3 l0_3.length c0_3], .int .i64 1048576] rfl (by (try simp only [List.map_toArray, List.map_cons, List.map_nil]); first | done | rfl) ?_; (with_reducible refine (laws_szCond.calls k a0_0 a0_1 a0_2 _ _ l0_3 1048576 t9 _ ?side1 ?side2 E8.out).mono ?_); (case side1 => exact Kd.C_below HR0_3.out HB.out); (case side2 => exact HC0_3.out); rintro e w10 ⟨rfl, hb⟩; refine ⟨_, rfl, ?_⟩; (try clear hc4 hc5 hc6 hc7); replace HKg1 := Go.Proofs.YtlcmjdkbeckdnaaTree.B_b HKg1 hb; replace HS := Go.Proofs.YtlcmjdkbeckdnaaTree.Z_b HS hb; replace HB := Go.Proofs.YtlcmjdkbeckdnaaTree.H_b HB hb; clear hb; have hc11 : w10.cell? ⟨g1, 0, none⟩ = some (.int .i64 a0_0) := (blk_cell HKg1.out 0).trans rfl; have hc12 : w10.cell? ⟨g1, 1, none⟩ = some (.int .i64 a0_1) := (blk_cell HKg1.out 1).trans rfl; have hc13 : w10.cell? ⟨g1, 2, none⟩ = some (.int .i64 a0_2) := (blk_cell HKg1.out 2).trans rfl; have hc14 : w10.cell? ⟨g1, 3, none⟩ = some (.slice A0_3 l0_3.length c0_3) := (blk_cell HKg1.out 3).trans rfl))
    go_ret
    exact ⟨rfl, HB.out⟩
  rw [if_neg c15] at h
  have cb_c15 : decide (t9 < 0) = false := decide_eq_false c15
  clear c15
  obtain ⟨⟨t17, t18, t19, t20⟩, E16, h⟩ := Option.bind_eq_some_iff.mp h
  (try dsimp only at E16 h)
  replace E16 := Aside0.mk E16
  obtain ⟨⟨t26, t27, t28, t29⟩, E25, h⟩ := Option.bind_eq_some_iff.mp h
  (try dsimp only at E25 h)
  replace E25 := Aside0.mk E25
  obtain ⟨⟨t51, t52, t53, t54⟩, E50, h⟩ := Option.bind_eq_some_iff.mp h
  (try dsimp only at E50 h)
  replace E50 := Aside0.mk E50
  obtain ⟨⟨t76, t77, t78, t79⟩, E75, h⟩ := Option.bind_eq_some_iff.mp h
  (try dsimp only at E75 h)
  replace E75 := Aside0.mk E75
  obtain ⟨t105, E104, h⟩ := Option.bind_eq_some_iff.mp h
  (try dsimp only at E104 h)
  replace E104 := Aside0.mk E104
  by_cases c107 : t105 = true
  rotate_left
  · rw [if_neg c107] at h
    exact absurd h (by simp)
  rw [if_pos c107] at h
  subst c107
  obtain ⟨⟨t110, t111, t112, t113⟩, E109, h⟩ := Option.bind_eq_some_iff.mp h
  (try dsimp only at E109 h)
  replace E109 := Aside0.mk E109
  obtain ⟨t119, E118, h⟩ := Option.bind_eq_some_iff.mp h
  (try dsimp only at E118 h)
  replace E118 := Aside0.mk E118
  by_cases c121 : t119 = true
  rotate_left
  · rw [if_neg c121] at h
    exact absurd h (by simp)
  rw [if_pos c121] at h
  subst c121
  obtain ⟨⟨t127, t128⟩, E126, h⟩ := Option.bind_eq_some_iff.mp h
  (try dsimp only at E126 h)
  replace E126 := Aside0.mk E126
  by_cases c139 : t127 < 0
  · rw [if_pos c139] at h
    exact absurd h (by simp)
  rw [if_neg c139] at h
  have cb_c139 : decide (t127 < 0) = false := decide_eq_false c139
  clear c139
  obtain ⟨t141, E140, h⟩ := Option.bind_eq_some_iff.mp h
  (try dsimp only at E140 h)
  replace E140 := Aside0.mk E140
  by_cases c143 : t141 = true
  rotate_left
  · rw [if_neg c143] at h
    exact absurd h (by simp)
  rw [if_pos c143] at h
  subst c143
  obtain ⟨⟨t149, t150⟩, E148, h⟩ := Option.bind_eq_some_iff.mp h
  (try dsimp only at E148 h)
  replace E148 := Aside0.mk E148
  obtain ⟨t158, E157, h⟩ := Option.bind_eq_some_iff.mp h
  (try dsimp only at E157 h)
  replace E157 := Aside0.mk E157
  by_cases c164 : t158 < 0
  · rw [if_pos c164] at h
    exact absurd h (by simp)
  rw [if_neg c164] at h
  have cb_c164 : decide (t158 < 0) = false := decide_eq_false c164
  clear c164
  by_cases c165 : t149 = t158
  rotate_left
  · rw [if_neg c165] at h
    exact absurd h (by simp)
  rw [if_pos c165] at h
  subst c165
  obtain ⟨⟨t167, t168, t169, t170⟩, E166, h⟩ := Option.bind_eq_some_iff.mp h
  (try dsimp only at E166 h)
  replace E166 := Aside0.mk E166
  obtain ⟨⟨t176, t177, t178, t179⟩, E175, h⟩ := Option.bind_eq_some_iff.mp h
  (try dsimp only at E175 h)
  replace E175 := Aside0.mk E175
  obtain ⟨t205, E204, h⟩ := Option.bind_eq_some_iff.mp h
  (try dsimp only at E204 h)
  replace E204 := Aside0.mk E204
  by_cases c207 : t205 = true
  rotate_left
  · rw [if_neg c207] at h
    exact absurd h (by simp)
  rw [if_pos c207] at h
  subst c207
  obtain ⟨t213, E212, h⟩ := Option.bind_eq_some_iff.mp h
  (try dsimp only at E212 h)
  replace E212 := Aside0.mk E212
  by_cases c215 : t213 < 0
  · rw [if_pos c215] at h
    exact absurd h (by simp)
  rw [if_neg c215] at h
  have cb_c215 : decide (t213 < 0) = false := decide_eq_false c215
  clear c215
  by_cases c216 : t149 = t213
  rotate_left
  · rw [if_neg c216] at h
    exact absurd h (by simp)
  rw [if_pos c216] at h
  subst c216
  clear h
  go_enter Try.func5, Try.ntmps5
  go_wp2_with (first | ((with_reducible refine gate_dst (N := 1) rfl ?_); refine box_event ?hg (N := 1) ?hd (cs := #[.int .i64 a0_0, .int .i64 a0_1, .int .i64 a0_2, .slice A0_3 l0_3.length c0_3]) (t := 24) ?hr ?_; (case hd => rfl); (case hg => rfl); (case hr => first | (go_simp; done) | (go_simp; rfl)); intro g1 hg w2 hbox hb; have HZ3 : Aside0 (0 ≤ g1 ∧ w.heap.size ≤ g1) := ⟨by rw [hg]; exact ⟨HS.out, HB.out.size⟩⟩; replace HS := Go.Proofs.YtlcmjdkbeckdnaaTree.Z_b HS hb; replace HB := Go.Proofs.YtlcmjdkbeckdnaaTree.H_b HB hb; have HKg1 := Aside0.mk hbox; replace HS : Aside0 (g1 + 1 ≤ w2.heap.size) := ⟨blk_lt hbox⟩; clear hg hbox hb; have hc4 : w2.cell? ⟨g1, 0, none⟩ = some (.int .i64 a0_0) := (blk_cell HKg1.out 0).trans rfl; have hc5 : w2.cell? ⟨g1, 1, none⟩ = some (.int .i64 a0_1) := (blk_cell HKg1.out 1).trans rfl; have hc6 : w2.cell? ⟨g1, 2, none⟩ = some (.int .i64 a0_2) := (blk_cell HKg1.out 2).trans rfl; have hc7 : w2.cell? ⟨g1, 3, none⟩ = some (.slice A0_3 l0_3.length c0_3) := (blk_cell HKg1.out 3).trans rfl) | ((with_reducible refine gate_callee (f := 12) rfl ?_); refine goesL_ (some 13) rfl rfl Try.func12 (by kernel_rfl) rfl #[.agg #[.int .i64 a0_0, .int .i64 a0_1, .int .i64 a0_2, .slice A0_3 l0_3.length c0_3], .int .i64 1048576] rfl (by (try simp only [List.map_toArray, List.map_cons, List.map_nil]); first | done | rfl) ?_; (with_reducible refine (laws_szCond.calls k a0_0 a0_1 a0_2 _ _ l0_3 1048576 t9 _ ?side1 ?side2 E8.out).mono ?_); (case side1 => exact Kd.C_below HR0_3.out HB.out); (case side2 => exact HC0_3.out); rintro e w10 ⟨rfl, hb⟩; refine ⟨_, rfl, ?_⟩; (try clear hc4 hc5 hc6 hc7); replace HKg1 := Go.Proofs.YtlcmjdkbeckdnaaTree.B_b HKg1 hb; replace HS := Go.Proofs.YtlcmjdkbeckdnaaTree.Z_b HS hb; replace HB := Go.Proofs.YtlcmjdkbeckdnaaTree.H_b HB hb; clear hb; have hc11 : w10.cell? ⟨g1, 0, none⟩ = some (.int .i64 a0_0) := (blk_cell HKg1.out 0).trans rfl; have hc12 : w10.cell? ⟨g1, 1, none⟩ = some (.int .i64 a0_1) := (blk_cell HKg1.out 1).trans rfl; have hc13 : w10.cell? ⟨g1, 2, none⟩ = some (.int .i64 a0_2) := (blk_cell HKg1.out 2).trans rfl; have hc14 : w10.cell? ⟨g1, 3, none⟩ = some (.slice A0_3 l0_3.length c0_3) := (blk_cell HKg1.out 3).trans rfl) | ((with_reducible refine gate_callee (f := 14) rfl ?_); refine goesL_ (some 17) rfl rfl Try.func14 (by kernel_rfl) rfl #[.agg #[.int .i64 a0_0, .int .i64 a0_1, .int .i64 a0_2, .slice A0_3 l0_3.length c0_3]] rfl (by (try simp only [List.map_toArray, List.map_cons, List.map_nil]); first | done | rfl) ?_; (with_reducible refine (laws_toCond.calls k a0_0 a0_1 a0_2 _ _ l0_3 t17 t18 t19 t20 _ ?side1 ?side2 E16.out).mono ?_); (case side1 => exact Kd.C_below HR0_3.out HB.out); (case side2 => exact HC0_3.out); rintro e w21 ⟨v_0, rfl, ho0, hb⟩; obtain ⟨Aq22, cq22, rfl⟩ := Kd.S_slice ho0; refine ⟨_, rfl, ?_⟩; obtain ⟨Lq22, Uq22, HZ23, HZ24, HOq22⟩ := Go.Proofs.YtlcmjdkbeckdnaaTree.S_made ho0 HS.out hb HB.out.size; (try clear hc11 hc12 hc13 hc14); replace HKg1 := Go.Proofs.YtlcmjdkbeckdnaaTree.B_b HKg1 hb; replace HS := Go.Proofs.YtlcmjdkbeckdnaaTree.Z_b HS hb; replace HB := Go.Proofs.YtlcmjdkbeckdnaaTree.H_b HB hb; replace HS := HZ24; clear ho0; clear hb) | ((with_reducible refine gate_callee (f := 19) rfl ?_); refine goesL_ (some 18) rfl rfl Try.func19 (by kernel_rfl) rfl #[.agg #[.int .i64 t17, .int .i64 t18, .int .i64 t19, .slice Aq22 t20.length cq22]] rfl (by (try simp only [List.map_toArray, List.map_cons, List.map_nil]); first | done | rfl) ?_; (with_reducible refine (spec_CondNot.calls k t17 t18 t19 _ _ t20 t26 t27 t28 t29 _ ?side1 ?side2 E25.out).mono ?_); (case side1 => exact (Kd.S_reads' HOq22.out).2.2); (case side2 => exact (Kd.S_reads' HOq22.out).2.1); rintro e w30 ⟨v_0, rfl, ho0, hb⟩; obtain ⟨Aq31, cq31, rfl⟩ := Kd.S_slice ho0; refine ⟨_, rfl, ?_⟩; obtain ⟨Lq31, Uq31, HZ32, HZ33, HOq31⟩ := Go.Proofs.YtlcmjdkbeckdnaaTree.S_made ho0 HS.out hb HB.out.size; replace HOq22 := Go.Proofs.YtlcmjdkbeckdnaaTree.S_b HOq22 hb; replace HKg1 := Go.Proofs.YtlcmjdkbeckdnaaTree.B_b HKg1 hb; replace HS := Go.Proofs.YtlcmjdkbeckdnaaTree.Z_b HS hb; replace HB := Go.Proofs.YtlcmjdkbeckdnaaTree.H_b HB hb; replace HS := HZ33; clear ho0; clear hb) | ((with_reducible refine gate_dst (N := 4) rfl ?_); refine box_event ?hg (N := 4) ?hd (cs := #[.int .i64 0, .int .i64 0, .int .i64 0, .slice none 0 0]) (t := 29) ?hr ?_; (case hd => rfl); (case hg => rfl); (case hr => first | (go_simp; done) | (go_simp; rfl)); intro g34 hg w35 hbox hb; have HZ36 : Aside0 (Uq31 ≤ g34 ∧ w.heap.size ≤ g34) := ⟨by rw [hg]; exact ⟨HS.out, HB.out.size⟩⟩; replace HOq22 := Go.Proofs.YtlcmjdkbeckdnaaTree.S_b HOq22 hb; replace HOq31 := Go.Proofs.YtlcmjdkbeckdnaaTree.S_b HOq31 hb; replace HKg1 := Go.Proofs.YtlcmjdkbeckdnaaTree.B_b HKg1 hb; replace HS := Go.Proofs.YtlcmjdkbeckdnaaTree.Z_b HS hb; replace HB := Go.Proofs.YtlcmjdkbeckdnaaTree.H_b HB hb; have HKg34 := Aside0.mk hbox; replace HS : Aside0 (g34 + 1 ≤ w35.heap.size) := ⟨blk_lt hbox⟩; clear hg hbox hb; have hc37 : w35.cell? ⟨g34, 0, none⟩ = some (.int .i64 0) := (blk_cell HKg34.out 0).trans rfl; have hf38 := blk_frozen HKg34.out 0; have hc39 : w35.cell? ⟨g34, 1, none⟩ = some (.int .i64 0) := (blk_cell HKg34.out 1).trans rfl; have hf40 := blk_frozen HKg34.out 1; have hc41 : w35.cell? ⟨g34, 2, none⟩ = some (.int .i64 0) := (blk_cell HKg34.out 2).trans rfl; have hf42 := blk_frozen HKg34.out 2; have hc43 : w35.cell? ⟨g34, 3, none⟩ = some (.slice none 0 0) := (blk_cell HKg34.out 3).trans rfl; have hf44 := blk_frozen HKg34.out 3) | ((with_reducible refine gate_store (t := 29) (p := 4) rfl ?_); refine store_event (t := 29) (p := 4) (v := ?vo_w45) (w1 := ((((w35.setCell ⟨g34, 0, none⟩ (.int .i64 t26)).setCell ⟨g34, 1, none⟩ (.int .i64 t27)).setCell ⟨g34, 2, none⟩ (.int .i64 t28)).setCell ⟨g34, 3, none⟩ (.slice Aq31 t29.length cq31))) ?hg ?ho ?hn ?hr ?_; (case ho => rfl); (case hg => rfl); (case hn => rfl); (case hr => first | (go_simp; done) | (go_simp; rfl)); intro w45 hw; (try clear hc37 hf38 hc39 hf40 hc41 hf42 hc43 hf44); have hge_ : w.heap.size ≤ g34 := (by have := HZ3.out; have := HZ23.out; have := HZ32.out; have := HZ36.out; omega); have hk : Kept w35 w45 (fun x => x = g34) := (by rw [hw]; exact Go.Proofs.YtlcmjdkbeckdnaaTree.kept_cell (Go.Proofs.YtlcmjdkbeckdnaaTree.kept_cell (Go.Proofs.YtlcmjdkbeckdnaaTree.kept_cell (Go.Proofs.YtlcmjdkbeckdnaaTree.kept_cell (Kept.refl _ _) 0 _) 1 _) 2 _) 3 _); replace HB : Aside0 (Below w.heap.size w w45) := ⟨by rw [hw]; exact below_set (below_set (below_set (below_set (HB.out) hge_) hge_) hge_) hge_⟩; replace HKg34 : Aside0 (w45.heap[g34]? = some (.cells #[.int .i64 t26, .int .i64 t27, .int .i64 t28, .slice Aq31 t29.length cq31] 29 (0, 0))) := ⟨by rw [hw]; exact blk_put (cs := #[.int .i64 t26, .int .i64 t27, .int .i64 t28, .slice none 0 0]) (blk_put (cs := #[.int .i64 t26, .int .i64 t27, .int .i64 0, .slice none 0 0]) (blk_put (cs := #[.int .i64 t26, .int .i64 0, .int .i64 0, .slice none 0 0]) (blk_put (cs := #[.int .i64 0, .int .i64 0, .int .i64 0, .slice none 0 0]) (HKg34.out) 0 _ rfl) 1 _ rfl) 2 _ rfl) 3 _ rfl⟩; replace HOq22 := Go.Proofs.YtlcmjdkbeckdnaaTree.S_k HOq22 hk (fun x h1 h2 => (by have := HZ3.out; have := HZ23.out; have := HZ32.out; have := HZ36.out; have h3_ : Lq22 ≤ x ∧ x < Uq22 := h1; have h4_ : x = g34 := h2; omega)); replace HOq31 := Go.Proofs.YtlcmjdkbeckdnaaTree.S_k HOq31 hk (fun x h1 h2 => (by have := HZ3.out; have := HZ23.out; have := HZ32.out; have := HZ36.out; have h3_ : Lq31 ≤ x ∧ x < Uq31 := h1; have h4_ : x = g34 := h2; omega)); replace HKg1 := Go.Proofs.YtlcmjdkbeckdnaaTree.B_k HKg1 hk (fun h2 => (by have := HZ3.out; have := HZ23.out; have := HZ32.out; have := HZ36.out; have h4_ : g1 = g34 := h2; omega)); replace HS := Go.Proofs.YtlcmjdkbeckdnaaTree.Z_k HS hk; clear hw hk hge_; have hc46 : w45.cell? ⟨g1, 0, none⟩ = some (.int .i64 a0_0) := (blk_cell HKg1.out 0).trans rfl; have hc47 : w45.cell? ⟨g1, 1, none⟩ = some (.int .i64 a0_1) := (blk_cell HKg1.out 1).trans rfl; have hc48 : w45.cell? ⟨g1, 2, none⟩ = some (.int .i64 a0_2) := (blk_cell HKg1.out 2).trans rfl; have hc49 : w45.cell? ⟨g1, 3, none⟩ = some (.slice A0_3 l0_3.length c0_3) := (blk_cell HKg1.out 3).trans rfl) | ((with_reducible refine gate_callee (f := 14) rfl ?_); refine goesL_ (some 20) rfl rfl Try.func14 (by kernel_rfl) rfl #[.agg #[.int .i64 a0_0, .int .i64 a0_1, .int .i64 a0_2, .slice A0_3 l0_3.length c0_3]] rfl (by (try simp only [List.map_toArray, List.map_cons, List.map_nil]); first | done | rfl) ?_; (with_reducible refine (laws_toCond.calls k a0_0 a0_1 a0_2 _ _ l0_3 t51 t52 t53 t54 _ ?side1 ?side2 E50.out).mono ?_); (case side1 => exact Kd.C_below HR0_3.out HB.out); (case side2 => exact HC0_3.out); rintro e w55 ⟨v_0, rfl, ho0, hb⟩; obtain ⟨Aq56, cq56, rfl⟩ := Kd.S_slice ho0; refine ⟨_, rfl, ?_⟩; obtain ⟨Lq56, Uq56, HZ57, HZ58, HOq56⟩ := Go.Proofs.YtlcmjdkbeckdnaaTree.S_made ho0 HS.out hb HB.out.size; (try clear hc46 hc47 hc48 hc49); replace HOq22 := Go.Proofs.YtlcmjdkbeckdnaaTree.S_b HOq22 hb; replace HOq31 := Go.Proofs.YtlcmjdkbeckdnaaTree.S_b HOq31 hb; replace HKg1 := Go.Proofs.YtlcmjdkbeckdnaaTree.B_b HKg1 hb; replace HKg34 := Go.Proofs.YtlcmjdkbeckdnaaTree.B_b HKg34 hb; replace HS := Go.Proofs.YtlcmjdkbeckdnaaTree.Z_b HS hb; replace HB := Go.Proofs.YtlcmjdkbeckdnaaTree.H_b HB hb; replace HS := HZ58; clear ho0; clear hb) | ((with_reducible refine gate_dst (N := 5) rfl ?_); refine box_event ?hg (N := 5) ?hd (cs := #[.int .i64 0, .int .i64 0, .int .i64 0, .slice none 0 0]) (t := 29) ?hr ?_; (case hd => rfl); (case hg => rfl); (case hr => first | (go_simp; done) | (go_simp; rfl)); intro g59 hg w60 hbox hb; have HZ61 : Aside0 (Uq56 ≤ g59 ∧ w.heap.size ≤ g59) := ⟨by rw [hg]; exact ⟨HS.out, HB.out.size⟩⟩; replace HOq22 := Go.Proofs.YtlcmjdkbeckdnaaTree.S_b HOq22 hb; replace HOq31 := Go.Proofs.YtlcmjdkbeckdnaaTree.S_b HOq31 hb; replace HOq56 := Go.Proofs.YtlcmjdkbeckdnaaTree.S_b HOq56 hb; replace HKg1 := Go.Proofs.YtlcmjdkbeckdnaaTree.B_b HKg1 hb; replace HKg34 := Go.Proofs.YtlcmjdkbeckdnaaTree.B_b HKg34 hb; replace HS := Go.Proofs.YtlcmjdkbeckdnaaTree.Z_b HS hb; replace HB := Go.Proofs.YtlcmjdkbeckdnaaTree.H_b HB hb; have HKg59 := Aside0.mk hbox; replace HS : Aside0 (g59 + 1 ≤ w60.heap.size) := ⟨blk_lt hbox⟩; clear hg hbox hb; have hc62 : w60.cell? ⟨g59, 0, none⟩ = some (.int .i64 0) := (blk_cell HKg59.out 0).trans rfl; have hf63 := blk_frozen HKg59.out 0; have hc64 : w60.cell? ⟨g59, 1, none⟩ = some (.int .i64 0) := (blk_cell HKg59.out 1).trans rfl; have hf65 := blk_frozen HKg59.out 1; have hc66 : w60.cell? ⟨g59, 2, none⟩ = some (.int .i64 0) := (blk_cell HKg59.out 2).trans rfl; have hf67 := blk_frozen HKg59.out 2; have hc68 : w60.cell? ⟨g59, 3, none⟩ = some (.slice none 0 0) := (blk_cell HKg59.out 3).trans rfl; have hf69 := blk_frozen HKg59.out 3) | ((with_reducible refine gate_store (t := 29) (p := 5) rfl ?_); refine store_event (t := 29) (p := 5) (v := ?vo_w70) (w1 := ((((w60.setCell ⟨g59, 0, none⟩ (.int .i64 t51)).setCell ⟨g59, 1, none⟩ (.int .i64 t52)).setCell ⟨g59, 2, none⟩ (.int .i64 t53)).setCell ⟨g59, 3, none⟩ (.slice Aq56 t54.length cq56))) ?hg ?ho ?hn ?hr ?_; (case ho => rfl); (case hg => rfl); (case hn => rfl); (case hr => first | (go_simp; done) | (go_simp; rfl)); intro w70 hw; (try clear hc62 hf63 hc64 hf65 hc66 hf67 hc68 hf69); have hge_ : w.heap.size ≤ g59 := (by have := HZ3.out; have := HZ23.out; have := HZ32.out; have := HZ36.out; have := HZ57.out; have := HZ61.out; omega); have hk : Kept w60 w70 (fun x => x = g59) := (by rw [hw]; exact Go.Proofs.YtlcmjdkbeckdnaaTree.kept_cell (Go.Proofs.YtlcmjdkbeckdnaaTree.kept_cell (Go.Proofs.YtlcmjdkbeckdnaaTree.kept_cell (Go.Proofs.YtlcmjdkbeckdnaaTree.kept_cell (Kept.refl _ _) 0 _) 1 _) 2 _) 3 _); replace HB : Aside0 (Below w.heap.size w w70) := ⟨by rw [hw]; exact below_set (below_set (below_set (below_set (HB.out) hge_) hge_) hge_) hge_⟩; replace HKg59 : Aside0 (w70.heap[g59]? = some (.cells #[.int .i64 t51, .int .i64 t52, .int .i64 t53, .slice Aq56 t54.length cq56] 29 (0, 0))) := ⟨by rw [hw]; exact blk_put (cs := #[.int .i64 t51, .int .i64 t52, .int .i64 t53, .slice none 0 0]) (blk_put (cs := #[.int .i64 t51, .int .i64 t52, .int .i64 0, .slice none 0 0]) (blk_put (cs := #[.int .i64 t51, .int .i64 0, .int .i64 0, .slice none 0 0]) (blk_put (cs := #[.int .i64 0, .int .i64 0, .int .i64 0, .slice none 0 0]) (HKg59.out) 0 _ rfl) 1 _ rfl) 2 _ rfl) 3 _ rfl⟩; replace HOq22 := Go.Proofs.YtlcmjdkbeckdnaaTree.S_k HOq22 hk (fun x h1 h2 => (by have := HZ3.out; have := HZ23.out; have := HZ32.out; have := HZ36.out; have := HZ57.out; have := HZ61.out; have h3_ : Lq22 ≤ x ∧ x < Uq22 := h1; have h4_ : x = g59 := h2; omega)); replace HOq31 := Go.Proofs.YtlcmjdkbeckdnaaTree.S_k HOq31 hk (fun x h1 h2 => (by have := HZ3.out; have := HZ23.out; have := HZ32.out; have := HZ36.out; have := HZ57.out; have := HZ61.out; have h3_ : Lq31 ≤ x ∧ x < Uq31 := h1; have h4_ : x = g59 := h2; omega)); replace HOq56 := Go.Proofs.YtlcmjdkbeckdnaaTree.S_k HOq56 hk (fun x h1 h2 => (by have := HZ3.out; have := HZ23.out; have := HZ32.out; have := HZ36.out; have := HZ57.out; have := HZ61.out; have h3_ : Lq56 ≤ x ∧ x < Uq56 := h1; have h4_ : x = g59 := h2; omega)); replace HKg1 := Go.Proofs.YtlcmjdkbeckdnaaTree.B_k HKg1 hk (fun h2 => (by have := HZ3.out; have := HZ23.out; have := HZ32.out; have := HZ36.out; have := HZ57.out; have := HZ61.out; have h4_ : g1 = g59 := h2; omega)); replace HKg34 := Go.Proofs.YtlcmjdkbeckdnaaTree.B_k HKg34 hk (fun h2 => (by have := HZ3.out; have := HZ23.out; have := HZ32.out; have := HZ36.out; have := HZ57.out; have := HZ61.out; have h4_ : g34 = g59 := h2; omega)); replace HS := Go.Proofs.YtlcmjdkbeckdnaaTree.Z_k HS hk; clear hw hk hge_; have hc71 : w70.cell? ⟨g59, 0, none⟩ = some (.int .i64 t51) := (blk_cell HKg59.out 0).trans rfl; have hc72 : w70.cell? ⟨g59, 1, none⟩ = some (.int .i64 t52) := (blk_cell HKg59.out 1).trans rfl; have hc73 : w70.cell? ⟨g59, 2, none⟩ = some (.int .i64 t53) := (blk_cell HKg59.out 2).trans rfl; have hc74 : w70.cell? ⟨g59, 3, none⟩ = some (.slice Aq56 t54.length cq56) := (blk_cell HKg59.out 3).trans rfl) | ((with_reducible refine gate_callee (f := 20) rfl ?_); refine goesL_ (some 22) rfl rfl Try.func20 (by kernel_rfl) rfl #[.agg #[.int .i64 t51, .int .i64 t52, .int .i64 t53, .slice Aq56 t54.length cq56]] rfl (by (try simp only [List.map_toArray, List.map_cons, List.map_nil]); first | done | rfl) ?_; (with_reducible refine (impl_CondNot.calls k t51 t52 t53 _ _ t54 t76 t77 t78 t79 _ ?side1 ?side2 E75.out).mono ?_); (case side1 => exact (Kd.S_reads' HOq56.out).2.2); (case side2 => exact (Kd.S_reads' HOq56.out).2.1); rintro e w80 ⟨v_0, rfl, ho0, hb⟩; obtain ⟨Aq81, cq81, rfl⟩ := Kd.S_slice ho0; refine ⟨_, rfl, ?_⟩; obtain ⟨Lq81, Uq81, HZ82, HZ83, HOq81⟩ := Go.Proofs.YtlcmjdkbeckdnaaTree.S_made ho0 HS.out hb HB.out.size; (try clear hc71 hc72 hc73 hc74); replace HOq22 := Go.Proofs.YtlcmjdkbeckdnaaTree.S_b HOq22 hb; replace HOq31 := Go.Proofs.YtlcmjdkbeckdnaaTree.S_b HOq31 hb; replace HOq56 := Go.Proofs.YtlcmjdkbeckdnaaTree.S_b HOq56 hb; replace HKg1 := Go.Proofs.YtlcmjdkbeckdnaaTree.B_b HKg1 hb; replace HKg34 := Go.Proofs.YtlcmjdkbeckdnaaTree.B_b HKg34 hb; replace HKg59 := Go.Proofs.YtlcmjdkbeckdnaaTree.B_b HKg59 hb; replace HS := Go.Proofs.YtlcmjdkbeckdnaaTree.Z_b HS hb; replace HB := Go.Proofs.YtlcmjdkbeckdnaaTree.H_b HB hb; replace HS := HZ83; clear ho0; clear hb) | ((with_reducible refine gate_dst (N := 6) rfl ?_); refine box_event ?hg (N := 6) ?hd (cs := #[.int .i64 0, .int .i64 0, .int .i64 0, .slice none 0 0]) (t := 29) ?hr ?_; (case hd => rfl); (case hg => rfl); (case hr => first | (go_simp; done) | (go_simp; rfl)); intro g84 hg w85 hbox hb; have HZ86 : Aside0 (Uq81 ≤ g84 ∧ w.heap.size ≤ g84) := ⟨by rw [hg]; exact ⟨HS.out, HB.out.size⟩⟩; replace HOq22 := Go.Proofs.YtlcmjdkbeckdnaaTree.S_b HOq22 hb; replace HOq31 := Go.Proofs.YtlcmjdkbeckdnaaTree.S_b HOq31 hb; replace HOq56 := Go.Proofs.YtlcmjdkbeckdnaaTree.S_b HOq56 hb; replace HOq81 := Go.Proofs.YtlcmjdkbeckdnaaTree.S_b HOq81 hb; replace HKg1 := Go.Proofs.YtlcmjdkbeckdnaaTree.B_b HKg1 hb; replace HKg34 := Go.Proofs.YtlcmjdkbeckdnaaTree.B_b HKg34 hb; replace HKg59 := Go.Proofs.YtlcmjdkbeckdnaaTree.B_b HKg59 hb; replace HS := Go.Proofs.YtlcmjdkbeckdnaaTree.Z_b HS hb; replace HB := Go.Proofs.YtlcmjdkbeckdnaaTree.H_b HB hb; have HKg84 := Aside0.mk hbox; replace HS : Aside0 (g84 + 1 ≤ w85.heap.size) := ⟨blk_lt hbox⟩; clear hg hbox hb; have hc87 : w85.cell? ⟨g84, 0, none⟩ = some (.int .i64 0) := (blk_cell HKg84.out 0).trans rfl; have hf88 := blk_frozen HKg84.out 0; have hc89 : w85.cell? ⟨g84, 1, none⟩ = some (.int .i64 0) := (blk_cell HKg84.out 1).trans rfl; have hf90 := blk_frozen HKg84.out 1; have hc91 : w85.cell? ⟨g84, 2, none⟩ = some (.int .i64 0) := (blk_cell HKg84.out 2).trans rfl; have hf92 := blk_frozen HKg84.out 2; have hc93 : w85.cell? ⟨g84, 3, none⟩ = some (.slice none 0 0) := (blk_cell HKg84.out 3).trans rfl; have hf94 := blk_frozen HKg84.out 3) | ((with_reducible refine gate_store (t := 29) (p := 6) rfl ?_); refine store_event (t := 29) (p := 6) (v := ?vo_w95) (w1 := ((((w85.setCell ⟨g84, 0, none⟩ (.int .i64 t76)).setCell ⟨g84, 1, none⟩ (.int .i64 t77)).setCell ⟨g84, 2, none⟩ (.int .i64 t78)).setCell ⟨g84, 3, none⟩ (.slice Aq81 t79.length cq81))) ?hg ?ho ?hn ?hr ?_; (case ho => rfl); (case hg => rfl); (case hn => rfl); (case hr => first | (go_simp; done) | (go_simp; rfl)); intro w95 hw; (try clear hc87 hf88 hc89 hf90 hc91 hf92 hc93 hf94); have hge_ : w.heap.size ≤ g84 := (by have := HZ3.out; have := HZ23.out; have := HZ32.out; have := HZ36.out; have := HZ57.out; have := HZ61.out; have := HZ82.out; have := HZ86.out; omega); have hk : Kept w85 w95 (fun x => x = g84) := (by rw [hw]; exact Go.Proofs.YtlcmjdkbeckdnaaTree.kept_cell (Go.Proofs.YtlcmjdkbeckdnaaTree.kept_cell (Go.Proofs.YtlcmjdkbeckdnaaTree.kept_cell (Go.Proofs.YtlcmjdkbeckdnaaTree.kept_cell (Kept.refl _ _) 0 _) 1 _) 2 _) 3 _); replace HB : Aside0 (Below w.heap.size w w95) := ⟨by rw [hw]; exact below_set (below_set (below_set (below_set (HB.out) hge_) hge_) hge_) hge_⟩; replace HKg84 : Aside0 (w95.heap[g84]? = some (.cells #[.int .i64 t76, .int .i64 t77, .int .i64 t78, .slice Aq81 t79.length cq81] 29 (0, 0))) := ⟨by rw [hw]; exact blk_put (cs := #[.int .i64 t76, .int .i64 t77, .int .i64 t78, .slice none 0 0]) (blk_put (cs := #[.int .i64 t76, .int .i64 t77, .int .i64 0, .slice none 0 0]) (blk_put (cs := #[.int .i64 t76, .int .i64 0, .int .i64 0, .slice none 0 0]) (blk_put (cs := #[.int .i64 0, .int .i64 0, .int .i64 0, .slice none 0 0]) (HKg84.out) 0 _ rfl) 1 _ rfl) 2 _ rfl) 3 _ rfl⟩; replace HOq22 := Go.Proofs.YtlcmjdkbeckdnaaTree.S_k HOq22 hk (fun x h1 h2 => (by have := HZ3.out; have := HZ23.out; have := HZ32.out; have := HZ36.out; have := HZ57.out; have := HZ61.out; have := HZ82.out; have := HZ86.out; have h3_ : Lq22 ≤ x ∧ x < Uq22 := h1; have h4_ : x = g84 := h2; omega)); replace HOq31 := Go.Proofs.YtlcmjdkbeckdnaaTree.S_k HOq31 hk (fun x h1 h2 => (by have := HZ3.out; have := HZ23.out; have := HZ32.out; have := HZ36.out; have := HZ57.out; have := HZ61.out; have := HZ82.out; have := HZ86.out; have h3_ : Lq31 ≤ x ∧ x < Uq31 := h1; have h4_ : x = g84 := h2; omega)); replace HOq56 := Go.Proofs.YtlcmjdkbeckdnaaTree.S_k HOq56 hk (fun x h1 h2 => (by have := HZ3.out; have := HZ23.out; have := HZ32.out; have := HZ36.out; have := HZ57.out; have := HZ61.out; have := HZ82.out; have := HZ86.out; have h3_ : Lq56 ≤ x ∧ x < Uq56 := h1; have h4_ : x = g84 := h2; omega)); replace HOq81 := Go.Proofs.YtlcmjdkbeckdnaaTree.S_k HOq81 hk (fun x h1 h2 => (by have := HZ3.out; have := HZ23.out; have := HZ32.out; have := HZ36.out; have := HZ57.out; have := HZ61.out; have := HZ82.out; have := HZ86.out; have h3_ : Lq81 ≤ x ∧ x < Uq81 := h1; have h4_ : x = g84 := h2; omega)); replace HKg1 := Go.Proofs.YtlcmjdkbeckdnaaTree.B_k HKg1 hk (fun h2 => (by have := HZ3.out; have := HZ23.out; have := HZ32.out; have := HZ36.out; have := HZ57.out; have := HZ61.out; have := HZ82.out; have := HZ86.out; have h4_ : g1 = g84 := h2; omega)); replace HKg34 := Go.Proofs.YtlcmjdkbeckdnaaTree.B_k HKg34 hk (fun h2 => (by have := HZ3.out; have := HZ23.out; have := HZ32.out; have := HZ36.out; have := HZ57.out; have := HZ61.out; have := HZ82.out; have := HZ86.out; have h4_ : g34 = g84 := h2; omega)); replace HKg59 := Go.Proofs.YtlcmjdkbeckdnaaTree.B_k HKg59 hk (fun h2 => (by have := HZ3.out; have := HZ23.out; have := HZ32.out; have := HZ36.out; have := HZ57.out; have := HZ61.out; have := HZ82.out; have := HZ86.out; have h4_ : g59 = g84 := h2; omega)); replace HS := Go.Proofs.YtlcmjdkbeckdnaaTree.Z_k HS hk; clear hw hk hge_; have hc96 : w95.cell? ⟨g84, 0, none⟩ = some (.int .i64 t76) := (blk_cell HKg84.out 0).trans rfl; have hc97 : w95.cell? ⟨g84, 1, none⟩ = some (.int .i64 t77) := (blk_cell HKg84.out 1).trans rfl; have hc98 : w95.cell? ⟨g84, 2, none⟩ = some (.int .i64 t78) := (blk_cell HKg84.out 2).trans rfl; have hc99 : w95.cell? ⟨g84, 3, none⟩ = some (.slice Aq81 t79.length cq81) := (blk_cell HKg84.out 3).trans rfl; have hc100 : w95.cell? ⟨g34, 0, none⟩ = some (.int .i64 t26) := (blk_cell HKg34.out 0).trans rfl; have hc101 : w95.cell? ⟨g34, 1, none⟩ = some (.int .i64 t27) := (blk_cell HKg34.out 1).trans rfl; have hc102 : w95.cell? ⟨g34, 2, none⟩ = some (.int .i64 t28) := (blk_cell HKg34.out 2).trans rfl; have hc103 : w95.cell? ⟨g34, 3, none⟩ = some (.slice Aq31 t29.length cq31) := (blk_cell HKg34.out 3).trans rfl) | ((with_reducible refine gate_callee (f := 16) rfl ?_); refine goesL_ (some 25) rfl rfl Try.func16 (by kernel_rfl) rfl #[.agg #[.int .i64 t76, .int .i64 t77, .int .i64 t78, .slice Aq81 t79.length cq81], .agg #[.int .i64 t26, .int .i64 t27, .int .i64 t28, .slice Aq31 t29.length cq31]] rfl (by (try simp only [List.map_toArray, List.map_cons, List.map_nil]); first | done | rfl) ?_; (with_reducible refine (laws_eqCond.calls k t76 t77 t78 _ _ t79 t26 t27 t28 _ _ t29 true _ ?side1 ?side2 ?side3 ?side4 E104.out).mono ?_); (case side1 => exact (Kd.S_reads' HOq81.out).2.2); (case side2 => exact (Kd.S_reads' HOq81.out).2.1); (case side3 => exact (Kd.S_reads' HOq31.out).2.2); (case side4 => exact (Kd.S_reads' HOq31.out).2.1); rintro e w106 ⟨rfl, hb⟩; refine ⟨_, rfl, ?_⟩; (try clear hc96 hc97 hc98 hc99 hc100 hc101 hc102 hc103); replace HOq22 := Go.Proofs.YtlcmjdkbeckdnaaTree.S_b HOq22 hb; replace HOq31 := Go.Proofs.YtlcmjdkbeckdnaaTree.S_b HOq31 hb; replace HOq56 := Go.Proofs.YtlcmjdkbeckdnaaTree.S_b HOq56 hb; replace HOq81 := Go.Proofs.YtlcmjdkbeckdnaaTree.S_b HOq81 hb; replace HKg1 := Go.Proofs.YtlcmjdkbeckdnaaTree.B_b HKg1 hb; replace HKg34 := Go.Proofs.YtlcmjdkbeckdnaaTree.B_b HKg34 hb; replace HKg59 := Go.Proofs.YtlcmjdkbeckdnaaTree.B_b HKg59 hb; replace HKg84 := Go.Proofs.YtlcmjdkbeckdnaaTree.B_b HKg84 hb; replace HS := Go.Proofs.YtlcmjdkbeckdnaaTree.Z_b HS hb; replace HB := Go.Proofs.YtlcmjdkbeckdnaaTree.H_b HB hb; clear hb))
  have hb := below_drew (Below.refl w106.heap.size w106)
  replace HOq22 := Go.Proofs.YtlcmjdkbeckdnaaTree.S_b HOq22 hb
  replace HOq31 := Go.Proofs.YtlcmjdkbeckdnaaTree.S_b HOq31 hb
  replace HOq56 := Go.Proofs.YtlcmjdkbeckdnaaTree.S_b HOq56 hb
  replace HOq81 := Go.Proofs.YtlcmjdkbeckdnaaTree.S_b HOq81 hb
  replace HKg1 := Go.Proofs.YtlcmjdkbeckdnaaTree.B_b HKg1 hb
  replace HKg34 := Go.Proofs.YtlcmjdkbeckdnaaTree.B_b HKg34 hb
  replace HKg59 := Go.Proofs.YtlcmjdkbeckdnaaTree.B_b HKg59 hb
  replace HKg84 := Go.Proofs.YtlcmjdkbeckdnaaTree.B_b HKg84 hb
  replace HS := Go.Proofs.YtlcmjdkbeckdnaaTree.Z_b HS hb
  replace HB := Go.Proofs.YtlcmjdkbeckdnaaTree.H_b HB hb
  clear hb
  refine start_ (n := 5) (S := fun w' => w'.cell? ⟨g59, 0, none⟩ = some (.int .i64 t51) ∧ w'.cell? ⟨g59, 1, none⟩ = some (.int .i64 t52) ∧ w'.cell? ⟨g59, 2, none⟩ = some (.int .i64 t53) ∧ w'.cell? ⟨g59, 3, none⟩ = some (.slice Aq56 t54.length cq56) ∧ w'.cell? ⟨g1, 0, none⟩ = some (.int .i64 a0_0) ∧ w'.cell? ⟨g1, 1, none⟩ = some (.int .i64 a0_1) ∧ w'.cell? ⟨g1, 2, none⟩ = some (.int .i64 a0_2) ∧ w'.cell? ⟨g1, 3, none⟩ = some (.slice A0_3 l0_3.length c0_3)) (ds := []) #[false, false, false, false, false] (by kernel_rfl) rfl rfl ⟨(blk_cell HKg59.out 0).trans rfl, (blk_cell HKg59.out 1).trans rfl, (blk_cell HKg59.out 2).trans rfl, (blk_cell HKg59.out 3).trans rfl, (blk_cell HKg1.out 0).trans rfl, (blk_cell HKg1.out 1).trans rfl, (blk_cell HKg1.out 2).trans rfl, (blk_cell HKg1.out 3).trans rfl⟩ (fun hHeld => ?_)
  generalize w106.drew = w108 at HOq22 HOq31 HOq56 HOq81 HKg1 HKg34 HKg59 HKg84 HB HS hHeld ⊢
  refine take_ (i := 0) (N := some 27) (v := ?_) (a' := ?_) #[true, false, false, false, false] rfl rfl (by kernel_rfl) (fun _ _ _ h => h) (Or.inl ⟨by rfl, ?_⟩) hHeld ?_ ?_
  rotate_left
  · rintro w' ⟨s0, s1, s2, s3, s4, s5, s6, s7⟩
    go_simp
    with_reducible rfl
  rotate_left
  · simp only [Act.put, List.setIfInBounds_toArray, List.set_cons_zero, List.set_cons_succ, i64_w, i32_w]
    rfl
  refine take_ (i := 1) (N := some 28) (v := ?_) (a' := ?_) #[true, true, false, false, false] rfl rfl (by kernel_rfl) (fun _ _ _ h => h) (Or.inl ⟨by rfl, ?_⟩) hHeld ?_ ?_
  rotate_left
  · rintro w' ⟨s0, s1, s2, s3, s4, s5, s6, s7⟩
    go_simp
    with_reducible rfl
  rotate_left
  · simp only [Act.put, List.setIfInBounds_toArray, List.set_cons_zero, List.set_cons_succ, i64_w, i32_w]
    rfl
  refine one_ (i := 2) (N := some 29) #[true, true, true, false, false] rfl rfl (by kernel_rfl) (by decide) (fun K hK => ?_)
  refine goes_ Try.func14 (by kernel_rfl) rfl #[.agg #[.int .i64 a0_0, .int .i64 a0_1, .int .i64 a0_2, .slice A0_3 l0_3.length c0_3]] (by rfl) rfl rfl (by (try simp only [List.map_toArray, List.map_cons, List.map_nil]); first | done | rfl) ?_
  with_reducible refine (laws_toCond.calls k a0_0 a0_1 a0_2 _ _ l0_3 t110 t111 t112 t113 _ ?side1 ?side2 E109.out).mono ?_
  (case side1 => exact Kd.C_below HR0_3.out HB.out)
  (case side2 => exact HC0_3.out)
  rintro e w114 ⟨v_0, rfl, ho0, hb⟩
  obtain ⟨Aq115, cq115, rfl⟩ := Kd.S_slice ho0
  refine ⟨_, rfl, ?_⟩
  obtain ⟨Lq115, Uq115, HZ116, HZ117, HOq115⟩ := Go.Proofs.YtlcmjdkbeckdnaaTree.S_made ho0 HS.out hb HB.out.size
  replace HOq22 := Go.Proofs.YtlcmjdkbeckdnaaTree.S_b HOq22 hb
  replace HOq31 := Go.Proofs.YtlcmjdkbeckdnaaTree.S_b HOq31 hb
  replace HOq56 := Go.Proofs.YtlcmjdkbeckdnaaTree.S_b HOq56 hb
  replace HOq81 := Go.Proofs.YtlcmjdkbeckdnaaTree.S_b HOq81 hb
  replace HKg1 := Go.Proofs.YtlcmjdkbeckdnaaTree.B_b HKg1 hb
  replace HKg34 := Go.Proofs.YtlcmjdkbeckdnaaTree.B_b HKg34 hb
  replace HKg59 := Go.Proofs.YtlcmjdkbeckdnaaTree.B_b HKg59 hb
  replace HKg84 := Go.Proofs.YtlcmjdkbeckdnaaTree.B_b HKg84 hb
  replace HS := Go.Proofs.YtlcmjdkbeckdnaaTree.Z_b HS hb
  replace HB := Go.Proofs.YtlcmjdkbeckdnaaTree.H_b HB hb
  replace HS := HZ117
  clear ho0
  clear hb
  refine hK.out _ _ ⟨(blk_cell HKg59.out 0).trans rfl, (blk_cell HKg59.out 1).trans rfl, (blk_cell HKg59.out 2).trans rfl, (blk_cell HKg59.out 3).trans rfl, (blk_cell HKg1.out 0).trans rfl, (blk_cell HKg1.out 1).trans rfl, (blk_cell HKg1.out 2).trans rfl, (blk_cell HKg1.out 3).trans rfl⟩ (fun hHeld => ?_)
  clear hK K
  refine norm_ (a' := ?_) ?_ ?_
  rotate_left
  · show Act.put _ (some 29) _ = _
    simp only [Act.put, List.setIfInBounds_toArray, List.set_cons_zero, List.set_cons_succ, i64_w, i32_w]
    rfl
  refine one_ (i := 3) (N := some 30) #[true, true, true, true, false] rfl rfl (by kernel_rfl) (by decide) (fun K hK => ?_)
  refine goes_ Try.func16 (by kernel_rfl) rfl #[.agg #[.int .i64 t51, .int .i64 t52, .int .i64 t53, .slice Aq56 t54.length cq56], .agg #[.int .i64 t110, .int .i64 t111, .int .i64 t112, .slice Aq115 t113.length cq115]] (by rfl) rfl rfl (by (try simp only [List.map_toArray, List.map_cons, List.map_nil]); first | done | rfl) ?_
  with_reducible refine (laws_eqCond.calls k t51 t52 t53 _ _ t54 t110 t111 t112 _ _ t113 true _ ?side1 ?side2 ?side3 ?side4 E118.out).mono ?_
  (case side1 => exact (Kd.S_reads' HOq56.out).2.2)
  (case side2 => exact (Kd.S_reads' HOq56.out).2.1)
  (case side3 => exact (Kd.S_reads' HOq115.out).2.2)
  (case side4 => exact (Kd.S_reads' HOq115.out).2.1)
  rintro e w120 ⟨rfl, hb⟩
  refine ⟨_, rfl, ?_⟩
  replace HOq22 := Go.Proofs.YtlcmjdkbeckdnaaTree.S_b HOq22 hb
  replace HOq31 := Go.Proofs.YtlcmjdkbeckdnaaTree.S_b HOq31 hb
  replace HOq56 := Go.Proofs.YtlcmjdkbeckdnaaTree.S_b HOq56 hb
  replace HOq81 := Go.Proofs.YtlcmjdkbeckdnaaTree.S_b HOq81 hb
  replace HOq115 := Go.Proofs.YtlcmjdkbeckdnaaTree.S_b HOq115 hb
  replace HKg1 := Go.Proofs.YtlcmjdkbeckdnaaTree.B_b HKg1 hb
  replace HKg34 := Go.Proofs.YtlcmjdkbeckdnaaTree.B_b HKg34 hb
  replace HKg59 := Go.Proofs.YtlcmjdkbeckdnaaTree.B_b HKg59 hb
  replace HKg84 := Go.Proofs.YtlcmjdkbeckdnaaTree.B_b HKg84 hb
  replace HS := Go.Proofs.YtlcmjdkbeckdnaaTree.Z_b HS hb
  replace HB := Go.Proofs.YtlcmjdkbeckdnaaTree.H_b HB hb
  clear hb
  refine hK.out _ _ ⟨(blk_cell HKg59.out 0).trans rfl, (blk_cell HKg59.out 1).trans rfl, (blk_cell HKg59.out 2).trans rfl, (blk_cell HKg59.out 3).trans rfl, (blk_cell HKg1.out 0).trans rfl, (blk_cell HKg1.out 1).trans rfl, (blk_cell HKg1.out 2).trans rfl, (blk_cell HKg1.out 3).trans rfl⟩ (fun hHeld => ?_)
  clear hK K
  refine norm_ (a' := ?_) ?_ ?_
  rotate_left
  · show Act.put _ (some 30) _ = _
    simp only [Act.put, List.setIfInBounds_toArray, List.set_cons_zero, List.set_cons_succ, i64_w, i32_w]
    rfl
  refine pure_ (i := 4) (N := some 31) (v := ?_) (a' := ?_) #[true, true, true, true, true] rfl rfl (by kernel_rfl) (fun _ _ _ h => h) (Or.inl ⟨by rfl, ?_⟩) ?_ ?_
  rotate_left
  · intro w'
    go_simp
    with_reducible rfl
  rotate_left
  · simp only [Act.put, List.setIfInBounds_toArray, List.set_cons_zero, List.set_cons_succ, i64_w, i32_w]
    rfl
  refine done_ (by kernel_rfl) ?_
  have hc122 : w120.cell? ⟨g59, 0, none⟩ = some (.int .i64 t51) := (blk_cell HKg59.out 0).trans rfl
  have hc123 : w120.cell? ⟨g59, 1, none⟩ = some (.int .i64 t52) := (blk_cell HKg59.out 1).trans rfl
  have hc124 : w120.cell? ⟨g59, 2, none⟩ = some (.int .i64 t53) := (blk_cell HKg59.out 2).trans rfl
  have hc125 : w120.cell? ⟨g59, 3, none⟩ = some (.slice Aq56 t54.length cq56) := (blk_cell HKg59.out 3).trans rfl
  go_wp2_with (first | ((with_reducible refine gate_callee (f := 21) rfl ?_); refine goesL_ (some 34) rfl rfl Try.func21 (by kernel_rfl) rfl #[.agg #[.int .i64 t51, .int .i64 t52, .int .i64 t53, .slice Aq56 t54.length cq56], .int .i64 1] rfl (by (try simp only [List.map_toArray, List.map_cons, List.map_nil]); first | done | rfl) ?_; (with_reducible refine (laws_markCond.calls t51 t52 t53 (fun x => Lq56 ≤ x ∧ x < Uq56) (.slice Aq56 t54.length cq56) t54 1 t127 t128 w _ ?side1 ?side2 E126.out).mono ?_); (case side1 => exact HB.out); (case side2 => exact HOq56.out); rintro e w129 ⟨rfl, hy_, hb_, hk⟩; refine ⟨_, rfl, ?_⟩; (try clear hc122 hc123 hc124 hc125); replace HOq22 := Go.Proofs.YtlcmjdkbeckdnaaTree.S_k HOq22 hk (fun x h1 h2 => (by have := HZ3.out; have := HZ23.out; have := HZ32.out; have := HZ36.out; have := HZ57.out; have := HZ61.out; have := HZ82.out; have := HZ86.out; have := HZ116.out; have h3_ : Lq22 ≤ x ∧ x < Uq22 := h1; have h4_ : Lq56 ≤ x ∧ x < Uq56 := h2; omega)); replace HOq31 := Go.Proofs.YtlcmjdkbeckdnaaTree.S_k HOq31 hk (fun x h1 h2 => (by have := HZ3.out; have := HZ23.out; have := HZ32.out; have := HZ36.out; have := HZ57.out; have := HZ61.out; have := HZ82.out; have := HZ86.out; have := HZ116.out; have h3_ : Lq31 ≤ x ∧ x < Uq31 := h1; have h4_ : Lq56 ≤ x ∧ x < Uq56 := h2; omega)); replace HOq81 := Go.Proofs.YtlcmjdkbeckdnaaTree.S_k HOq81 hk (fun x h1 h2 => (by have := HZ3.out; have := HZ23.out; have := HZ32.out; have := HZ36.out; have := HZ57.out; have := HZ61.out; have := HZ82.out; have := HZ86.out; have := HZ116.out; have h3_ : Lq81 ≤ x ∧ x < Uq81 := h1; have h4_ : Lq56 ≤ x ∧ x < Uq56 := h2; omega)); replace HOq115 := Go.Proofs.YtlcmjdkbeckdnaaTree.S_k HOq115 hk (fun x h1 h2 => (by have := HZ3.out; have := HZ23.out; have := HZ32.out; have := HZ36.out; have := HZ57.out; have := HZ61.out; have := HZ82.out; have := HZ86.out; have := HZ116.out; have h3_ : Lq115 ≤ x ∧ x < Uq115 := h1; have h4_ : Lq56 ≤ x ∧ x < Uq56 := h2; omega)); replace HKg1 := Go.Proofs.YtlcmjdkbeckdnaaTree.B_k HKg1 hk (fun h2 => (by have := HZ3.out; have := HZ23.out; have := HZ32.out; have := HZ36.out; have := HZ57.out; have := HZ61.out; have := HZ82.out; have := HZ86.out; have := HZ116.out; have h4_ : Lq56 ≤ g1 ∧ g1 < Uq56 := h2; omega)); replace HKg34 := Go.Proofs.YtlcmjdkbeckdnaaTree.B_k HKg34 hk (fun h2 => (by have := HZ3.out; have := HZ23.out; have := HZ32.out; have := HZ36.out; have := HZ57.out; have := HZ61.out; have := HZ82.out; have := HZ86.out; have := HZ116.out; have h4_ : Lq56 ≤ g34 ∧ g34 < Uq56 := h2; omega)); replace HKg59 := Go.Proofs.YtlcmjdkbeckdnaaTree.B_k HKg59 hk (fun h2 => (by have := HZ3.out; have := HZ23.out; have := HZ32.out; have := HZ36.out; have := HZ57.out; have := HZ61.out; have := HZ82.out; have := HZ86.out; have := HZ116.out; have h4_ : Lq56 ≤ g59 ∧ g59 < Uq56 := h2; omega)); replace HKg84 := Go.Proofs.YtlcmjdkbeckdnaaTree.B_k HKg84 hk (fun h2 => (by have := HZ3.out; have := HZ23.out; have := HZ32.out; have := HZ36.out; have := HZ57.out; have := HZ61.out; have := HZ82.out; have := HZ86.out; have := HZ116.out; have h4_ : Lq56 ≤ g84 ∧ g84 < Uq56 := h2; omega)); replace HS := Go.Proofs.YtlcmjdkbeckdnaaTree.Z_k HS hk; replace HB := Aside0.mk hb_; have HLN130 : Aside0 (t54.length = t128.length) := ⟨(Kd.S_reads' hy_).1⟩; replace HOq56 := Aside0.mk hy_; (try clear hk hb_); (try clear hy_); have hc131 : w129.cell? ⟨g84, 0, none⟩ = some (.int .i64 t76) := (blk_cell HKg84.out 0).trans rfl; have hc132 : w129.cell? ⟨g84, 1, none⟩ = some (.int .i64 t77) := (blk_cell HKg84.out 1).trans rfl; have hc133 : w129.cell? ⟨g84, 2, none⟩ = some (.int .i64 t78) := (blk_cell HKg84.out 2).trans rfl; have hc134 : w129.cell? ⟨g84, 3, none⟩ = some (.slice Aq81 t79.length cq81) := (blk_cell HKg84.out 3).trans rfl; have hc135 : w129.cell? ⟨g34, 0, none⟩ = some (.int .i64 t26) := (blk_cell HKg34.out 0).trans rfl; have hc136 : w129.cell? ⟨g34, 1, none⟩ = some (.int .i64 t27) := (blk_cell HKg34.out 1).trans rfl; have hc137 : w129.cell? ⟨g34, 2, none⟩ = some (.int .i64 t28) := (blk_cell HKg34.out 2).trans rfl; have hc138 : w129.cell? ⟨g34, 3, none⟩ = some (.slice Aq31 t29.length cq31) := (blk_cell HKg34.out 3).trans rfl) | (go_at_call 16; (with_reducible refine (laws_eqCond.calls k t76 t77 t78 _ _ t79 t26 t27 t28 _ _ t29 true _ ?side1 ?side2 ?side3 ?side4 E140.out).mono ?_); (case side1 => exact (Kd.S_reads' HOq81.out).2.2); (case side2 => exact (Kd.S_reads' HOq81.out).2.1); (case side3 => exact (Kd.S_reads' HOq31.out).2.2); (case side4 => exact (Kd.S_reads' HOq31.out).2.1); rintro e w142 ⟨rfl, hb⟩; (try clear hc131 hc132 hc133 hc134 hc135 hc136 hc137 hc138); replace HOq22 := Go.Proofs.YtlcmjdkbeckdnaaTree.S_b HOq22 hb; replace HOq31 := Go.Proofs.YtlcmjdkbeckdnaaTree.S_b HOq31 hb; replace HOq56 := Go.Proofs.YtlcmjdkbeckdnaaTree.S_b HOq56 hb; replace HOq81 := Go.Proofs.YtlcmjdkbeckdnaaTree.S_b HOq81 hb; replace HOq115 := Go.Proofs.YtlcmjdkbeckdnaaTree.S_b HOq115 hb; replace HKg1 := Go.Proofs.YtlcmjdkbeckdnaaTree.B_b HKg1 hb; replace HKg34 := Go.Proofs.YtlcmjdkbeckdnaaTree.B_b HKg34 hb; replace HKg59 := Go.Proofs.YtlcmjdkbeckdnaaTree.B_b HKg59 hb; replace HKg84 := Go.Proofs.YtlcmjdkbeckdnaaTree.B_b HKg84 hb; replace HS := Go.Proofs.YtlcmjdkbeckdnaaTree.Z_b HS hb; replace HB := Go.Proofs.YtlcmjdkbeckdnaaTree.H_b HB hb; clear hb; have hc144 : w142.cell? ⟨g84, 0, none⟩ = some (.int .i64 t76) := (blk_cell HKg84.out 0).trans rfl; have hc145 : w142.cell? ⟨g84, 1, none⟩ = some (.int .i64 t77) := (blk_cell HKg84.out 1).trans rfl; have hc146 : w142.cell? ⟨g84, 2, none⟩ = some (.int .i64 t78) := (blk_cell HKg84.out 2).trans rfl; have hc147 : w142.cell? ⟨g84, 3, none⟩ = some (.slice Aq81 t79.length cq81) := (blk_cell HKg84.out 3).trans rfl) | ((with_reducible refine gate_callee (f := 21) rfl ?_); refine goesL_ (some 45) rfl rfl Try.func21 (by kernel_rfl) rfl #[.agg #[.int .i64 t76, .int .i64 t77, .int .i64 t78, .slice Aq81 t79.length cq81], .int .i64 1] rfl (by (try simp only [List.map_toArray, List.map_cons, List.map_nil]); first | done | rfl) ?_; (with_reducible refine (laws_markCond.calls t76 t77 t78 (fun x => Lq81 ≤ x ∧ x < Uq81) (.slice Aq81 t79.length cq81) t79 1 t149 t150 w _ ?side1 ?side2 E148.out).mono ?_); (case side1 => exact HB.out); (case side2 => exact HOq81.out); rintro e w151 ⟨rfl, hy_, hb_, hk⟩; refine ⟨_, rfl, ?_⟩; (try clear hc144 hc145 hc146 hc147); replace HOq22 := Go.Proofs.YtlcmjdkbeckdnaaTree.S_k HOq22 hk (fun x h1 h2 => (by have := HZ3.out; have := HZ23.out; have := HZ32.out; have := HZ36.out; have := HZ57.out; have := HZ61.out; have := HZ82.out; have := HZ86.out; have := HZ116.out; have h3_ : Lq22 ≤ x ∧ x < Uq22 := h1; have h4_ : Lq81 ≤ x ∧ x < Uq81 := h2; omega)); replace HOq31 := Go.Proofs.YtlcmjdkbeckdnaaTree.S_k HOq31 hk (fun x h1 h2 => (by have := HZ3.out; have := HZ23.out; have := HZ32.out; have := HZ36.out; have := HZ57.out; have := HZ61.out; have := HZ82.out; have := HZ86.out; have := HZ116.out; have h3_ : Lq31 ≤ x ∧ x < Uq31 := h1; have h4_ : Lq81 ≤ x ∧ x < Uq81 := h2; omega)); replace HOq56 := Go.Proofs.YtlcmjdkbeckdnaaTree.S_k HOq56 hk (fun x h1 h2 => (by have := HZ3.out; have := HZ23.out; have := HZ32.out; have := HZ36.out; have := HZ57.out; have := HZ61.out; have := HZ82.out; have := HZ86.out; have := HZ116.out; have h3_ : Lq56 ≤ x ∧ x < Uq56 := h1; have h4_ : Lq81 ≤ x ∧ x < Uq81 := h2; omega)); replace HOq115 := Go.Proofs.YtlcmjdkbeckdnaaTree.S_k HOq115 hk (fun x h1 h2 => (by have := HZ3.out; have := HZ23.out; have := HZ32.out; have := HZ36.out; have := HZ57.out; have := HZ61.out; have := HZ82.out; have := HZ86.out; have := HZ116.out; have h3_ : Lq115 ≤ x ∧ x < Uq115 := h1; have h4_ : Lq81 ≤ x ∧ x < Uq81 := h2; omega)); replace HKg1 := Go.Proofs.YtlcmjdkbeckdnaaTree.B_k HKg1 hk (fun h2 => (by have := HZ3.out; have := HZ23.out; have := HZ32.out; have := HZ36.out; have := HZ57.out; have := HZ61.out; have := HZ82.out; have := HZ86.out; have := HZ116.out; have h4_ : Lq81 ≤ g1 ∧ g1 < Uq81 := h2; omega)); replace HKg34 := Go.Proofs.YtlcmjdkbeckdnaaTree.B_k HKg34 hk (fun h2 => (by have := HZ3.out; have := HZ23.out; have := HZ32.out; have := HZ36.out; have := HZ57.out; have := HZ61.out; have := HZ82.out; have := HZ86.out; have := HZ116.out; have h4_ : Lq81 ≤ g34 ∧ g34 < Uq81 := h2; omega)); replace HKg59 := Go.Proofs.YtlcmjdkbeckdnaaTree.B_k HKg59 hk (fun h2 => (by have := HZ3.out; have := HZ23.out; have := HZ32.out; have := HZ36.out; have := HZ57.out; have := HZ61.out; have := HZ82.out; have := HZ86.out; have := HZ116.out; have h4_ : Lq81 ≤ g59 ∧ g59 < Uq81 := h2; omega)); replace HKg84 := Go.Proofs.YtlcmjdkbeckdnaaTree.B_k HKg84 hk (fun h2 => (by have := HZ3.out; have := HZ23.out; have := HZ32.out; have := HZ36.out; have := HZ57.out; have := HZ61.out; have := HZ82.out; have := HZ86.out; have := HZ116.out; have h4_ : Lq81 ≤ g84 ∧ g84 < Uq81 := h2; omega)); replace HS := Go.Proofs.YtlcmjdkbeckdnaaTree.Z_k HS hk; replace HB := Aside0.mk hb_; have HLN152 : Aside0 (t79.length = t150.length) := ⟨(Kd.S_reads' hy_).1⟩; replace HOq81 := Aside0.mk hy_; (try clear hk hb_); (try clear hy_); have hc153 : w151.cell? ⟨g84, 0, none⟩ = some (.int .i64 t76) := (blk_cell HKg84.out 0).trans rfl; have hc154 : w151.cell? ⟨g84, 1, none⟩ = some (.int .i64 t77) := (blk_cell HKg84.out 1).trans rfl; have hc155 : w151.cell? ⟨g84, 2, none⟩ = some (.int .i64 t78) := (blk_cell HKg84.out 2).trans rfl; have hc156 : w151.cell? ⟨g84, 3, none⟩ = some (.slice Aq81 t79.length cq81) := (blk_cell HKg84.out 3).trans rfl) | ((with_reducible refine gate_callee (f := 22) rfl ?_); refine goesL_ (some 48) rfl rfl Try.func22 (by kernel_rfl) rfl #[.agg #[.int .i64 t76, .int .i64 t77, .int .i64 t78, .slice Aq81 t79.length cq81], .int .i64 1] rfl (by (try simp only [List.map_toArray, List.map_cons, List.map_nil]); first | done | rfl) ?_; rw [HLN152.out]; (with_reducible refine (laws_heldCond.calls k t76 t77 t78 _ _ t150 1 t149 _ ?side1 ?side2 E157.out).mono ?_); (case side1 => exact (Kd.S_reads' HOq81.out).2.2); (case side2 => (have h1_ := (Kd.S_reads' HOq81.out).2.1; have h2_ := HLN152.out; omega)); rintro e w159 ⟨rfl, hb⟩; refine ⟨_, rfl, ?_⟩; (try clear hc153 hc154 hc155 hc156); replace HOq22 := Go.Proofs.YtlcmjdkbeckdnaaTree.S_b HOq22 hb; replace HOq31 := Go.Proofs.YtlcmjdkbeckdnaaTree.S_b HOq31 hb; replace HOq56 := Go.Proofs.YtlcmjdkbeckdnaaTree.S_b HOq56 hb; replace HOq81 := Go.Proofs.YtlcmjdkbeckdnaaTree.S_b HOq81 hb; replace HOq115 := Go.Proofs.YtlcmjdkbeckdnaaTree.S_b HOq115 hb; replace HKg1 := Go.Proofs.YtlcmjdkbeckdnaaTree.B_b HKg1 hb; replace HKg34 := Go.Proofs.YtlcmjdkbeckdnaaTree.B_b HKg34 hb; replace HKg59 := Go.Proofs.YtlcmjdkbeckdnaaTree.B_b HKg59 hb; replace HKg84 := Go.Proofs.YtlcmjdkbeckdnaaTree.B_b HKg84 hb; replace HS := Go.Proofs.YtlcmjdkbeckdnaaTree.Z_b HS hb; replace HB := Go.Proofs.YtlcmjdkbeckdnaaTree.H_b HB hb; clear hb; have hc160 : w159.cell? ⟨g1, 0, none⟩ = some (.int .i64 a0_0) := (blk_cell HKg1.out 0).trans rfl; have hc161 : w159.cell? ⟨g1, 1, none⟩ = some (.int .i64 a0_1) := (blk_cell HKg1.out 1).trans rfl; have hc162 : w159.cell? ⟨g1, 2, none⟩ = some (.int .i64 a0_2) := (blk_cell HKg1.out 2).trans rfl; have hc163 : w159.cell? ⟨g1, 3, none⟩ = some (.slice A0_3 l0_3.length c0_3) := (blk_cell HKg1.out 3).trans rfl) | ((with_reducible refine gate_callee (f := 14) rfl ?_); refine goesL_ (some 55) rfl rfl Try.func14 (by kernel_rfl) rfl #[.agg #[.int .i64 a0_0, .int .i64 a0_1, .int .i64 a0_2, .slice A0_3 l0_3.length c0_3]] rfl (by (try simp only [List.map_toArray, List.map_cons, List.map_nil]); first | done | rfl) ?_; (with_reducible refine (laws_toCond.calls k a0_0 a0_1 a0_2 _ _ l0_3 t167 t168 t169 t170 _ ?side1 ?side2 E166.out).mono ?_); (case side1 => exact Kd.C_below HR0_3.out HB.out); (case side2 => exact HC0_3.out); rintro e w171 ⟨v_0, rfl, ho0, hb⟩; obtain ⟨Aq172, cq172, rfl⟩ := Kd.S_slice ho0; refine ⟨_, rfl, ?_⟩; obtain ⟨Lq172, Uq172, HZ173, HZ174, HOq172⟩ := Go.Proofs.YtlcmjdkbeckdnaaTree.S_made ho0 HS.out hb HB.out.size; (try clear hc160 hc161 hc162 hc163); replace HOq22 := Go.Proofs.YtlcmjdkbeckdnaaTree.S_b HOq22 hb; replace HOq31 := Go.Proofs.YtlcmjdkbeckdnaaTree.S_b HOq31 hb; replace HOq56 := Go.Proofs.YtlcmjdkbeckdnaaTree.S_b HOq56 hb; replace HOq81 := Go.Proofs.YtlcmjdkbeckdnaaTree.S_b HOq81 hb; replace HOq115 := Go.Proofs.YtlcmjdkbeckdnaaTree.S_b HOq115 hb; replace HKg1 := Go.Proofs.YtlcmjdkbeckdnaaTree.B_b HKg1 hb; replace HKg34 := Go.Proofs.YtlcmjdkbeckdnaaTree.B_b HKg34 hb; replace HKg59 := Go.Proofs.YtlcmjdkbeckdnaaTree.B_b HKg59 hb; replace HKg84 := Go.Proofs.YtlcmjdkbeckdnaaTree.B_b HKg84 hb; replace HS := Go.Proofs.YtlcmjdkbeckdnaaTree.Z_b HS hb; replace HB := Go.Proofs.YtlcmjdkbeckdnaaTree.H_b HB hb; replace HS := HZ174; clear ho0; clear hb) | ((with_reducible refine gate_callee (f := 20) rfl ?_); refine goesL_ (some 56) rfl rfl Try.func20 (by kernel_rfl) rfl #[.agg #[.int .i64 t167, .int .i64 t168, .int .i64 t169, .slice Aq172 t170.length cq172]] rfl (by (try simp only [List.map_toArray, List.map_cons, List.map_nil]); first | done | rfl) ?_; (with_reducible refine (impl_CondNot.calls k t167 t168 t169 _ _ t170 t176 t177 t178 t179 _ ?side1 ?side2 E175.out).mono ?_); (case side1 => exact (Kd.S_reads' HOq172.out).2.2); (case side2 => exact (Kd.S_reads' HOq172.out).2.1); rintro e w180 ⟨v_0, rfl, ho0, hb⟩; obtain ⟨Aq181, cq181, rfl⟩ := Kd.S_slice ho0; refine ⟨_, rfl, ?_⟩; obtain ⟨Lq181, Uq181, HZ182, HZ183, HOq181⟩ := Go.Proofs.YtlcmjdkbeckdnaaTree.S_made ho0 HS.out hb HB.out.size; replace HOq22 := Go.Proofs.YtlcmjdkbeckdnaaTree.S_b HOq22 hb; replace HOq31 := Go.Proofs.YtlcmjdkbeckdnaaTree.S_b HOq31 hb; replace HOq56 := Go.Proofs.YtlcmjdkbeckdnaaTree.S_b HOq56 hb; replace HOq81 := Go.Proofs.YtlcmjdkbeckdnaaTree.S_b HOq81 hb; replace HOq115 := Go.Proofs.YtlcmjdkbeckdnaaTree.S_b HOq115 hb; replace HOq172 := Go.Proofs.YtlcmjdkbeckdnaaTree.S_b HOq172 hb; replace HKg1 := Go.Proofs.YtlcmjdkbeckdnaaTree.B_b HKg1 hb; replace HKg34 := Go.Proofs.YtlcmjdkbeckdnaaTree.B_b HKg34 hb; replace HKg59 := Go.Proofs.YtlcmjdkbeckdnaaTree.B_b HKg59 hb; replace HKg84 := Go.Proofs.YtlcmjdkbeckdnaaTree.B_b HKg84 hb; replace HS := Go.Proofs.YtlcmjdkbeckdnaaTree.Z_b HS hb; replace HB := Go.Proofs.YtlcmjdkbeckdnaaTree.H_b HB hb; replace HS := HZ183; clear ho0; clear hb) | ((with_reducible refine gate_dst (N := 10) rfl ?_); refine box_event ?hg (N := 10) ?hd (cs := #[.int .i64 0, .int .i64 0, .int .i64 0, .slice none 0 0]) (t := 29) ?hr ?_; (case hd => rfl); (case hg => rfl); (case hr => first | (go_simp; done) | (go_simp; rfl)); intro g184 hg w185 hbox hb; have HZ186 : Aside0 (Uq181 ≤ g184 ∧ w.heap.size ≤ g184) := ⟨by rw [hg]; exact ⟨HS.out, HB.out.size⟩⟩; replace HOq22 := Go.Proofs.YtlcmjdkbeckdnaaTree.S_b HOq22 hb; replace HOq31 := Go.Proofs.YtlcmjdkbeckdnaaTree.S_b HOq31 hb; replace HOq56 := Go.Proofs.YtlcmjdkbeckdnaaTree.S_b HOq56 hb; replace HOq81 := Go.Proofs.YtlcmjdkbeckdnaaTree.S_b HOq81 hb; replace HOq115 := Go.Proofs.YtlcmjdkbeckdnaaTree.S_b HOq115 hb; replace HOq172 := Go.Proofs.YtlcmjdkbeckdnaaTree.S_b HOq172 hb; replace HOq181 := Go.Proofs.YtlcmjdkbeckdnaaTree.S_b HOq181 hb; replace HKg1 := Go.Proofs.YtlcmjdkbeckdnaaTree.B_b HKg1 hb; replace HKg34 := Go.Proofs.YtlcmjdkbeckdnaaTree.B_b HKg34 hb; replace HKg59 := Go.Proofs.YtlcmjdkbeckdnaaTree.B_b HKg59 hb; replace HKg84 := Go.Proofs.YtlcmjdkbeckdnaaTree.B_b HKg84 hb; replace HS := Go.Proofs.YtlcmjdkbeckdnaaTree.Z_b HS hb; replace HB := Go.Proofs.YtlcmjdkbeckdnaaTree.H_b HB hb; have HKg184 := Aside0.mk hbox; replace HS : Aside0 (g184 + 1 ≤ w185.heap.size) := ⟨blk_lt hbox⟩; clear hg hbox hb; have hc187 : w185.cell? ⟨g184, 0, none⟩ = some (.int .i64 0) := (blk_cell HKg184.out 0).trans rfl; have hf188 := blk_frozen HKg184.out 0; have hc189 : w185.cell? ⟨g184, 1, none⟩ = some (.int .i64 0) := (blk_cell HKg184.out 1).trans rfl; have hf190 := blk_frozen HKg184.out 1; have hc191 : w185.cell? ⟨g184, 2, none⟩ = some (.int .i64 0) := (blk_cell HKg184.out 2).trans rfl; have hf192 := blk_frozen HKg184.out 2; have hc193 : w185.cell? ⟨g184, 3, none⟩ = some (.slice none 0 0) := (blk_cell HKg184.out 3).trans rfl; have hf194 := blk_frozen HKg184.out 3) | ((with_reducible refine gate_store (t := 29) (p := 10) rfl ?_); refine store_event (t := 29) (p := 10) (v := ?vo_w195) (w1 := ((((w185.setCell ⟨g184, 0, none⟩ (.int .i64 t176)).setCell ⟨g184, 1, none⟩ (.int .i64 t177)).setCell ⟨g184, 2, none⟩ (.int .i64 t178)).setCell ⟨g184, 3, none⟩ (.slice Aq181 t179.length cq181))) ?hg ?ho ?hn ?hr ?_; (case ho => rfl); (case hg => rfl); (case hn => rfl); (case hr => first | (go_simp; done) | (go_simp; rfl)); intro w195 hw; (try clear hc187 hf188 hc189 hf190 hc191 hf192 hc193 hf194); have hge_ : w.heap.size ≤ g184 := (by have := HZ3.out; have := HZ23.out; have := HZ32.out; have := HZ36.out; have := HZ57.out; have := HZ61.out; have := HZ82.out; have := HZ86.out; have := HZ116.out; have := HZ173.out; have := HZ182.out; have := HZ186.out; omega); have hk : Kept w185 w195 (fun x => x = g184) := (by rw [hw]; exact Go.Proofs.YtlcmjdkbeckdnaaTree.kept_cell (Go.Proofs.YtlcmjdkbeckdnaaTree.kept_cell (Go.Proofs.YtlcmjdkbeckdnaaTree.kept_cell (Go.Proofs.YtlcmjdkbeckdnaaTree.kept_cell (Kept.refl _ _) 0 _) 1 _) 2 _) 3 _); replace HB : Aside0 (Below w.heap.size w w195) := ⟨by rw [hw]; exact below_set (below_set (below_set (below_set (HB.out) hge_) hge_) hge_) hge_⟩; replace HKg184 : Aside0 (w195.heap[g184]? = some (.cells #[.int .i64 t176, .int .i64 t177, .int .i64 t178, .slice Aq181 t179.length cq181] 29 (0, 0))) := ⟨by rw [hw]; exact blk_put (cs := #[.int .i64 t176, .int .i64 t177, .int .i64 t178, .slice none 0 0]) (blk_put (cs := #[.int .i64 t176, .int .i64 t177, .int .i64 0, .slice none 0 0]) (blk_put (cs := #[.int .i64 t176, .int .i64 0, .int .i64 0, .slice none 0 0]) (blk_put (cs := #[.int .i64 0, .int .i64 0, .int .i64 0, .slice none 0 0]) (HKg184.out) 0 _ rfl) 1 _ rfl) 2 _ rfl) 3 _ rfl⟩; replace HOq22 := Go.Proofs.YtlcmjdkbeckdnaaTree.S_k HOq22 hk (fun x h1 h2 => (by have := HZ3.out; have := HZ23.out; have := HZ32.out; have := HZ36.out; have := HZ57.out; have := HZ61.out; have := HZ82.out; have := HZ86.out; have := HZ116.out; have := HZ173.out; have := HZ182.out; have := HZ186.out; have h3_ : Lq22 ≤ x ∧ x < Uq22 := h1; have h4_ : x = g184 := h2; omega)); replace HOq31 := Go.Proofs.YtlcmjdkbeckdnaaTree.S_k HOq31 hk (fun x h1 h2 => (by have := HZ3.out; have := HZ23.out; have := HZ32.out; have := HZ36.out; have := HZ57.out; have := HZ61.out; have := HZ82.out; have := HZ86.out; have := HZ116.out; have := HZ173.out; have := HZ182.out; have := HZ186.out; have h3_ : Lq31 ≤ x ∧ x < Uq31 := h1; have h4_ : x = g184 := h2; omega)); replace HOq56 := Go.Proofs.YtlcmjdkbeckdnaaTree.S_k HOq56 hk (fun x h1 h2 => (by have := HZ3.out; have := HZ23.out; have := HZ32.out; have := HZ36.out; have := HZ57.out; have := HZ61.out; have := HZ82.out; have := HZ86.out; have := HZ116.out; have := HZ173.out; have := HZ182.out; have := HZ186.out; have h3_ : Lq56 ≤ x ∧ x < Uq56 := h1; have h4_ : x = g184 := h2; omega)); replace HOq81 := Go.Proofs.YtlcmjdkbeckdnaaTree.S_k HOq81 hk (fun x h1 h2 => (by have := HZ3.out; have := HZ23.out; have := HZ32.out; have := HZ36.out; have := HZ57.out; have := HZ61.out; have := HZ82.out; have := HZ86.out; have := HZ116.out; have := HZ173.out; have := HZ182.out; have := HZ186.out; have h3_ : Lq81 ≤ x ∧ x < Uq81 := h1; have h4_ : x = g184 := h2; omega)); replace HOq115 := Go.Proofs.YtlcmjdkbeckdnaaTree.S_k HOq115 hk (fun x h1 h2 => (by have := HZ3.out; have := HZ23.out; have := HZ32.out; have := HZ36.out; have := HZ57.out; have := HZ61.out; have := HZ82.out; have := HZ86.out; have := HZ116.out; have := HZ173.out; have := HZ182.out; have := HZ186.out; have h3_ : Lq115 ≤ x ∧ x < Uq115 := h1; have h4_ : x = g184 := h2; omega)); replace HOq172 := Go.Proofs.YtlcmjdkbeckdnaaTree.S_k HOq172 hk (fun x h1 h2 => (by have := HZ3.out; have := HZ23.out; have := HZ32.out; have := HZ36.out; have := HZ57.out; have := HZ61.out; have := HZ82.out; have := HZ86.out; have := HZ116.out; have := HZ173.out; have := HZ182.out; have := HZ186.out; have h3_ : Lq172 ≤ x ∧ x < Uq172 := h1; have h4_ : x = g184 := h2; omega)); replace HOq181 := Go.Proofs.YtlcmjdkbeckdnaaTree.S_k HOq181 hk (fun x h1 h2 => (by have := HZ3.out; have := HZ23.out; have := HZ32.out; have := HZ36.out; have := HZ57.out; have := HZ61.out; have := HZ82.out; have := HZ86.out; have := HZ116.out; have := HZ173.out; have := HZ182.out; have := HZ186.out; have h3_ : Lq181 ≤ x ∧ x < Uq181 := h1; have h4_ : x = g184 := h2; omega)); replace HKg1 := Go.Proofs.YtlcmjdkbeckdnaaTree.B_k HKg1 hk (fun h2 => (by have := HZ3.out; have := HZ23.out; have := HZ32.out; have := HZ36.out; have := HZ57.out; have := HZ61.out; have := HZ82.out; have := HZ86.out; have := HZ116.out; have := HZ173.out; have := HZ182.out; have := HZ186.out; have h4_ : g1 = g184 := h2; omega)); replace HKg34 := Go.Proofs.YtlcmjdkbeckdnaaTree.B_k HKg34 hk (fun h2 => (by have := HZ3.out; have := HZ23.out; have := HZ32.out; have := HZ36.out; have := HZ57.out; have := HZ61.out; have := HZ82.out; have := HZ86.out; have := HZ116.out; have := HZ173.out; have := HZ182.out; have := HZ186.out; have h4_ : g34 = g184 := h2; omega)); replace HKg59 := Go.Proofs.YtlcmjdkbeckdnaaTree.B_k HKg59 hk (fun h2 => (by have := HZ3.out; have := HZ23.out; have := HZ32.out; have := HZ36.out; have := HZ57.out; have := HZ61.out; have := HZ82.out; have := HZ86.out; have := HZ116.out; have := HZ173.out; have := HZ182.out; have := HZ186.out; have h4_ : g59 = g184 := h2; omega)); replace HKg84 := Go.Proofs.YtlcmjdkbeckdnaaTree.B_k HKg84 hk (fun h2 => (by have := HZ3.out; have := HZ23.out; have := HZ32.out; have := HZ36.out; have := HZ57.out; have := HZ61.out; have := HZ82.out; have := HZ86.out; have := HZ116.out; have := HZ173.out; have := HZ182.out; have := HZ186.out; have h4_ : g84 = g184 := h2; omega)); replace HS := Go.Proofs.YtlcmjdkbeckdnaaTree.Z_k HS hk; clear hw hk hge_; have hc196 : w195.cell? ⟨g184, 0, none⟩ = some (.int .i64 t176) := (blk_cell HKg184.out 0).trans rfl; have hc197 : w195.cell? ⟨g184, 1, none⟩ = some (.int .i64 t177) := (blk_cell HKg184.out 1).trans rfl; have hc198 : w195.cell? ⟨g184, 2, none⟩ = some (.int .i64 t178) := (blk_cell HKg184.out 2).trans rfl; have hc199 : w195.cell? ⟨g184, 3, none⟩ = some (.slice Aq181 t179.length cq181) := (blk_cell HKg184.out 3).trans rfl; have hc200 : w195.cell? ⟨g34, 0, none⟩ = some (.int .i64 t26) := (blk_cell HKg34.out 0).trans rfl; have hc201 : w195.cell? ⟨g34, 1, none⟩ = some (.int .i64 t27) := (blk_cell HKg34.out 1).trans rfl; have hc202 : w195.cell? ⟨g34, 2, none⟩ = some (.int .i64 t28) := (blk_cell HKg34.out 2).trans rfl; have hc203 : w195.cell? ⟨g34, 3, none⟩ = some (.slice Aq31 t29.length cq31) := (blk_cell HKg34.out 3).trans rfl) | ((with_reducible refine gate_callee (f := 16) rfl ?_); refine goesL_ (some 59) rfl rfl Try.func16 (by kernel_rfl) rfl #[.agg #[.int .i64 t176, .int .i64 t177, .int .i64 t178, .slice Aq181 t179.length cq181], .agg #[.int .i64 t26, .int .i64 t27, .int .i64 t28, .slice Aq31 t29.length cq31]] rfl (by (try simp only [List.map_toArray, List.map_cons, List.map_nil]); first | done | rfl) ?_; (with_reducible refine (laws_eqCond.calls k t176 t177 t178 _ _ t179 t26 t27 t28 _ _ t29 true _ ?side1 ?side2 ?side3 ?side4 E204.out).mono ?_); (case side1 => exact (Kd.S_reads' HOq181.out).2.2); (case side2 => exact (Kd.S_reads' HOq181.out).2.1); (case side3 => exact (Kd.S_reads' HOq31.out).2.2); (case side4 => exact (Kd.S_reads' HOq31.out).2.1); rintro e w206 ⟨rfl, hb⟩; refine ⟨_, rfl, ?_⟩; (try clear hc196 hc197 hc198 hc199 hc200 hc201 hc202 hc203); replace HOq22 := Go.Proofs.YtlcmjdkbeckdnaaTree.S_b HOq22 hb; replace HOq31 := Go.Proofs.YtlcmjdkbeckdnaaTree.S_b HOq31 hb; replace HOq56 := Go.Proofs.YtlcmjdkbeckdnaaTree.S_b HOq56 hb; replace HOq81 := Go.Proofs.YtlcmjdkbeckdnaaTree.S_b HOq81 hb; replace HOq115 := Go.Proofs.YtlcmjdkbeckdnaaTree.S_b HOq115 hb; replace HOq172 := Go.Proofs.YtlcmjdkbeckdnaaTree.S_b HOq172 hb; replace HOq181 := Go.Proofs.YtlcmjdkbeckdnaaTree.S_b HOq181 hb; replace HKg1 := Go.Proofs.YtlcmjdkbeckdnaaTree.B_b HKg1 hb; replace HKg34 := Go.Proofs.YtlcmjdkbeckdnaaTree.B_b HKg34 hb; replace HKg59 := Go.Proofs.YtlcmjdkbeckdnaaTree.B_b HKg59 hb; replace HKg84 := Go.Proofs.YtlcmjdkbeckdnaaTree.B_b HKg84 hb; replace HKg184 := Go.Proofs.YtlcmjdkbeckdnaaTree.B_b HKg184 hb; replace HS := Go.Proofs.YtlcmjdkbeckdnaaTree.Z_b HS hb; replace HB := Go.Proofs.YtlcmjdkbeckdnaaTree.H_b HB hb; clear hb; have hc208 : w206.cell? ⟨g84, 0, none⟩ = some (.int .i64 t76) := (blk_cell HKg84.out 0).trans rfl; have hc209 : w206.cell? ⟨g84, 1, none⟩ = some (.int .i64 t77) := (blk_cell HKg84.out 1).trans rfl; have hc210 : w206.cell? ⟨g84, 2, none⟩ = some (.int .i64 t78) := (blk_cell HKg84.out 2).trans rfl; have hc211 : w206.cell? ⟨g84, 3, none⟩ = some (.slice Aq81 t79.length cq81) := (blk_cell HKg84.out 3).trans rfl) | ((with_reducible refine gate_callee (f := 22) rfl ?_); refine goesL_ (some 63) rfl rfl Try.func22 (by kernel_rfl) rfl #[.agg #[.int .i64 t76, .int .i64 t77, .int .i64 t78, .slice Aq81 t79.length cq81], .int .i64 1] rfl (by (try simp only [List.map_toArray, List.map_cons, List.map_nil]); first | done | rfl) ?_; rw [HLN152.out]; (with_reducible refine (laws_heldCond.calls k t76 t77 t78 _ _ t150 1 t149 _ ?side1 ?side2 E212.out).mono ?_); (case side1 => exact (Kd.S_reads' HOq81.out).2.2); (case side2 => (have h1_ := (Kd.S_reads' HOq81.out).2.1; have h2_ := HLN152.out; omega)); rintro e w214 ⟨rfl, hb⟩; refine ⟨_, rfl, ?_⟩; (try clear hc208 hc209 hc210 hc211); replace HOq22 := Go.Proofs.YtlcmjdkbeckdnaaTree.S_b HOq22 hb; replace HOq31 := Go.Proofs.YtlcmjdkbeckdnaaTree.S_b HOq31 hb; replace HOq56 := Go.Proofs.YtlcmjdkbeckdnaaTree.S_b HOq56 hb; replace HOq81 := Go.Proofs.YtlcmjdkbeckdnaaTree.S_b HOq81 hb; replace HOq115 := Go.Proofs.YtlcmjdkbeckdnaaTree.S_b HOq115 hb; replace HOq172 := Go.Proofs.YtlcmjdkbeckdnaaTree.S_b HOq172 hb; replace HOq181 := Go.Proofs.YtlcmjdkbeckdnaaTree.S_b HOq181 hb; replace HKg1 := Go.Proofs.YtlcmjdkbeckdnaaTree.B_b HKg1 hb; replace HKg34 := Go.Proofs.YtlcmjdkbeckdnaaTree.B_b HKg34 hb; replace HKg59 := Go.Proofs.YtlcmjdkbeckdnaaTree.B_b HKg59 hb; replace HKg84 := Go.Proofs.YtlcmjdkbeckdnaaTree.B_b HKg84 hb; replace HKg184 := Go.Proofs.YtlcmjdkbeckdnaaTree.B_b HKg184 hb; replace HS := Go.Proofs.YtlcmjdkbeckdnaaTree.Z_b HS hb; replace HB := Go.Proofs.YtlcmjdkbeckdnaaTree.H_b HB hb; clear hb))
  go_ret
  exact ⟨rfl, HB.out⟩
inductive wf24 : S24 → Prop
  | mk (f0 : Int) (f1 : Int) (f2 : Int) (f3 : List (S24)) : ((Lit.int .i64 f0).wf = true) → ((Lit.int .i64 f1).wf = true) → ((Lit.int .i64 f2).wf = true) → (f3.length ≤ maxLen) → (∀ y ∈ f3, wf24 y) → wf24 ⟨f0, f1, f2, f3⟩
/-- THE ONE PURE STATEMENT of laws_FnExactCondNot. -/
def laws_FnExactCondNot.Pure : Prop := ∀ (a0_0 : Int) (a0_1 : Int) (a0_2 : Int) (l0_3 : List (S24)), ((Lit.int .i64 a0_0).wf = true) → ((Lit.int .i64 a0_1).wf = true) → ((Lit.int .i64 a0_2).wf = true) → ((l0_3.length ≤ maxLen ∧ ∀ y4 ∈ l0_3, wf24 y4)) → ∃ k, laws_FnExactCondNot.f k a0_0 a0_1 a0_2 l0_3 = some true

end Go.Proofs.Ytlcmjdkbeckdnaa.XFnExactCondNot
