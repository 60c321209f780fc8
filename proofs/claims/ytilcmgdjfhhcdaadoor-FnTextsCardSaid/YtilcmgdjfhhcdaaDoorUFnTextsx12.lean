/- Written by this session's own program (wip/xprint, which runs over the kit's print): what the functions that the law reaches come to, each proved; and the law's row. Conditions: none. -/
import Derived.Test.YtilcmgdjfhhcdaaDoorUFnTextsSq
import Derived.Test.YtilcmgdjfhhcdaaDoorUFnTextsx0
import Derived.Test.YtilcmgdjfhhcdaaDoorUFnTextsx6
import Derived.Test.YtilcmgdjfhhcdaaDoorUFnTextsx7
import Derived.Test.YtilcmgdjfhhcdaaDoorUFnTextsx9
import Derived.Test.YtilcmgdjfhhcdaaDoorUFnTextsx10
import Derived.Test.YtilcmgdjfhhcdaaDoorUFnTextsx11
namespace Go.Proofs.YtilcmgdjfhhcdaaDoor.XFnTexts
open Go.RowKit Go.Proofs.YtilcmgdjfhhcdaaDoorW.PrintWords Go.Proofs.YtilcmgdjfhhcdaaDoorW.PrintLast Go.Proofs.YtilcmgdjfhhcdaaDoorW.PrintMore Go.Proofs.YtilcmgdjfhhcdaaDoorSq
attribute [local go_sem] max2_int min2_int max_two min_two max_three min_three max_four min_four   -- for this text's walks alone
set_option linter.unusedVariables false
set_option linter.unusedSimpArgs false

theorem kbx {w W : World} {g b : Nat} {v : Value} (h : w.cell? ⟨b, 0, none⟩ = some v ∧ b ≠ g) (hk : KeepBut w W g none) : W.cell? ⟨b, 0, none⟩ = some v := by
  have hlt : b < w.heap.size := World.block_lt_of_cell? w ⟨b, 0, none⟩ h.1
  have hb := hk.2 b hlt h.2 (by simp)
  have hc := h.1
  unfold World.cell? at hc ⊢
  rw [hb]
  exact hc
theorem kbn {b n x : Nat} (h : b < n) (hx : n ≤ x) : b ≠ x := by omega
theorem condUp {Q : Value → Prop} {w0 wA w w' : World} {g : Nat} {s : ByteArray} {bad : Bool} {l : List S27} (hb : Below wA.heap.size wA w) (h : ∃ v_ : Value, Q v_ ∧ Kd.N k27 27 w' w.heap.size (fun k_ => (w.heap.size ≤ k_)) v_ l ∧ IsS42 w0 w' g s bad ∧ Below w0.heap.size w0 w' ∧ KeepBut w w' g none) :
    ∃ v_ : Value, Q v_ ∧ Kd.N k27 27 w' wA.heap.size (fun k_ => (wA.heap.size ≤ k_)) v_ l ∧ IsS42 w0 w' g s bad ∧ Below w0.heap.size w0 w' ∧ KeepBut wA w' g none := by
  obtain ⟨v, h1, h2, h3, h4, h5⟩ := h
  exact ⟨v, h1, Kd.N_lower (Kd.N_mono h2 (fun k_ hk_ => Nat.le_trans hb.size hk_)) hb.size, h3, h4, KeepBut.trans (KeepBut.of_below hb g none) h5 (.inl rfl)⟩
/-- The search, with what the walk holds of the world. -/
theorem condFind.run {w0 w W : World} {g b : Nat} (s : ByteArray) (bad : Bool) (r : Int) (hX : w.cell? ⟨b, 0, none⟩ = some (.pointer (some ⟨g, 0, none⟩)) ∧ b ≠ g) (hk : KeepBut w W g none) (hI : IsS42 w0 W g s bad) (hB : Below w0.heap.size w0 W) (hT : Tabs w0) (h : strconv_isPowerOfTwo.f s = some r) :
    Calls Tryd.prog 32 #[.slice (some ⟨0, 1, none⟩) 7 9, .func (.func 33) #[] #[.pointer (some ⟨b, 0, none⟩)]] W fun e w' => e = .returned (.int .i64 r) ∧ Below W.heap.size W w' := by
  obtain rfl := Option.some.inj h
  exact condFind.indexFunc s b g W (hT.below hB).cell (kbx hX hk) (cellS42_0 hI.1)
/-! ### impl_condReader_cond: function 17 -/
/-! ### impl_condReader_both: function 31 -/
mutual
def impl_condReader_cond.j0 : Nat → Bool → ByteArray → Bool → Option (Int × Int × Int × (List (S27)) × ByteArray × Bool)
 | 0, _, _, _ => none
 | k + 1, x15, x1000, x1001 => if x15 = true then (if x1001 = true then (some (0, 0, 0, ([] : List (S27)), x1000, x1001)) else ((impl_condReader_both.f k x1000 x1001).bind fun bt479 => (some (bt479.1, bt479.2.1, bt479.2.2.1, bt479.2.2.2.1, bt479.2.2.2.2.1, bt479.2.2.2.2.2)))) else ((strconv_isPowerOfTwo.f x1000).bind fun t487 => (if (wrap64 (t487 + 1)) = 0 then (some (0, 0, 0, ([] : List (S27)), x1000, true)) else ((strconv_small.f (wrap64 (t487 + 1))).bind fun t488 => ((impl_condReader_need.f x1000 x1001 t488).bind fun bt489 => (if (wrap64 (t487 + 1)) = 7 then ((impl_condReader_need.f bt489.1 bt489.2 (⟨#[32]⟩ : ByteArray)).bind fun bt492 => ((impl_condReader_cond.f k bt492.1 bt492.2).bind fun bt494 => (impl_condReader_cond.j1 k (wrap64 (t487 + 1)) bt494.2.2.2.2.1 bt494.2.2.2.2.2 (wrap64 (t487 + 1)) 0 0 (([(⟨bt494.1, bt494.2.1, bt494.2.2.1, bt494.2.2.2.1⟩ : S27)] : List (S27)))))) else (impl_condReader_cond.j1 k (wrap64 (t487 + 1)) bt489.1 bt489.2 (wrap64 (t487 + 1)) 0 0 ([] : List (S27))))))))
def impl_condReader_cond.j1 : Nat → Int → ByteArray → Bool → Int → Int → Int → List (S27) → Option (Int × Int × Int × (List (S27)) × ByteArray × Bool)
 | 0, _, _, _, _, _, _, _ => none
 | k + 1, x3, x1000, x1001, x492000, x492001, x492002, x492003 => if x3 = 2 then (impl_condReader_cond.j2 k x3 true x1000 x1001 x492000 x492001 x492002 x492003) else (if x3 = 4 then (impl_condReader_cond.j2 k x3 true x1000 x1001 x492000 x492001 x492002 x492003) else (if x3 = 5 then (impl_condReader_cond.j2 k x3 true x1000 x1001 x492000 x492001 x492002 x492003) else (impl_condReader_cond.j2 k x3 (x3 == 6) x1000 x1001 x492000 x492001 x492002 x492003)))
def impl_condReader_cond.j2 : Nat → Int → Bool → ByteArray → Bool → Int → Int → Int → List (S27) → Option (Int × Int × Int × (List (S27)) × ByteArray × Bool)
 | 0, _, _, _, _, _, _, _, _ => none
 | k + 1, x3, x61, x1000, x1001, x492000, x492001, x492002, x492003 => if x61 = true then ((impl_condReader_number.f k x1000 x1001).bind fun bt505 => (impl_condReader_cond.j3 k x3 bt505.2.1 bt505.2.2 x492000 bt505.1 x492002 x492003)) else (impl_condReader_cond.j3 k x3 x1000 x1001 x492000 x492001 x492002 x492003)
def impl_condReader_cond.j3 : Nat → Int → ByteArray → Bool → Int → Int → Int → List (S27) → Option (Int × Int × Int × (List (S27)) × ByteArray × Bool)
 | 0, _, _, _, _, _, _, _ => none
 | k + 1, x3, x1000, x1001, x492000, x492001, x492002, x492003 => (impl_InRange.f x3 2 5).bind fun t508 => (if t508 = true then ((impl_condReader_number.f k x1000 x1001).bind fun bt509 => (some (x492000, x492001, bt509.1, x492003, bt509.2.1, bt509.2.2))) else (some (x492000, x492001, x492002, x492003, x1000, x1001)))
def impl_condReader_cond.f : Nat → ByteArray → Bool → Option (Int × Int × Int × (List (S27)) × ByteArray × Bool)
 | 0, _, _ => none
 | k + 1, s0_0, s0_1 => if s0_1 = true then (impl_condReader_cond.j0 k true s0_0 s0_1) else ((strings_HasPrefix.f s0_0 (⟨#[40]⟩ : ByteArray)).bind fun t478 => (impl_condReader_cond.j0 k t478 s0_0 s0_1))
def impl_condReader_both.j0 : Nat → Int → ByteArray → Bool → Int → Int → Int → List (S27) → Option (Int × Int × Int × (List (S27)) × ByteArray × Bool)
 | 0, _, _, _, _, _, _, _ => none
 | k + 1, x4, x1000, x1001, x451000, x451001, x451002, x451003 => (strconv_small.f x4).bind fun t452 => (if 1 + t452.size ≤ 9223372036854775807 then (if ((⟨#[32]⟩ : ByteArray) ++ t452).size + 1 ≤ 9223372036854775807 then ((impl_condReader_need.f x1000 x1001 (((⟨#[32]⟩ : ByteArray) ++ t452) ++ (⟨#[32]⟩ : ByteArray))).bind fun bt453 => ((impl_condReader_cond.f k bt453.1 bt453.2).bind fun bt455 => ((impl_condReader_need.f bt455.2.2.2.2.1 bt455.2.2.2.2.2 (⟨#[41]⟩ : ByteArray)).bind fun bt464 => (some (x4, 0, 0, (([(⟨x451000, x451001, x451002, x451003⟩ : S27), (⟨bt455.1, bt455.2.1, bt455.2.2.1, bt455.2.2.2.1⟩ : S27)] : List (S27))), bt464.1, bt464.2))))) else (none)) else (none))
def impl_condReader_both.f : Nat → ByteArray → Bool → Option (Int × Int × Int × (List (S27)) × ByteArray × Bool)
 | 0, _, _ => none
 | k + 1, s0_0, s0_1 => (impl_condReader_need.f s0_0 s0_1 (⟨#[40]⟩ : ByteArray)).bind fun bt440 => ((impl_condReader_cond.f k bt440.1 bt440.2).bind fun bt442 => ((strings_HasPrefix.f bt442.2.2.2.2.1 (⟨#[32, 97, 110, 100, 32]⟩ : ByteArray)).bind fun t451 => (if t451 = true then (impl_condReader_both.j0 k 8 bt442.2.2.2.2.1 bt442.2.2.2.2.2 bt442.1 bt442.2.1 bt442.2.2.1 bt442.2.2.2.1) else (impl_condReader_both.j0 k 9 bt442.2.2.2.2.1 bt442.2.2.2.2.2 bt442.1 bt442.2.1 bt442.2.2.1 bt442.2.2.2.1))))
end
theorem z31_0 {Q : Prop} (g : Q := by repeat (first | (with_reducible first | exact HK.out | apply KeepBut.set_ | apply keep_drewN | apply keep_drew | apply keep_alloc | refine keep_far ?_ GW477.out _ | refine keep_far ?_ GW491.out _) | exact HK.out)) : Q := g
theorem z31_1 {Q : Prop} (g : Q := by repeat (first | (with_reducible first | exact HK.out | apply KeepBut.set_ | apply keep_drewN | apply keep_drew | apply keep_alloc | refine keep_far ?_ GW477.out _) | exact HK.out)) : Q := g
theorem z31_2 {Q : Prop} (g : Q := by repeat (first | (with_reducible first | exact HK.out | apply KeepBut.set_ | apply keep_drewN | apply keep_drew | apply keep_alloc | refine keep_far ?_ GW439.out _ | refine keep_far ?_ GW450.out _) | exact HK.out)) : Q := g
theorem z31_3 {Q : Prop} (g : Q := by repeat (first | (with_reducible first | exact HK.out | apply KeepBut.set_ | apply keep_drewN | apply keep_drew | apply keep_alloc | refine keep_far ?_ GW439.out _) | exact HK.out)) : Q := g
theorem z31_4 {Q : Prop} (g : Q := by repeat (first | (with_reducible first | exact HK.out | apply KeepBut.set_ | apply keep_drewN | apply keep_drew | apply keep_alloc | refine keep_far ?_ GW439.out _ | refine keep_far ?_ GW450.out _ | refine keep_far ?_ GW463.out _) | exact HK.out)) : Q := g
theorem z31_5 {Q : Prop} (g : Q := by (with_reducible repeat (first | apply Kd.N_alloc | apply Kd.N_drewN | apply Kd.N_drew)); exact HO_492003.out) : Q := g
theorem z31_6 {Q : Prop} (g : Q := by (with_reducible repeat (first | apply Kd.N_alloc | apply Kd.N_drewN | apply Kd.N_drew)); exact HO_451003.out) : Q := g
set_option maxHeartbeats 8000000 in
set_option maxRecDepth 100000 in
theorem impl_condReader_cond_impl_condReader_both.both (k : Nat) :
  (∀ (g : Nat) (s0_0 : ByteArray) (s0_1 : Bool) (r1 : Int) (r2 : Int) (r3 : Int) (r4 : List (S27)) (r5 : ByteArray) (r6 : Bool) (w0 w : World) (hI : IsS42 w0 w g s0_0 s0_1) (hB : Below w0.heap.size w0 w) (h : impl_condReader_cond.f k s0_0 s0_1 = some (r1, r2, r3, r4, r5, r6)) (hT : Tabs w0),
  Calls Tryd.prog 17 #[.pointer (some ⟨g, 0, none⟩)] w fun e w' => ∃ v3_ : Value, e = .returned (.agg #[.int .i64 r1, .int .i64 r2, .int .i64 r3, v3_]) ∧ Kd.N k27 27 w' w.heap.size (fun k_ => (w.heap.size ≤ k_)) v3_ r4 ∧ IsS42 w0 w' g r5 r6 ∧ Below w0.heap.size w0 w' ∧ KeepBut w w' g none) ∧
  (∀ (g : Nat) (s0_0 : ByteArray) (s0_1 : Bool) (r1 : Int) (r2 : Int) (r3 : Int) (r4 : List (S27)) (r5 : ByteArray) (r6 : Bool) (w0 w : World) (hI : IsS42 w0 w g s0_0 s0_1) (hB : Below w0.heap.size w0 w) (h : impl_condReader_both.f k s0_0 s0_1 = some (r1, r2, r3, r4, r5, r6)) (hT : Tabs w0),
  Calls Tryd.prog 31 #[.pointer (some ⟨g, 0, none⟩)] w fun e w' => ∃ v3_ : Value, e = .returned (.agg #[.int .i64 r1, .int .i64 r2, .int .i64 r3, v3_]) ∧ Kd.N k27 27 w' w.heap.size (fun k_ => (w.heap.size ≤ k_)) v3_ r4 ∧ IsS42 w0 w' g r5 r6 ∧ Below w0.heap.size w0 w' ∧ KeepBut w w' g none) := by
 induction k using Nat.strongRecOn with
 | _ k ihAll =>
 have ih17 := fun (m : Nat) (hm : m < k) => (ihAll m hm).1
 have ih31 := fun (m : Nat) (hm : m < k) => (ihAll m hm).2
 clear ihAll
 refine ⟨?_, ?_⟩
 ·intro g s0_0 s0_1 r1 r2 r3 r4 r5 r6 w0 wA hIA hBA h hT
  cases k with
  | zero => exact absurd h (by simp [impl_condReader_cond.f])
  | succ k =>
  simp only [impl_condReader_cond.f] at h
  have hu27 := Tryd.underlying27
  have HTab := Aside0.mk hT
  clear hT
  have H : (if s0_1 = true then (impl_condReader_cond.j0 k true s0_0 s0_1) else ((strings_HasPrefix.f s0_0 (⟨#[40]⟩ : ByteArray)).bind fun t478 => (impl_condReader_cond.j0 k t478 s0_0 s0_1))) = some (r1, r2, r3, r4, r5, r6) := h
  clear h
  have HC2 := Aside0.mk H
  clear H
  go_enter Tryd.func17, Tryd.ntmps17
  go_upto_region 1 with (first | ((with_reducible refine gate_dst (N := 1) rfl ?_); refine bx (N := 1) (cs := #[.pointer (some ⟨g, 0, none⟩)]) (t := 40) ?_; intro gbX hg w hbox hb; have HA_ := Aside0.mk hb; have HXl_ := Aside0.mk (blk_lt hbox : gbX < w.heap.size); have HX_ := Aside0.mk (show w.cell? ⟨gbX, 0, none⟩ = some (.pointer (some ⟨g, 0, none⟩)) ∧ gbX ≠ g from ⟨(blk_cell hbox 0).trans rfl, by rw [hg]; exact Nat.ne_of_gt (IsS42.lt hIA)⟩); have HI0 := Aside0.mk (IsS42.below hIA hb); have HK := Aside0.mk (KeepBut.refl w g none); have HB := Aside0.mk (below_step hBA hb); have HL := Aside0.mk HB.out.size; have HW0 := Aside0.mk HB.out.size; clear hb hbox hg hIA hBA; have hbx2_ := kbx HX_.out HK.out; (try have hnx2_477 := kbn HXl_.out GW477.out); (try have hny2_477 := (kbn HXl_.out GW477.out).symm); (try have hnx2_491 := kbn HXl_.out GW491.out); (try have hny2_491 := (kbn HXl_.out GW491.out).symm)) | ((with_reducible refine gate_dst (N := 2) rfl ?_); refine bx (N := 2) (cs := #[.int .i64 0, .int .i64 0, .int .i64 0, .slice none 0 0]) (t := 27) ?_; intro gb477 hg w3 hbox hb; replace HB := Aside0.mk (below_step sqj hb); have BK477 := Aside0.mk (hbox); have GW477 := Aside0.mk ((by rw [hg]; exact (keep_size (w := w) (g := g) (row := none) sqp) : w.heap.size ≤ gb477)); have GE477 := Aside0.mk ((Nat.le_trans HW0.out (by rw [hg]; exact (keep_size (w := w) (g := g) (row := none) sqp) : w.heap.size ≤ gb477) : w0.heap.size ≤ gb477)); replace HK := Aside0.mk (KeepBut.trans sqp (KeepBut.of_below hb g none) (.inl rfl)); have NB0_477 := Aside0.mk ((by rw [hg]; exact Nat.ne_of_lt (IsS42.lt (show IsS42 w0 _ g s0_0 s0_1 from sqi)) : g ≠ gb477)); have NB477_0 := Aside0.mk ((by rw [hg]; exact Nat.ne_of_gt (IsS42.lt (show IsS42 w0 _ g s0_0 s0_1 from sqi)) : gb477 ≠ g)); replace HI0 := Aside0.mk (IsS42.below sqi hb); clear hb hbox hg; have hbx3_ := kbx HX_.out HK.out; (try have hnx3_477 := kbn HXl_.out GW477.out); (try have hny3_477 := (kbn HXl_.out GW477.out).symm); (try have hnx3_491 := kbn HXl_.out GW491.out); (try have hny3_491 := (kbn HXl_.out GW491.out).symm)))
  (try simp only [Act.put, List.setIfInBounds_toArray, List.set_cons_zero, List.set_cons_succ])
  go_cut [15] (fun v15 wc => ∃ (kq : Nat) (x15_1 : Bool), v15 = .bool x15_1 ∧ Aside0 (impl_condReader_cond.j0 kq x15_1 s0_0 s0_1 = some (r1, r2, r3, r4, r5, r6)) ∧ Aside0 (kq ≤ k) ∧ Aside0 (wc.heap[gb477]? = some (.cells #[.int .i64 0, .int .i64 0, .int .i64 0, (.slice none 0 0)] 27 (0, 0))) ∧ Aside0 (IsS42 w0 wc g s0_0 s0_1) ∧ Aside0 (KeepBut w wc g none) ∧ Aside0 (Below w0.heap.size w0 wc))
  case first =>
   have H := HC2.out
   clear HC2
   by_cases c4 : s0_1 = true
   ·subst c4
    replace H := iT H
    have H' := Aside0.mk H
    clear H
    obtain ⟨HGz5, hgz5⟩ := HI0.out
    have hcz5_0 := cellS42_0 HGz5
    have hcz5_1 := cellS42_1 HGz5
    have hfz5_0 := blk_frozen HGz5 0
    have hfz5_1 := blk_frozen HGz5 1
    clear HGz5 hgz5
    have hbx4_ := kbx HX_.out HK.out
    (try have hnx4_477 := kbn HXl_.out GW477.out)
    (try have hny4_477 := (kbn HXl_.out GW477.out).symm)
    (try have hnx4_491 := kbn HXl_.out GW491.out)
    (try have hny4_491 := (kbn HXl_.out GW491.out).symm)
    go_wp2
    go_meet
    case rel => exact ⟨_, (true), sqr, H', ⟨sqo⟩, ⟨sqb BK477.out⟩, ⟨sqi⟩, ⟨by repeat (first | (with_reducible first | exact HK.out | apply KeepBut.set_ | apply keep_drewN | apply keep_drew | apply keep_alloc | refine keep_far ?_ GW477.out _) | exact HK.out)⟩, ⟨sqj⟩⟩
   ·replace c4 := Bool.eq_false_iff.mpr c4
    subst c4
    replace H := iF H
    obtain ⟨t478, A6, H⟩ := bA H
    have H' := Aside0.mk H
    clear H
    obtain ⟨HGz7, hgz7⟩ := HI0.out
    have hcz7_0 := cellS42_0 HGz7
    have hcz7_1 := cellS42_1 HGz7
    have hfz7_0 := blk_frozen HGz7 0
    have hfz7_1 := blk_frozen HGz7 1
    clear HGz7 hgz7
    have hbx5_ := kbx HX_.out HK.out
    (try have hnx5_477 := kbn HXl_.out GW477.out)
    (try have hny5_477 := (kbn HXl_.out GW477.out).symm)
    (try have hnx5_491 := kbn HXl_.out GW491.out)
    (try have hny5_491 := (kbn HXl_.out GW491.out).symm)
    go_wp2_with (first | (go_at_call 30; (with_reducible refine (strings_HasPrefix.calls s0_0 (⟨#[40]⟩ : ByteArray) t478 _ A6.out).mono ?_); rintro e w' ⟨rfl, ⟨nd, rfl⟩⟩))
    go_meet
    case rel => exact ⟨_, (t478), sqr, H', ⟨sqo⟩, ⟨sqb BK477.out⟩, ⟨sqi⟩, ⟨by repeat (first | (with_reducible first | exact HK.out | apply KeepBut.set_ | apply keep_drewN | apply keep_drew | apply keep_alloc | refine keep_far ?_ GW477.out _) | exact HK.out)⟩, ⟨sqj⟩⟩
  case rest =>
   clear HC2; try clear c1; try clear p2; try clear c4; try clear hcz5_0; try clear hcz5_1; try clear hcz7_0; try clear hcz7_1; try clear hfz5_0; try clear hfz5_1; try clear hfz7_0; try clear hfz7_1
   obtain ⟨kq, x15_1, rfl, HA, HJ1, BK477, HI0, HK, HB⟩ := hcut
   cases kq with
   | zero => exact absurd HA.out (by simp [impl_condReader_cond.j0])
   | succ kj1 =>
    have H := HA.out
    clear HA
    simp only [impl_condReader_cond.j0] at H
    by_cases c8 : x15_1 = true
    ·subst c8
     replace H := iT H
     by_cases c9 : s0_1 = true
     ·subst c9
      replace H := iT H
      simp only [Option.some.injEq, Prod.mk.injEq] at H
      obtain ⟨rfl, rfl, rfl, rfl, rfl, rfl⟩ := H
      obtain ⟨HGz10, hgz10⟩ := HI0.out
      have hcz10_0 := cellS42_0 HGz10
      have hcz10_1 := cellS42_1 HGz10
      have hfz10_0 := blk_frozen HGz10 0
      have hfz10_1 := blk_frozen HGz10 1
      clear HGz10 hgz10
      have hnb11 := NB477_0.out
      have hnc11 := NB0_477.out
      obtain ⟨hcz12_0, hcz12_1, hcz12_2, hcz12_3, hfz12_0, hfz12_1, hfz12_2, hfz12_3⟩ := sd4 BK477.out
      have hbx6_ := kbx HX_.out HK.out
      (try have hnx6_477 := kbn HXl_.out GW477.out)
      (try have hny6_477 := (kbn HXl_.out GW477.out).symm)
      (try have hnx6_491 := kbn HXl_.out GW491.out)
      (try have hny6_491 := (kbn HXl_.out GW491.out).symm)
      go_wp2
      refine bodyPost_ret (results_cell_row rfl _ _ gb477 27 #[.int .i64 0, .int .i64 0, .int .i64 0, .slice none 0 0] (0, 0) _ rfl ?_ Tryd.underlying27 rfl sqk) rfl ?_; exact bp BK477
      refine condUp HA_.out ?_
      exact ⟨_, sqe, by first | exact Kd.R_nil _ _ _ _ _ | exact Kd.N_nil _ _ _ _ _ | exact Kd.V_nil _ _ _ _ _ | exact Kd.Q_nil _ _ _ _ _ | exact Kd.S_nil _ _ _ _ _, sqi, sqj, by repeat (first | (with_reducible first | exact HK.out | apply KeepBut.set_ | apply keep_drewN | apply keep_drew | apply keep_alloc | refine keep_far ?_ GW477.out _) | exact HK.out)⟩
     ·replace c9 := Bool.eq_false_iff.mpr c9
      subst c9
      replace H := iF H
      obtain ⟨⟨t479, t480, t481, t482, t485, t486⟩, A13, H⟩ := bA H
      dsimp only at H
      simp only [Option.some.injEq, Prod.mk.injEq] at H
      obtain ⟨rfl, rfl, rfl, rfl, rfl, rfl⟩ := H
      obtain ⟨HGz14, hgz14⟩ := HI0.out
      have hcz14_0 := cellS42_0 HGz14
      have hcz14_1 := cellS42_1 HGz14
      have hfz14_0 := blk_frozen HGz14 0
      have hfz14_1 := blk_frozen HGz14 1
      clear HGz14 hgz14
      have hbx7_ := kbx HX_.out HK.out
      (try have hnx7_477 := kbn HXl_.out GW477.out)
      (try have hny7_477 := (kbn HXl_.out GW477.out).symm)
      (try have hnx7_491 := kbn HXl_.out GW491.out)
      (try have hny7_491 := (kbn HXl_.out GW491.out).symm)
      go_wp2_with (first | ((with_reducible refine gate_callee (f := 31) rfl ?_); refine goesL_ (some 22) rfl rfl Tryd.func31 sqk rfl #[.pointer (some ⟨g, 0, none⟩)] rfl sqm ?_; (with_reducible refine (ih31 kj1 (by have := HJ1.out; omega) g s0_0 false t479 t480 t481 t482 t485 t486 w0 _ ?side1 ?side2 A13.out HTab.out).mono ?_); (case side1 => exact sqi); (case side2 => exact sqj); rintro e w15 ⟨v483, rfl, ho0, hi, hb, hk⟩; refine ⟨_, rfl, ?_⟩; have HO484 := Aside0.mk (Kd.N_lower (Kd.N_mono (ok' := fun k_ => (w.heap.size ≤ k_) ∧ k_ ≠ gb477 ∧ k_ ≠ g) ho0 (fun k_ hk_ => ⟨(Nat.le_trans (keep_size (w := w) (g := g) (row := none) z31_1) hk_), (Kd.freshB (bo BK477) k_ hk_), (IsS42.fresh sqi k_ hk_)⟩)) (keep_size (w := w) (g := g) (row := none) z31_1)); replace BK477 := Aside0.mk (KeepBut.blk hk (g' := gb477) (o := .cells #[.int .i64 0, .int .i64 0, .int .i64 0, .slice none 0 0] 27 (0, 0)) (sqb BK477.out) NB477_0.out (by simp)); replace HK := Aside0.mk (KeepBut.trans z31_1 hk (.inl rfl)); replace HB := Aside0.mk (hb); replace HI0 := Aside0.mk (hi); (try clear hb); (try clear hk); (try clear hi); (try clear ho0); have hnb16 := NB477_0.out; have hnc16 := NB0_477.out; obtain ⟨hcz17_0, hcz17_1, hcz17_2, hcz17_3, hfz17_0, hfz17_1, hfz17_2, hfz17_3⟩ := sd4 BK477.out; obtain ⟨Ao18, co18, eo18⟩ := Kd.N_slice HO484.out; subst eo18; have hbx8_ := kbx HX_.out HK.out; (try have hnx8_477 := kbn HXl_.out GW477.out); (try have hny8_477 := (kbn HXl_.out GW477.out).symm); (try have hnx8_491 := kbn HXl_.out GW491.out); (try have hny8_491 := (kbn HXl_.out GW491.out).symm)))
      refine bodyPost_ret (results_cell_row rfl _ _ gb477 27 #[.int .i64 t479, .int .i64 t480, .int .i64 t481, .slice Ao18 t482.length co18] (0, 0) _ rfl ?_ Tryd.underlying27 rfl sqk) rfl ?_; exact bp BK477
      refine condUp HA_.out ?_
      exact ⟨_, sqe, by (with_reducible repeat (first | apply Kd.N_alloc | apply Kd.N_drewN | apply Kd.N_drew)); exact Kd.N_mono (Kd.N_far (p := ⟨gb477, 3, none⟩) (Kd.N_far (p := ⟨gb477, 2, none⟩) (Kd.N_far (p := ⟨gb477, 1, none⟩) (Kd.N_far (p := ⟨gb477, 0, none⟩) (Kd.N_mono HO484.out (fun k_ hk => (⟨hk, hk.2.1⟩ : _ ∧ k_ ≠ gb477))) (fun _ hk => hk.2) (.int .i64 t479)) (fun _ hk => hk.2) (.int .i64 t480)) (fun _ hk => hk.2) (.int .i64 t481)) (fun _ hk => hk.2) (.slice Ao18 t482.length co18)) (fun _ hk => hk.1.1), sqi, sqj, by repeat (first | (with_reducible first | exact HK.out | apply KeepBut.set_ | apply keep_drewN | apply keep_drew | apply keep_alloc | refine keep_far ?_ GW477.out _) | exact HK.out)⟩
    ·replace c8 := Bool.eq_false_iff.mpr c8
     subst c8
     replace H := iF H
     obtain ⟨t487, A19, H⟩ := bA H
     by_cases c20 : (wrap64 (t487 + 1)) = 0
     ·rw [if_pos c20] at H
      have c20b0 : ((wrap64 (t487 + 1)) == 0) = true := beq_iff_eq.mpr c20
      have c20b1 : ((wrap64 (t487 + 1)) != 0) = false := bne_eq_false_iff_eq.mpr c20
      clear c20
      simp only [Option.some.injEq, Prod.mk.injEq] at H
      obtain ⟨rfl, rfl, rfl, rfl, rfl, rfl⟩ := H
      obtain ⟨HGz21, hgz21⟩ := HI0.out
      have hcz21_0 := cellS42_0 HGz21
      have hcz21_1 := cellS42_1 HGz21
      have hfz21_0 := blk_frozen HGz21 0
      have hfz21_1 := blk_frozen HGz21 1
      clear HGz21 hgz21
      have hbx9_ := kbx HX_.out HK.out
      (try have hnx9_477 := kbn HXl_.out GW477.out)
      (try have hny9_477 := (kbn HXl_.out GW477.out).symm)
      (try have hnx9_491 := kbn HXl_.out GW491.out)
      (try have hny9_491 := (kbn HXl_.out GW491.out).symm)
      go_wp2_with (first | ((with_reducible refine gate_callee (f := 32) rfl ?_); refine goesL_ (some 25) rfl rfl Tryd.func32 sqk rfl #[.slice (some ⟨0, 1, none⟩) 7 9, .func (.func 33) #[] #[.pointer (some ⟨gbX, 0, none⟩)]] rfl sqm ?_; (with_reducible refine (condFind.run (w0 := w0) (w := w) s0_0 s0_1 t487 HX_.out ?side1 ?side2 ?side3 HTab.out A19.out).mono ?_); (case side1 => exact z31_0); (case side2 => exact sqi); (case side3 => exact sqj); rintro e w22 ⟨rfl, hb⟩; refine ⟨_, rfl, ?_⟩; replace BK477 := Aside0.mk (blk_below (bo BK477) hb); replace HK := Aside0.mk (KeepBut.trans z31_1 (KeepBut.of_below hb g none) (.inl rfl)); replace HB := Aside0.mk (below_step sqj hb); replace HI0 := Aside0.mk (IsS42.below sqi hb); (try clear hb); obtain ⟨HGz23, hgz23⟩ := HI0.out; have hcz23_0 := cellS42_0 HGz23; have hcz23_1 := cellS42_1 HGz23; have hfz23_0 := blk_frozen HGz23 0; have hfz23_1 := blk_frozen HGz23 1; clear HGz23 hgz23; have hnb24 := NB477_0.out; have hnc24 := NB0_477.out; obtain ⟨hcz25_0, hcz25_1, hcz25_2, hcz25_3, hfz25_0, hfz25_1, hfz25_2, hfz25_3⟩ := sd4 BK477.out; have hbx10_ := kbx HX_.out HK.out; (try have hnx10_477 := kbn HXl_.out GW477.out); (try have hny10_477 := (kbn HXl_.out GW477.out).symm); (try have hnx10_491 := kbn HXl_.out GW491.out); (try have hny10_491 := (kbn HXl_.out GW491.out).symm)))
      refine bodyPost_ret (results_cell_row rfl _ _ gb477 27 #[.int .i64 0, .int .i64 0, .int .i64 0, .slice none 0 0] (0, 0) _ rfl ?_ Tryd.underlying27 rfl sqk) rfl ?_; exact bp BK477
      refine condUp HA_.out ?_
      exact ⟨_, sqe, by first | exact Kd.R_nil _ _ _ _ _ | exact Kd.N_nil _ _ _ _ _ | exact Kd.V_nil _ _ _ _ _ | exact Kd.Q_nil _ _ _ _ _ | exact Kd.S_nil _ _ _ _ _, sqi, sqj, by repeat (first | (with_reducible first | exact HK.out | apply KeepBut.set_ | apply keep_drewN | apply keep_drew | apply keep_alloc | refine keep_far ?_ GW477.out _) | exact HK.out)⟩
     ·rw [if_neg c20] at H
      have c20b0 : ((wrap64 (t487 + 1)) == 0) = false := beq_eq_false_iff_ne.mpr c20
      have c20b1 : ((wrap64 (t487 + 1)) != 0) = true := bne_iff_ne.mpr c20
      obtain ⟨t488, A26, H⟩ := bA H
      obtain ⟨⟨t489, t490⟩, A27, H⟩ := bA H
      dsimp only at H
      have HC28 := Aside0.mk H
      clear H
      obtain ⟨HGz29, hgz29⟩ := HI0.out
      have hcz29_0 := cellS42_0 HGz29
      have hcz29_1 := cellS42_1 HGz29
      have hfz29_0 := blk_frozen HGz29 0
      have hfz29_1 := blk_frozen HGz29 1
      clear HGz29 hgz29
      have hbx11_ := kbx HX_.out HK.out
      (try have hnx11_477 := kbn HXl_.out GW477.out)
      (try have hny11_477 := (kbn HXl_.out GW477.out).symm)
      (try have hnx11_491 := kbn HXl_.out GW491.out)
      (try have hny11_491 := (kbn HXl_.out GW491.out).symm)
      go_wp2_with (first | ((with_reducible refine gate_callee (f := 32) rfl ?_); refine goesL_ (some 25) rfl rfl Tryd.func32 sqk rfl #[.slice (some ⟨0, 1, none⟩) 7 9, .func (.func 33) #[] #[.pointer (some ⟨gbX, 0, none⟩)]] rfl sqm ?_; (with_reducible refine (condFind.run (w0 := w0) (w := w) s0_0 s0_1 t487 HX_.out ?side1 ?side2 ?side3 HTab.out A19.out).mono ?_); (case side1 => exact z31_0); (case side2 => exact sqi); (case side3 => exact sqj); rintro e w30 ⟨rfl, hb⟩; refine ⟨_, rfl, ?_⟩; replace BK477 := Aside0.mk (blk_below (bo BK477) hb); replace HK := Aside0.mk (KeepBut.trans z31_1 (KeepBut.of_below hb g none) (.inl rfl)); replace HB := Aside0.mk (below_step sqj hb); replace HI0 := Aside0.mk (IsS42.below sqi hb); (try clear hb); have hbx12_ := kbx HX_.out HK.out; (try have hnx12_477 := kbn HXl_.out GW477.out); (try have hny12_477 := (kbn HXl_.out GW477.out).symm); (try have hnx12_491 := kbn HXl_.out GW491.out); (try have hny12_491 := (kbn HXl_.out GW491.out).symm)))
      try simp only [Act.put, List.setIfInBounds_toArray, List.set_cons_zero, List.set_cons_succ, i64_w, i32_w]
      obtain ⟨hlo, hhi, hgl⟩ := (HTab.out.below HB.out).at A26.out
      have hlo1 := eq_true hlo
      have hhi1 := eq_true hhi
      have hlo2 := decide_eq_true hlo
      have hhi2 := decide_eq_true hhi
      have hhi3 : (Int.toNat _ < 10) = True := eq_true ((Int.toNat_lt hlo).2 hhi)
      have hbx1_ := kbx HX_.out HK.out
      (try have hnx1_477 := kbn HXl_.out GW477.out)
      (try have hny1_477 := (kbn HXl_.out GW477.out).symm)
      (try have hnx1_491 := kbn HXl_.out GW491.out)
      (try have hny1_491 := (kbn HXl_.out GW491.out).symm)
      refine start_ (n := 5) (S := fun w' => w'.cell? ⟨gbX, 0, none⟩ = some (.pointer (some ⟨g, 0, none⟩)) ∧ w'.cell? ⟨0, ((wrap64 (t487 + 1))).toNat, none⟩ = some (.string t488)) (ds := []) #[false, false, false, false, false] sqk rfl rfl ⟨kbx HX_.out HK.out, ((HTab.out.below HB.out).at A26.out).2.2⟩ (fun hHeld => ?_)
      refine pu 1 34 ?_; refine pu 2 35 ?_; refine ta 0 33 ?_; refine ta 3 36 ?_
      refine on 4 (some 37) (fun K hK => ?_)
      refine goes_ Tryd.func34 sqk rfl #[.pointer (some ⟨g, 0, none⟩), .string t488] (by rfl) rfl rfl sqm ?_
      with_reducible refine (impl_condReader_need.calls g s0_0 s0_1 t488 t489 t490 w0 _ ?side1 ?side2 A27.out).mono ?_
      (case side1 => exact sqi)
      (case side2 => exact sqj)
      rintro e w32 ⟨rfl, hi, hb, hk⟩
      refine ⟨_, rfl, ?_⟩
      replace BK477 := Aside0.mk (KeepBut.blk hk (g' := gb477) (o := .cells #[.int .i64 0, .int .i64 0, .int .i64 0, .slice none 0 0] 27 (0, 0)) (sqb BK477.out) NB477_0.out (by simp))
      replace HK := Aside0.mk (KeepBut.trans z31_1 hk (.inl rfl))
      replace HB := Aside0.mk (hb)
      replace HI0 := Aside0.mk (hi)
      (try clear hb)
      (try clear hb2)
      (try clear hk)
      (try clear hi)
      refine hK.out _ _ ⟨kbx HX_.out HK.out, ((HTab.out.below HB.out).at A26.out).2.2⟩ (fun hHeld => ?_)
      clear hK K; refine no 37 ?_
      refine dn ?_
      clear hHeld
      have hbx13_ := kbx HX_.out HK.out
      (try have hnx13_477 := kbn HXl_.out GW477.out)
      (try have hny13_477 := (kbn HXl_.out GW477.out).symm)
      (try have hnx13_491 := kbn HXl_.out GW491.out)
      (try have hny13_491 := (kbn HXl_.out GW491.out).symm)
      go_upto_if 41 with (first | ((with_reducible refine gate_dst (N := 4) rfl ?_); refine bx (N := 4) (cs := #[.int .i64 0, .int .i64 0, .int .i64 0, .slice none 0 0]) (t := 27) ?_; intro gb491 hg w33 hbox hb; replace HB := Aside0.mk (below_step sqj hb); have BK491 := Aside0.mk (hbox); have GW491 := Aside0.mk ((by rw [hg]; exact (keep_size (w := w) (g := g) (row := none) z31_1) : w.heap.size ≤ gb491)); have GE491 := Aside0.mk ((Nat.le_trans HW0.out (by rw [hg]; exact (keep_size (w := w) (g := g) (row := none) z31_1) : w.heap.size ≤ gb491) : w0.heap.size ≤ gb491)); replace HK := Aside0.mk (KeepBut.trans z31_1 (KeepBut.of_below hb g none) (.inl rfl)); have NB477_491 := Aside0.mk ((by rw [hg]; exact Nat.ne_of_lt (blk_lt (bo BK477)) : gb477 ≠ gb491)); have NB491_477 := Aside0.mk ((by rw [hg]; exact Nat.ne_of_gt (blk_lt (bo BK477)) : gb491 ≠ gb477)); replace BK477 := Aside0.mk (blk_below (bo BK477) hb); have NB0_491 := Aside0.mk ((by rw [hg]; exact Nat.ne_of_lt (IsS42.lt (show IsS42 w0 _ g t489 t490 from sqi)) : g ≠ gb491)); have NB491_0 := Aside0.mk ((by rw [hg]; exact Nat.ne_of_gt (IsS42.lt (show IsS42 w0 _ g t489 t490 from sqi)) : gb491 ≠ g)); replace HI0 := Aside0.mk (IsS42.below sqi hb); clear hb hbox hg; have hnb34 := NB491_477.out; have hnc34 := NB477_491.out; have hnb35 := NB491_0.out; have hnc35 := NB0_491.out; obtain ⟨hcz36_0, hcz36_1, hcz36_2, hcz36_3, hfz36_0, hfz36_1, hfz36_2, hfz36_3⟩ := sd4 BK491.out; have hbx14_ := kbx HX_.out HK.out; (try have hnx14_477 := kbn HXl_.out GW477.out); (try have hny14_477 := (kbn HXl_.out GW477.out).symm); (try have hnx14_491 := kbn HXl_.out GW491.out); (try have hny14_491 := (kbn HXl_.out GW491.out).symm)))
      (try simp only [Act.put, List.setIfInBounds_toArray, List.set_cons_zero, List.set_cons_succ])
      go_cut [] (fun wc => ∃ (kq : Nat) (x1000_27 : ByteArray) (x1001_27 : Bool) (x492003_27 : List (S27)) (u492003 : Value), Aside0 (impl_condReader_cond.j1 kq (wrap64 (t487 + 1)) x1000_27 x1001_27 (wrap64 (t487 + 1)) 0 0 x492003_27 = some (r1, r2, r3, r4, r5, r6)) ∧ Aside0 (kq ≤ kj1) ∧ Aside0 (Kd.N k27 27 wc w.heap.size (fun k_ => (w.heap.size ≤ k_) ∧ k_ ≠ gb477 ∧ k_ ≠ gb491 ∧ k_ ≠ g) u492003 x492003_27) ∧ Aside0 (wc.heap[gb477]? = some (.cells #[.int .i64 0, .int .i64 0, .int .i64 0, (.slice none 0 0)] 27 (0, 0))) ∧ Aside0 (wc.heap[gb491]? = some (.cells #[.int .i64 (wrap64 (t487 + 1)), .int .i64 0, .int .i64 0, u492003] 27 (0, 0))) ∧ Aside0 (IsS42 w0 wc g x1000_27 x1001_27) ∧ Aside0 (KeepBut w wc g none) ∧ Aside0 (Below w0.heap.size w0 wc))
      case first =>
       have H := HC28.out
       clear HC28
       by_cases c37 : (wrap64 (t487 + 1)) = 7
       ·rw [if_pos c37] at H
        have c37b0 : ((wrap64 (t487 + 1)) == 7) = true := beq_iff_eq.mpr c37
        have c37b1 : ((wrap64 (t487 + 1)) != 7) = false := bne_eq_false_iff_eq.mpr c37
        clear c37
        (first | rw [c37b0] | (simp only [i64_w, i32_w]; rw [c37b0]) | skip)
        obtain ⟨⟨t492, t493⟩, A38, H⟩ := bA H
        dsimp only at H
        obtain ⟨⟨t494, t495, t496, t497, t500, t501⟩, A39, H⟩ := bA H
        dsimp only at H
        obtain ⟨y502, hy502⟩ : ∃ y_ : List (S27), y_ = (([(⟨t494, t495, t496, t497⟩ : S27)] : List (S27))) := ⟨_, rfl⟩
        replace H : (impl_condReader_cond.j1 kj1 (wrap64 (t487 + 1)) t500 t501 (wrap64 (t487 + 1)) 0 0 y502) = some (r1, r2, r3, r4, r5, r6) := by first | (rw [hy502]; with_reducible exact H) | (have H2_ := (Option.bind_some _ _).symm.trans H; rw [hy502]; with_reducible exact H2_) | (have H2_ := (Option.bind_some _ _).symm.trans H; with_reducible exact H2_) | with_reducible exact H | (rw [hy502]; exact H) | exact H
        have Ny502 := Aside0.mk hy502
        clear hy502
        have H' := Aside0.mk H
        clear H
        have hbx15_ := kbx HX_.out HK.out
        (try have hnx15_477 := kbn HXl_.out GW477.out)
        (try have hny15_477 := (kbn HXl_.out GW477.out).symm)
        (try have hnx15_491 := kbn HXl_.out GW491.out)
        (try have hny15_491 := (kbn HXl_.out GW491.out).symm)
        go_wp2_with (first | ((with_reducible refine gate_callee (f := 34) rfl ?_); refine goesL_ (some 43) rfl rfl Tryd.func34 sqk rfl #[.pointer (some ⟨g, 0, none⟩), .string (⟨#[32]⟩ : ByteArray)] rfl sqm ?_; (with_reducible refine (impl_condReader_need.calls g t489 t490 (⟨#[32]⟩ : ByteArray) t492 t493 w0 _ ?side1 ?side2 A38.out).mono ?_); (case side1 => exact sqi); (case side2 => exact sqj); rintro e w40 ⟨rfl, hi, hb, hk⟩; refine ⟨_, rfl, ?_⟩; replace BK477 := Aside0.mk (KeepBut.blk hk (g' := gb477) (o := .cells #[.int .i64 0, .int .i64 0, .int .i64 0, .slice none 0 0] 27 (0, 0)) (bp BK477) NB477_0.out (by simp)); replace BK491 := Aside0.mk (KeepBut.blk hk (g' := gb491) (o := .cells #[.int .i64 (wrap64 (t487 + 1)), .int .i64 0, .int .i64 0, .slice none 0 0] 27 (0, 0)) (bp BK491) NB491_0.out (by simp)); replace HK := Aside0.mk (KeepBut.trans z31_0 hk (.inl rfl)); replace HB := Aside0.mk (hb); replace HI0 := Aside0.mk (hi); (try clear hb); (try clear hk); (try clear hi); have hbx16_ := kbx HX_.out HK.out; (try have hnx16_477 := kbn HXl_.out GW477.out); (try have hny16_477 := (kbn HXl_.out GW477.out).symm); (try have hnx16_491 := kbn HXl_.out GW491.out); (try have hny16_491 := (kbn HXl_.out GW491.out).symm)) | ((with_reducible refine gate_callee (f := 17) rfl ?_); refine goesL_ (some 45) rfl rfl Tryd.func17 sqk rfl #[.pointer (some ⟨g, 0, none⟩)] rfl sqm ?_; (with_reducible refine (ih17 kj1 (by have := HJ1.out; omega) g t492 t493 t494 t495 t496 t497 t500 t501 w0 _ ?side1 ?side2 A39.out HTab.out).mono ?_); (case side1 => exact sqi); (case side2 => exact sqj); rintro e w41 ⟨v498, rfl, ho0, hi, hb, hk⟩; refine ⟨_, rfl, ?_⟩; have HO499 := Aside0.mk (Kd.N_lower (Kd.N_mono (ok' := fun k_ => (w.heap.size ≤ k_) ∧ k_ ≠ gb477 ∧ k_ ≠ gb491 ∧ k_ ≠ g) ho0 (fun k_ hk_ => ⟨(Nat.le_trans (keep_size (w := w) (g := g) (row := none) z31_0) hk_), (Kd.freshB (bo BK477) k_ hk_), (Kd.freshB (bo BK491) k_ hk_), (IsS42.fresh sqi k_ hk_)⟩)) (keep_size (w := w) (g := g) (row := none) z31_0)); replace BK477 := Aside0.mk (KeepBut.blk hk (g' := gb477) (o := .cells #[.int .i64 0, .int .i64 0, .int .i64 0, .slice none 0 0] 27 (0, 0)) (sqb BK477.out) NB477_0.out (by simp)); replace BK491 := Aside0.mk (KeepBut.blk hk (g' := gb491) (o := .cells #[.int .i64 (wrap64 (t487 + 1)), .int .i64 0, .int .i64 0, .slice none 0 0] 27 (0, 0)) (sqb BK491.out) NB491_0.out (by simp)); replace HK := Aside0.mk (KeepBut.trans z31_0 hk (.inl rfl)); replace HB := Aside0.mk (hb); replace HI0 := Aside0.mk (hi); (try clear hb); (try clear hk); (try clear hi); (try clear ho0); obtain ⟨Ao42, co42, eo42⟩ := Kd.N_slice HO499.out; subst eo42; have hbx17_ := kbx HX_.out HK.out; (try have hnx17_477 := kbn HXl_.out GW477.out); (try have hny17_477 := (kbn HXl_.out GW477.out).symm); (try have hnx17_491 := kbn HXl_.out GW491.out); (try have hny17_491 := (kbn HXl_.out GW491.out).symm)) | ((with_reducible refine gate_dst (N := 46) rfl ?_); refine Kd.N_lit k27 _ 27 ?hg (N' := 46) ?hd (xs := ([(⟨t494, t495, t496, t497⟩ : S27)] : List (S27))) (inner := [.int .i64 t494, .int .i64 t495, .int .i64 t496, .slice Ao42 t497.length co42]) (ok := (fun k_ => (w.heap.size ≤ k_) ∧ k_ ≠ gb477 ∧ k_ ≠ gb491 ∧ k_ ≠ g)) (okp := (fun k_ => (w.heap.size ≤ k_) ∧ k_ ≠ gb477 ∧ k_ ≠ gb491 ∧ k_ ≠ g)) ?hr ?hp (fun _ hk => hk) ((show ∀ k_, w41.heap.size ≤ k_ → (fun k_ => (w.heap.size ≤ k_) ∧ k_ ≠ gb477 ∧ k_ ≠ gb491 ∧ k_ ≠ g) k_ from fun k_ hk => ⟨(Nat.le_trans (keep_size (w := w) (g := g) (row := none) z31_0) hk), Kd.freshB (bo BK477) k_ hk, Kd.freshB (bo BK491) k_ hk, IsS42.fresh sqi k_ hk⟩) _ (Nat.le_refl _)) (Below.refl _ _) (Nat.le_refl _) (by simp) ?_; (case hd => rfl); (case hg => rfl); (case hr => first | (go_simp; done) | (go_simp; rfl)); (case hp => exact (Reps.c4 (show Kd.FK k27 _ _ (⟨t494, t495, t496, t497⟩ : S27) [.int .i64 t494, .int .i64 t495, .int .i64 t496, .slice Ao42 t497.length co42] from (k27_mkF _ _ (⟨t494, t495, t496, t497⟩ : S27) (Kd.N_reads' (Kd.N_mono (ok' := (fun k_ => (w.heap.size ≤ k_) ∧ k_ ≠ gb477 ∧ k_ ≠ gb491 ∧ k_ ≠ g)) (HO499.out) (fun k_ hk => ⟨hk.1, ⟨hk.2.1, ⟨hk.2.2.1, hk.2.2.2⟩⟩⟩))).2.1 (Kd.N_F (Kd.N_mono (ok' := (fun k_ => (w.heap.size ≤ k_) ∧ k_ ≠ gb477 ∧ k_ ≠ gb491 ∧ k_ ≠ g)) (HO499.out) (fun k_ hk => ⟨hk.1, ⟨hk.2.1, ⟨hk.2.2.1, hk.2.2.2⟩⟩⟩))))) (Reps.none _ _))); intro v503 w43 ho44 hb hg_ hnew_; clear hg_ hnew_; (first | rw [← Ny502.out] at ho44 | (simp only [Int.reduceToNat] at ho44; rw [← Ny502.out] at ho44)); have HO504 := Aside0.mk (Kd.N_lower ho44 (keep_size (w := w) (g := g) (row := none) z31_0)); replace BK477 := Aside0.mk (blk_below (bo BK477) hb); replace BK491 := Aside0.mk (blk_below (bo BK491) hb); replace HK := Aside0.mk (KeepBut.trans z31_0 (KeepBut.of_below hb g none) (.inl rfl)); replace HB := Aside0.mk (below_step sqj hb); replace HI0 := Aside0.mk (IsS42.below sqi hb); clear HO499; clear hb ho44; obtain ⟨Ao45, co45, eo45⟩ := Kd.N_slice HO504.out; subst eo45; have hnb46 := NB491_477.out; have hnc46 := NB477_491.out; have hnb47 := NB491_0.out; have hnc47 := NB0_491.out; obtain ⟨hcz48_0, hcz48_1, hcz48_2, hcz48_3, hfz48_0, hfz48_1, hfz48_2, hfz48_3⟩ := sd4 BK491.out; have hbx18_ := kbx HX_.out HK.out; (try have hnx18_477 := kbn HXl_.out GW477.out); (try have hny18_477 := (kbn HXl_.out GW477.out).symm); (try have hnx18_491 := kbn HXl_.out GW491.out); (try have hny18_491 := (kbn HXl_.out GW491.out).symm)))
        go_meet
        case rel => exact ⟨_, (t500), (t501), (y502), (.slice Ao45 y502.length co45), H', ⟨by have := HJ1.out; first | omega | exact Nat.le_refl _⟩, ⟨by (with_reducible repeat (first | apply Kd.N_alloc | apply Kd.N_drewN | apply Kd.N_drew)); exact Kd.N_mono (Kd.N_far (p := ⟨gb491, 3, none⟩) (Kd.N_mono HO504.out (fun k_ hk => (⟨hk, hk.2.2.1⟩ : _ ∧ k_ ≠ gb491))) (fun _ hk => hk.2) (.slice Ao45 y502.length co45)) (fun _ hk => ⟨hk.1.1, ⟨hk.1.2.1, ⟨hk.1.2.2.1, hk.1.2.2.2⟩⟩⟩)⟩, ⟨bp BK477⟩, ⟨bp BK491⟩, ⟨sqi⟩, ⟨by repeat (first | (with_reducible first | exact HK.out | apply KeepBut.set_ | apply keep_drewN | apply keep_drew | apply keep_alloc | refine keep_far ?_ GW477.out _ | refine keep_far ?_ GW491.out _) | exact HK.out)⟩, ⟨sqj⟩⟩
       ·rw [if_neg c37] at H
        have c37b0 : ((wrap64 (t487 + 1)) == 7) = false := beq_eq_false_iff_ne.mpr c37
        have c37b1 : ((wrap64 (t487 + 1)) != 7) = true := bne_iff_ne.mpr c37
        (first | rw [c37b0] | (simp only [i64_w, i32_w]; rw [c37b0]) | skip)
        have H' := Aside0.mk H
        clear H
        have hbx19_ := kbx HX_.out HK.out
        (try have hnx19_477 := kbn HXl_.out GW477.out)
        (try have hny19_477 := (kbn HXl_.out GW477.out).symm)
        (try have hnx19_491 := kbn HXl_.out GW491.out)
        (try have hny19_491 := (kbn HXl_.out GW491.out).symm)
        go_wp2
        go_meet
        case rel => exact ⟨_, (t489), (t490), (([] : List (S27))), (.slice none 0 0), H', ⟨by have := HJ1.out; first | omega | exact Nat.le_refl _⟩, ⟨by first | exact Kd.R_nil _ _ _ _ _ | exact Kd.N_nil _ _ _ _ _ | exact Kd.V_nil _ _ _ _ _ | exact Kd.Q_nil _ _ _ _ _ | exact Kd.S_nil _ _ _ _ _⟩, ⟨bp BK477⟩, ⟨bp BK491⟩, ⟨sqi⟩, ⟨by repeat (first | (with_reducible first | exact HK.out | apply KeepBut.set_ | apply keep_drewN | apply keep_drew | apply keep_alloc | refine keep_far ?_ GW477.out _ | refine keep_far ?_ GW491.out _) | exact HK.out)⟩, ⟨sqj⟩⟩
      case rest =>
       clear HC28; try clear c1; try clear c2; try clear p2; try clear c3; try clear c4; try clear p6; try clear c7; try clear c8; try clear c9; try clear c11; try clear c16; try clear c17; try clear c20; try clear c20b0; try clear c20b1; try clear c24; try clear c31; try clear c34; try clear c35; try clear c37; try clear c37b0; try clear c37b1; try clear c46; try clear c47; try clear hcz10_0; try clear hcz10_1; try clear hcz12_0; try clear hcz12_1; try clear hcz12_2; try clear hcz12_3; try clear hcz14_0; try clear hcz14_1; try clear hcz17_0; try clear hcz17_1; try clear hcz17_2; try clear hcz17_3; try clear hcz21_0; try clear hcz21_1; try clear hcz23_0; try clear hcz23_1; try clear hcz25_0; try clear hcz25_1; try clear hcz25_2; try clear hcz25_3; try clear hcz29_0; try clear hcz29_1; try clear hcz36_0; try clear hcz36_1; try clear hcz36_2; try clear hcz36_3; try clear hcz48_0; try clear hcz48_1
       try clear hcz48_2; try clear hcz48_3; try clear hcz5_0; try clear hcz5_1; try clear hcz7_0; try clear hcz7_1; try clear hfz10_0; try clear hfz10_1; try clear hfz12_0; try clear hfz12_1; try clear hfz12_2; try clear hfz12_3; try clear hfz14_0; try clear hfz14_1; try clear hfz17_0; try clear hfz17_1; try clear hfz17_2; try clear hfz17_3; try clear hfz21_0; try clear hfz21_1; try clear hfz23_0; try clear hfz23_1; try clear hfz25_0; try clear hfz25_1; try clear hfz25_2; try clear hfz25_3; try clear hfz29_0; try clear hfz29_1; try clear hfz36_0; try clear hfz36_1; try clear hfz36_2; try clear hfz36_3; try clear hfz48_0; try clear hfz48_1; try clear hfz48_2; try clear hfz48_3; try clear hfz5_0; try clear hfz5_1; try clear hfz7_0; try clear hfz7_1; try clear p2
       obtain ⟨kq, x1000_27, x1001_27, x492003_27, u492003, HA, HJ27, HO_492003, BK477, BK491, HI0, HK, HB⟩ := hcut
       cases kq with
       | zero => exact absurd HA.out (by simp [impl_condReader_cond.j1])
       | succ kj27 =>
        have H := HA.out
        clear HA
        simp only [impl_condReader_cond.j1] at H
        have HC49 := Aside0.mk H
        clear H
        have hbx20_ := kbx HX_.out HK.out
        (try have hnx20_477 := kbn HXl_.out GW477.out)
        (try have hny20_477 := (kbn HXl_.out GW477.out).symm)
        (try have hnx20_491 := kbn HXl_.out GW491.out)
        (try have hny20_491 := (kbn HXl_.out GW491.out).symm)
        go_upto_region 14 with (fail)
        go_cut [61] (fun v61 wc => ∃ (kq : Nat) (x61_48 : Bool), v61 = .bool x61_48 ∧ Aside0 (impl_condReader_cond.j2 kq (wrap64 (t487 + 1)) x61_48 x1000_27 x1001_27 (wrap64 (t487 + 1)) 0 0 x492003_27 = some (r1, r2, r3, r4, r5, r6)) ∧ Aside0 (kq ≤ kj27) ∧ Aside0 (Kd.N k27 27 wc w.heap.size (fun k_ => (w.heap.size ≤ k_) ∧ k_ ≠ gb477 ∧ k_ ≠ gb491 ∧ k_ ≠ g) u492003 x492003_27) ∧ Aside0 (wc.heap[gb477]? = some (.cells #[.int .i64 0, .int .i64 0, .int .i64 0, (.slice none 0 0)] 27 (0, 0))) ∧ Aside0 (wc.heap[gb491]? = some (.cells #[.int .i64 (wrap64 (t487 + 1)), .int .i64 0, .int .i64 0, u492003] 27 (0, 0))) ∧ Aside0 (IsS42 w0 wc g x1000_27 x1001_27) ∧ Aside0 (KeepBut w wc g none) ∧ Aside0 (Below w0.heap.size w0 wc))
        case first =>
         have H := HC49.out
         clear HC49
         by_cases c50 : (wrap64 (t487 + 1)) = 2
         ·rw [if_pos c50] at H
          have c50b0 : ((wrap64 (t487 + 1)) == 2) = true := beq_iff_eq.mpr c50
          have c50b1 : ((wrap64 (t487 + 1)) != 2) = false := bne_eq_false_iff_eq.mpr c50
          clear c50
          (first | rw [c50b0] | (simp only [i64_w, i32_w]; rw [c50b0]) | skip)
          have H' := Aside0.mk H
          clear H
          have hbx21_ := kbx HX_.out HK.out
          (try have hnx21_477 := kbn HXl_.out GW477.out)
          (try have hny21_477 := (kbn HXl_.out GW477.out).symm)
          (try have hnx21_491 := kbn HXl_.out GW491.out)
          (try have hny21_491 := (kbn HXl_.out GW491.out).symm)
          go_wp2
          go_meet
          case rel => exact ⟨_, (true), sqr, H', ⟨by have := HJ1.out; have := HJ27.out; first | omega | exact Nat.le_refl _⟩, ⟨by (with_reducible repeat (first | apply Kd.N_alloc | apply Kd.N_drewN | apply Kd.N_drew)); exact HO_492003.out⟩, ⟨sqb BK477.out⟩, ⟨sqb BK491.out⟩, ⟨sqi⟩, ⟨by repeat (first | (with_reducible first | exact HK.out | apply KeepBut.set_ | apply keep_drewN | apply keep_drew | apply keep_alloc | refine keep_far ?_ GW477.out _ | refine keep_far ?_ GW491.out _) | exact HK.out)⟩, ⟨sqj⟩⟩
         ·rw [if_neg c50] at H
          have c50b0 : ((wrap64 (t487 + 1)) == 2) = false := beq_eq_false_iff_ne.mpr c50
          have c50b1 : ((wrap64 (t487 + 1)) != 2) = true := bne_iff_ne.mpr c50
          (first | rw [c50b0] | (simp only [i64_w, i32_w]; rw [c50b0]) | skip)
          by_cases c51 : (wrap64 (t487 + 1)) = 4
          ·rw [if_pos c51] at H
           have c51b0 : ((wrap64 (t487 + 1)) == 4) = true := beq_iff_eq.mpr c51
           have c51b1 : ((wrap64 (t487 + 1)) != 4) = false := bne_eq_false_iff_eq.mpr c51
           clear c51
           have H' := Aside0.mk H
           clear H
           have hbx22_ := kbx HX_.out HK.out
           (try have hnx22_477 := kbn HXl_.out GW477.out)
           (try have hny22_477 := (kbn HXl_.out GW477.out).symm)
           (try have hnx22_491 := kbn HXl_.out GW491.out)
           (try have hny22_491 := (kbn HXl_.out GW491.out).symm)
           go_wp2
           go_meet
           case rel => exact ⟨_, (true), sqr, H', ⟨by have := HJ1.out; have := HJ27.out; first | omega | exact Nat.le_refl _⟩, ⟨by (with_reducible repeat (first | apply Kd.N_alloc | apply Kd.N_drewN | apply Kd.N_drew)); exact HO_492003.out⟩, ⟨sqb BK477.out⟩, ⟨sqb BK491.out⟩, ⟨sqi⟩, ⟨by repeat (first | (with_reducible first | exact HK.out | apply KeepBut.set_ | apply keep_drewN | apply keep_drew | apply keep_alloc | refine keep_far ?_ GW477.out _ | refine keep_far ?_ GW491.out _) | exact HK.out)⟩, ⟨sqj⟩⟩
          ·rw [if_neg c51] at H
           have c51b0 : ((wrap64 (t487 + 1)) == 4) = false := beq_eq_false_iff_ne.mpr c51
           have c51b1 : ((wrap64 (t487 + 1)) != 4) = true := bne_iff_ne.mpr c51
           by_cases c52 : (wrap64 (t487 + 1)) = 5
           ·rw [if_pos c52] at H
            have c52b0 : ((wrap64 (t487 + 1)) == 5) = true := beq_iff_eq.mpr c52
            have c52b1 : ((wrap64 (t487 + 1)) != 5) = false := bne_eq_false_iff_eq.mpr c52
            clear c52
            have H' := Aside0.mk H
            clear H
            have hbx23_ := kbx HX_.out HK.out
            (try have hnx23_477 := kbn HXl_.out GW477.out)
            (try have hny23_477 := (kbn HXl_.out GW477.out).symm)
            (try have hnx23_491 := kbn HXl_.out GW491.out)
            (try have hny23_491 := (kbn HXl_.out GW491.out).symm)
            go_wp2
            go_meet
            case rel => exact ⟨_, (true), sqr, H', ⟨by have := HJ1.out; have := HJ27.out; first | omega | exact Nat.le_refl _⟩, ⟨by (with_reducible repeat (first | apply Kd.N_alloc | apply Kd.N_drewN | apply Kd.N_drew)); exact HO_492003.out⟩, ⟨sqb BK477.out⟩, ⟨sqb BK491.out⟩, ⟨sqi⟩, ⟨by repeat (first | (with_reducible first | exact HK.out | apply KeepBut.set_ | apply keep_drewN | apply keep_drew | apply keep_alloc | refine keep_far ?_ GW477.out _ | refine keep_far ?_ GW491.out _) | exact HK.out)⟩, ⟨sqj⟩⟩
           ·rw [if_neg c52] at H
            have c52b0 : ((wrap64 (t487 + 1)) == 5) = false := beq_eq_false_iff_ne.mpr c52
            have c52b1 : ((wrap64 (t487 + 1)) != 5) = true := bne_iff_ne.mpr c52
            have H' := Aside0.mk H
            clear H
            have hbx24_ := kbx HX_.out HK.out
            (try have hnx24_477 := kbn HXl_.out GW477.out)
            (try have hny24_477 := (kbn HXl_.out GW477.out).symm)
            (try have hnx24_491 := kbn HXl_.out GW491.out)
            (try have hny24_491 := (kbn HXl_.out GW491.out).symm)
            go_wp2
            go_meet
            case rel => exact ⟨_, (((wrap64 (t487 + 1)) == 6)), sqr, H', ⟨by have := HJ1.out; have := HJ27.out; first | omega | exact Nat.le_refl _⟩, ⟨by (with_reducible repeat (first | apply Kd.N_alloc | apply Kd.N_drewN | apply Kd.N_drew)); exact HO_492003.out⟩, ⟨sqb BK477.out⟩, ⟨sqb BK491.out⟩, ⟨sqi⟩, ⟨by repeat (first | (with_reducible first | exact HK.out | apply KeepBut.set_ | apply keep_drewN | apply keep_drew | apply keep_alloc | refine keep_far ?_ GW477.out _ | refine keep_far ?_ GW491.out _) | exact HK.out)⟩, ⟨sqj⟩⟩
        case rest =>
         clear HC49; try clear c1; try clear c2; try clear p2; try clear c3; try clear c4; try clear c5; try clear p6; try clear c7; try clear c8; try clear c9; try clear c11; try clear c16; try clear c17; try clear c20; try clear c20b0; try clear c20b1; try clear c24; try clear c31; try clear c34; try clear c35; try clear c37; try clear c37b0; try clear c37b1; try clear c46; try clear c47; try clear c50; try clear c50b0; try clear c50b1; try clear c51; try clear c51b0; try clear c51b1; try clear c52; try clear c52b0; try clear c52b1; try clear hcz10_0; try clear hcz10_1; try clear hcz12_0; try clear hcz12_1; try clear hcz12_2; try clear hcz12_3; try clear hcz14_0; try clear hcz14_1; try clear hcz17_0; try clear hcz17_1; try clear hcz17_2; try clear hcz17_3; try clear hcz21_0; try clear hcz21_1; try clear hcz23_0; try clear hcz23_1; try clear hcz25_0; try clear hcz25_1; try clear hcz25_2
         try clear hcz25_3; try clear hcz29_0; try clear hcz29_1; try clear hcz36_0; try clear hcz36_1; try clear hcz36_2; try clear hcz36_3; try clear hcz48_0; try clear hcz48_1; try clear hcz48_2; try clear hcz48_3; try clear hcz5_0; try clear hcz5_1; try clear hcz7_0; try clear hcz7_1; try clear hfz10_0; try clear hfz10_1; try clear hfz12_0; try clear hfz12_1; try clear hfz12_2; try clear hfz12_3; try clear hfz14_0; try clear hfz14_1; try clear hfz17_0; try clear hfz17_1; try clear hfz17_2; try clear hfz17_3; try clear hfz21_0; try clear hfz21_1; try clear hfz23_0; try clear hfz23_1; try clear hfz25_0; try clear hfz25_1; try clear hfz25_2; try clear hfz25_3; try clear hfz29_0; try clear hfz29_1; try clear hfz36_0; try clear hfz36_1; try clear hfz36_2; try clear hfz36_3; try clear hfz48_0; try clear hfz48_1; try clear hfz48_2; try clear hfz48_3; try clear hfz5_0; try clear hfz5_1
         try clear hfz7_0; try clear hfz7_1; try clear p2; try clear p6
         obtain ⟨kq, x61_48, rfl, HA, HJ48, HO_492003, BK477, BK491, HI0, HK, HB⟩ := hcut
         cases kq with
         | zero => exact absurd HA.out (by simp [impl_condReader_cond.j2])
         | succ kj48 =>
          have H := HA.out
          clear HA
          simp only [impl_condReader_cond.j2] at H
          have HC53 := Aside0.mk H
          clear H
          have hbx25_ := kbx HX_.out HK.out
          (try have hnx25_477 := kbn HXl_.out GW477.out)
          (try have hny25_477 := (kbn HXl_.out GW477.out).symm)
          (try have hnx25_491 := kbn HXl_.out GW491.out)
          (try have hny25_491 := (kbn HXl_.out GW491.out).symm)
          go_upto_if 61 with (fail)
          go_cut [] (fun wc => ∃ (kq : Nat) (x1000_52 : ByteArray) (x1001_52 : Bool) (x492001_52 : Int), Aside0 (impl_condReader_cond.j3 kq (wrap64 (t487 + 1)) x1000_52 x1001_52 (wrap64 (t487 + 1)) x492001_52 0 x492003_27 = some (r1, r2, r3, r4, r5, r6)) ∧ Aside0 (kq ≤ kj48) ∧ Aside0 (Kd.N k27 27 wc w.heap.size (fun k_ => (w.heap.size ≤ k_) ∧ k_ ≠ gb477 ∧ k_ ≠ gb491 ∧ k_ ≠ g) u492003 x492003_27) ∧ Aside0 (wc.heap[gb477]? = some (.cells #[.int .i64 0, .int .i64 0, .int .i64 0, (.slice none 0 0)] 27 (0, 0))) ∧ Aside0 (wc.heap[gb491]? = some (.cells #[.int .i64 (wrap64 (t487 + 1)), .int .i64 x492001_52, .int .i64 0, u492003] 27 (0, 0))) ∧ Aside0 (IsS42 w0 wc g x1000_52 x1001_52) ∧ Aside0 (KeepBut w wc g none) ∧ Aside0 (Below w0.heap.size w0 wc))
          case first =>
           have H := HC53.out
           clear HC53
           by_cases c54 : x61_48 = true
           ·subst c54
            replace H := iT H
            obtain ⟨⟨t505, t506, t507⟩, A55, H⟩ := bA H
            dsimp only at H
            have H' := Aside0.mk H
            clear H
            have hbx26_ := kbx HX_.out HK.out
            (try have hnx26_477 := kbn HXl_.out GW477.out)
            (try have hny26_477 := (kbn HXl_.out GW477.out).symm)
            (try have hnx26_491 := kbn HXl_.out GW491.out)
            (try have hny26_491 := (kbn HXl_.out GW491.out).symm)
            go_wp2_with (first | ((with_reducible refine gate_callee (f := 35) rfl ?_); refine goesL_ (some 63) rfl rfl Tryd.func35 sqk rfl #[.pointer (some ⟨g, 0, none⟩)] rfl sqm ?_; (with_reducible refine (impl_condReader_number.calls kj48 g x1000_27 x1001_27 t505 t506 t507 w0 _ ?side1 ?side2 A55.out HTab.out).mono ?_); (case side1 => exact sqi); (case side2 => exact sqj); rintro e w56 ⟨rfl, hi, hb, hk⟩; refine ⟨_, rfl, ?_⟩; replace HO_492003 := Aside0.mk (Kd.N_mono (Kd.N_keep (Kd.N_mono (ok := fun k_ => (((w.heap.size ≤ k_)) ∧ (k_ ≠ gb477 ∧ (k_ ≠ gb491 ∧ k_ ≠ g)))) z31_5 (fun k_ hk_ => (⟨hk_, hk_.2.2.2⟩ : _ ∧ k_ ≠ g))) hk (fun _ h => h.2)) (fun _ h => h.1)); replace BK477 := Aside0.mk (KeepBut.blk hk (g' := gb477) (o := .cells #[.int .i64 0, .int .i64 0, .int .i64 0, .slice none 0 0] 27 (0, 0)) (sqb BK477.out) NB477_0.out (by simp)); replace BK491 := Aside0.mk (KeepBut.blk hk (g' := gb491) (o := .cells #[.int .i64 (wrap64 (t487 + 1)), .int .i64 0, .int .i64 0, u492003] 27 (0, 0)) (sqb BK491.out) NB491_0.out (by simp)); replace HK := Aside0.mk (KeepBut.trans z31_0 hk (.inl rfl)); replace HB := Aside0.mk (hb); replace HI0 := Aside0.mk (hi); (try clear hb); (try clear hk); (try clear hi); have hnb57 := NB491_477.out; have hnc57 := NB477_491.out; have hnb58 := NB491_0.out; have hnc58 := NB0_491.out; obtain ⟨hcz59_0, hcz59_1, hcz59_2, hcz59_3, hfz59_0, hfz59_1, hfz59_2, hfz59_3⟩ := sd4 BK491.out; have hbx27_ := kbx HX_.out HK.out; (try have hnx27_477 := kbn HXl_.out GW477.out); (try have hny27_477 := (kbn HXl_.out GW477.out).symm); (try have hnx27_491 := kbn HXl_.out GW491.out); (try have hny27_491 := (kbn HXl_.out GW491.out).symm)))
            go_meet
            case rel => exact ⟨_, (t506), (t507), (t505), H', ⟨by have := HJ1.out; have := HJ27.out; have := HJ48.out; first | omega | exact Nat.le_refl _⟩, ⟨by (with_reducible repeat (first | apply Kd.N_alloc | apply Kd.N_drewN | apply Kd.N_drew)); exact Kd.N_mono (Kd.N_far (p := ⟨gb491, 1, none⟩) (Kd.N_mono HO_492003.out (fun k_ hk => (⟨hk, hk.2.2.1⟩ : _ ∧ k_ ≠ gb491))) (fun _ hk => hk.2) (.int .i64 t505)) (fun _ hk => ⟨hk.1.1, ⟨hk.1.2.1, ⟨hk.1.2.2.1, hk.1.2.2.2⟩⟩⟩)⟩, ⟨bp BK477⟩, ⟨bp BK491⟩, ⟨sqi⟩, ⟨by repeat (first | (with_reducible first | exact HK.out | apply KeepBut.set_ | apply keep_drewN | apply keep_drew | apply keep_alloc | refine keep_far ?_ GW477.out _ | refine keep_far ?_ GW491.out _) | exact HK.out)⟩, ⟨sqj⟩⟩
           ·replace c54 := Bool.eq_false_iff.mpr c54
            subst c54
            replace H := iF H
            have H' := Aside0.mk H
            clear H
            have hbx28_ := kbx HX_.out HK.out
            (try have hnx28_477 := kbn HXl_.out GW477.out)
            (try have hny28_477 := (kbn HXl_.out GW477.out).symm)
            (try have hnx28_491 := kbn HXl_.out GW491.out)
            (try have hny28_491 := (kbn HXl_.out GW491.out).symm)
            go_wp2
            go_meet
            case rel => exact ⟨_, (x1000_27), (x1001_27), (0), H', ⟨by have := HJ1.out; have := HJ27.out; have := HJ48.out; first | omega | exact Nat.le_refl _⟩, ⟨by (with_reducible repeat (first | apply Kd.N_alloc | apply Kd.N_drewN | apply Kd.N_drew)); exact HO_492003.out⟩, ⟨sqb BK477.out⟩, ⟨sqb BK491.out⟩, ⟨sqi⟩, ⟨by repeat (first | (with_reducible first | exact HK.out | apply KeepBut.set_ | apply keep_drewN | apply keep_drew | apply keep_alloc | refine keep_far ?_ GW477.out _ | refine keep_far ?_ GW491.out _) | exact HK.out)⟩, ⟨sqj⟩⟩
          case rest =>
           clear HC53; try clear c1; try clear c2; try clear p2; try clear c3; try clear c4; try clear c5; try clear p6; try clear c7; try clear c8; try clear c9; try clear c11; try clear c16; try clear c17; try clear c20; try clear c20b0; try clear c20b1; try clear c24; try clear c31; try clear c34; try clear c35; try clear c37; try clear c37b0; try clear c37b1; try clear c46; try clear c47; try clear c50; try clear c50b0; try clear c50b1; try clear c51; try clear c51b0; try clear c51b1; try clear c52; try clear c52b0; try clear c52b1; try clear c54; try clear c57; try clear c58; try clear hcz10_0; try clear hcz10_1; try clear hcz12_0; try clear hcz12_1; try clear hcz12_2; try clear hcz12_3; try clear hcz14_0; try clear hcz14_1; try clear hcz17_0; try clear hcz17_1; try clear hcz17_2; try clear hcz17_3; try clear hcz21_0; try clear hcz21_1; try clear hcz23_0; try clear hcz23_1
           try clear hcz25_0; try clear hcz25_1; try clear hcz25_2; try clear hcz25_3; try clear hcz29_0; try clear hcz29_1; try clear hcz36_0; try clear hcz36_1; try clear hcz36_2; try clear hcz36_3; try clear hcz48_0; try clear hcz48_1; try clear hcz48_2; try clear hcz48_3; try clear hcz59_0; try clear hcz59_1; try clear hcz59_2; try clear hcz59_3; try clear hcz5_0; try clear hcz5_1; try clear hcz7_0; try clear hcz7_1; try clear hfz10_0; try clear hfz10_1; try clear hfz12_0; try clear hfz12_1; try clear hfz12_2; try clear hfz12_3; try clear hfz14_0; try clear hfz14_1; try clear hfz17_0; try clear hfz17_1; try clear hfz17_2; try clear hfz17_3; try clear hfz21_0; try clear hfz21_1; try clear hfz23_0; try clear hfz23_1; try clear hfz25_0; try clear hfz25_1; try clear hfz25_2; try clear hfz25_3; try clear hfz29_0; try clear hfz29_1; try clear hfz36_0; try clear hfz36_1; try clear hfz36_2
           try clear hfz36_3; try clear hfz48_0; try clear hfz48_1; try clear hfz48_2; try clear hfz48_3; try clear hfz59_0; try clear hfz59_1; try clear hfz59_2; try clear hfz59_3; try clear hfz5_0; try clear hfz5_1; try clear hfz7_0; try clear hfz7_1; try clear p2; try clear p6
           obtain ⟨kq, x1000_52, x1001_52, x492001_52, HA, HJ52, HO_492003, BK477, BK491, HI0, HK, HB⟩ := hcut
           cases kq with
           | zero => exact absurd HA.out (by simp [impl_condReader_cond.j3])
           | succ kj52 =>
            have H := HA.out
            clear HA
            simp only [impl_condReader_cond.j3] at H
            obtain ⟨t508, A60, H⟩ := bA H
            by_cases c61 : t508 = true
            ·subst c61
             replace H := iT H
             obtain ⟨⟨t509, t510, t511⟩, A62, H⟩ := bA H
             dsimp only at H
             simp only [Option.some.injEq, Prod.mk.injEq] at H
             obtain ⟨rfl, rfl, rfl, rfl, rfl, rfl⟩ := H
             have hbx29_ := kbx HX_.out HK.out
             (try have hnx29_477 := kbn HXl_.out GW477.out)
             (try have hny29_477 := (kbn HXl_.out GW477.out).symm)
             (try have hnx29_491 := kbn HXl_.out GW491.out)
             (try have hny29_491 := (kbn HXl_.out GW491.out).symm)
             go_wp2_with (first | ((with_reducible refine gate_callee (f := 36) rfl ?_); refine goesL_ (some 66) rfl rfl Tryd.func36 sqk rfl #[.int .i64 (wrap64 (t487 + 1)), .int .i64 2, .int .i64 5] rfl sqm ?_; (with_reducible refine (impl_InRange.calls (wrap64 (t487 + 1)) 2 5 true _ A60.out).mono ?_); rintro e w' ⟨rfl, ⟨nd, rfl⟩⟩; refine ⟨_, rfl, ?_⟩; (try (rw [drewN_self wc]; generalize hq_ : World.drewN wc _ = wc; have n0_ : Aside0 (Kd.N k27 27 wc w.heap.size (fun k_ => (w.heap.size ≤ k_) ∧ k_ ≠ gb477 ∧ k_ ≠ gb491 ∧ k_ ≠ g) u492003 x492003_27) := ⟨by rw [← hq_]; exact z31_5⟩; have n1_ : Aside0 (wc.heap[gb477]? = some (.cells #[.int .i64 0, .int .i64 0, .int .i64 0, .slice none 0 0] 27 (0, 0))) := ⟨by rw [← hq_]; exact (sqb BK477.out)⟩; have n2_ : Aside0 (wc.heap[gb491]? = some (.cells #[.int .i64 (wrap64 (t487 + 1)), .int .i64 x492001_52, .int .i64 0, u492003] 27 (0, 0))) := ⟨by rw [← hq_]; exact (sqb BK491.out)⟩; have n3_ : Aside0 (IsS42 w0 wc g x1000_52 x1001_52) := ⟨by rw [← hq_]; exact sqi⟩; have n4_ : Aside0 (KeepBut w wc g none) := ⟨by rw [← hq_]; exact z31_0⟩; have n5_ : Aside0 (Below w0.heap.size w0 wc) := ⟨by rw [← hq_]; exact sqj⟩; clear HO_492003 BK477 BK491 HI0 HK HB hq_; have HO_492003 := n0_; have BK477 := n1_; have BK491 := n2_; have HI0 := n3_; have HK := n4_; have HB := n5_; clear n0_ n1_ n2_ n3_ n4_ n5_)); have hbx30_ := kbx HX_.out HK.out; (try have hnx30_477 := kbn HXl_.out GW477.out); (try have hny30_477 := (kbn HXl_.out GW477.out).symm); (try have hnx30_491 := kbn HXl_.out GW491.out); (try have hny30_491 := (kbn HXl_.out GW491.out).symm)) | ((with_reducible refine gate_callee (f := 35) rfl ?_); refine goesL_ (some 68) rfl rfl Tryd.func35 sqk rfl #[.pointer (some ⟨g, 0, none⟩)] rfl sqm ?_; (with_reducible refine (impl_condReader_number.calls kj52 g x1000_52 x1001_52 t509 t510 t511 w0 _ ?side1 ?side2 A62.out HTab.out).mono ?_); (case side1 => exact sqi); (case side2 => exact sqj); rintro e w63 ⟨rfl, hi, hb, hk⟩; refine ⟨_, rfl, ?_⟩; replace HO_492003 := Aside0.mk (Kd.N_mono (Kd.N_keep (Kd.N_mono (ok := fun k_ => (((w.heap.size ≤ k_)) ∧ (k_ ≠ gb477 ∧ (k_ ≠ gb491 ∧ k_ ≠ g)))) z31_5 (fun k_ hk_ => (⟨hk_, hk_.2.2.2⟩ : _ ∧ k_ ≠ g))) hk (fun _ h => h.2)) (fun _ h => h.1)); replace BK477 := Aside0.mk (KeepBut.blk hk (g' := gb477) (o := .cells #[.int .i64 0, .int .i64 0, .int .i64 0, .slice none 0 0] 27 (0, 0)) (sqb BK477.out) NB477_0.out (by simp)); replace BK491 := Aside0.mk (KeepBut.blk hk (g' := gb491) (o := .cells #[.int .i64 (wrap64 (t487 + 1)), .int .i64 x492001_52, .int .i64 0, u492003] 27 (0, 0)) (sqb BK491.out) NB491_0.out (by simp)); replace HK := Aside0.mk (KeepBut.trans z31_0 hk (.inl rfl)); replace HB := Aside0.mk (hb); replace HI0 := Aside0.mk (hi); (try clear hb); (try clear hk); (try clear hi); have hnb64 := NB491_477.out; have hnc64 := NB477_491.out; have hnb65 := NB491_0.out; have hnc65 := NB0_491.out; obtain ⟨hcz66_0, hcz66_1, hcz66_2, hcz66_3, hfz66_0, hfz66_1, hfz66_2, hfz66_3⟩ := sd4 BK491.out; have hnb67 := NB477_0.out; have hnc67 := NB0_477.out; obtain ⟨hcz68_0, hcz68_1, hcz68_2, hcz68_3, hfz68_0, hfz68_1, hfz68_2, hfz68_3⟩ := sd4 BK477.out; obtain ⟨Ao69, co69, eo69⟩ := Kd.N_slice HO_492003.out; subst eo69; have hbx31_ := kbx HX_.out HK.out; (try have hnx31_477 := kbn HXl_.out GW477.out); (try have hny31_477 := (kbn HXl_.out GW477.out).symm); (try have hnx31_491 := kbn HXl_.out GW491.out); (try have hny31_491 := (kbn HXl_.out GW491.out).symm)))
             refine bodyPost_ret (results_cell_row rfl _ _ gb477 27 #[.int .i64 (wrap64 (t487 + 1)), .int .i64 x492001_52, .int .i64 t509, .slice Ao69 x492003_27.length co69] (0, 0) _ rfl ?_ Tryd.underlying27 rfl sqk) rfl ?_; exact bp BK477
             refine condUp HA_.out ?_
             exact ⟨_, sqe, by (with_reducible repeat (first | apply Kd.N_alloc | apply Kd.N_drewN | apply Kd.N_drew)); exact Kd.N_mono (Kd.N_far (p := ⟨gb477, 3, none⟩) (Kd.N_far (p := ⟨gb477, 2, none⟩) (Kd.N_far (p := ⟨gb477, 1, none⟩) (Kd.N_far (p := ⟨gb477, 0, none⟩) (Kd.N_far (p := ⟨gb491, 2, none⟩) (Kd.N_mono (Kd.N_mono HO_492003.out (fun k_ hk => (⟨hk, hk.2.2.1⟩ : _ ∧ k_ ≠ gb491))) (fun k_ hk => (⟨hk, hk.1.2.1⟩ : _ ∧ k_ ≠ gb477))) (fun _ hk => hk.1.2) (.int .i64 t509)) (fun _ hk => hk.2) (.int .i64 (wrap64 (t487 + 1)))) (fun _ hk => hk.2) (.int .i64 x492001_52)) (fun _ hk => hk.2) (.int .i64 t509)) (fun _ hk => hk.2) (.slice Ao69 x492003_27.length co69)) (fun _ hk => hk.1.1.1), sqi, sqj, by repeat (first | (with_reducible first | exact HK.out | apply KeepBut.set_ | apply keep_drewN | apply keep_drew | apply keep_alloc | refine keep_far ?_ GW477.out _ | refine keep_far ?_ GW491.out _) | exact HK.out)⟩
            ·replace c61 := Bool.eq_false_iff.mpr c61
             subst c61
             replace H := iF H
             simp only [Option.some.injEq, Prod.mk.injEq] at H
             obtain ⟨rfl, rfl, rfl, rfl, rfl, rfl⟩ := H
             have hbx32_ := kbx HX_.out HK.out
             (try have hnx32_477 := kbn HXl_.out GW477.out)
             (try have hny32_477 := (kbn HXl_.out GW477.out).symm)
             (try have hnx32_491 := kbn HXl_.out GW491.out)
             (try have hny32_491 := (kbn HXl_.out GW491.out).symm)
             go_wp2_with (first | ((with_reducible refine gate_callee (f := 36) rfl ?_); refine goesL_ (some 66) rfl rfl Tryd.func36 sqk rfl #[.int .i64 (wrap64 (t487 + 1)), .int .i64 2, .int .i64 5] rfl sqm ?_; (with_reducible refine (impl_InRange.calls (wrap64 (t487 + 1)) 2 5 false _ A60.out).mono ?_); rintro e w' ⟨rfl, ⟨nd, rfl⟩⟩; refine ⟨_, rfl, ?_⟩; (try (rw [drewN_self wc]; generalize hq_ : World.drewN wc _ = wc; have n0_ : Aside0 (Kd.N k27 27 wc w.heap.size (fun k_ => (w.heap.size ≤ k_) ∧ k_ ≠ gb477 ∧ k_ ≠ gb491 ∧ k_ ≠ g) u492003 x492003_27) := ⟨by rw [← hq_]; exact z31_5⟩; have n1_ : Aside0 (wc.heap[gb477]? = some (.cells #[.int .i64 0, .int .i64 0, .int .i64 0, .slice none 0 0] 27 (0, 0))) := ⟨by rw [← hq_]; exact (sqb BK477.out)⟩; have n2_ : Aside0 (wc.heap[gb491]? = some (.cells #[.int .i64 (wrap64 (t487 + 1)), .int .i64 x492001_52, .int .i64 0, u492003] 27 (0, 0))) := ⟨by rw [← hq_]; exact (sqb BK491.out)⟩; have n3_ : Aside0 (IsS42 w0 wc g x1000_52 x1001_52) := ⟨by rw [← hq_]; exact sqi⟩; have n4_ : Aside0 (KeepBut w wc g none) := ⟨by rw [← hq_]; exact z31_0⟩; have n5_ : Aside0 (Below w0.heap.size w0 wc) := ⟨by rw [← hq_]; exact sqj⟩; clear HO_492003 BK477 BK491 HI0 HK HB hq_; have HO_492003 := n0_; have BK477 := n1_; have BK491 := n2_; have HI0 := n3_; have HK := n4_; have HB := n5_; clear n0_ n1_ n2_ n3_ n4_ n5_; have hcz72_0 : wc.cell? ⟨gb491, 0, none⟩ = some (.int .i64 (wrap64 (t487 + 1))) := (blk_cell BK491.out 0).trans rfl; have hcz72_1 : wc.cell? ⟨gb491, 1, none⟩ = some (.int .i64 x492001_52) := (blk_cell BK491.out 1).trans rfl; have hcz72_2 : wc.cell? ⟨gb491, 2, none⟩ = some (.int .i64 0) := (blk_cell BK491.out 2).trans rfl; have hcz72_3 : wc.cell? ⟨gb491, 3, none⟩ = some (u492003) := (blk_cell BK491.out 3).trans rfl; have hcz74_0 : wc.cell? ⟨gb477, 0, none⟩ = some (.int .i64 0) := (blk_cell BK477.out 0).trans rfl; have hcz74_1 : wc.cell? ⟨gb477, 1, none⟩ = some (.int .i64 0) := (blk_cell BK477.out 1).trans rfl; have hcz74_2 : wc.cell? ⟨gb477, 2, none⟩ = some (.int .i64 0) := (blk_cell BK477.out 2).trans rfl; have hcz74_3 : wc.cell? ⟨gb477, 3, none⟩ = some (.slice none 0 0) := (blk_cell BK477.out 3).trans rfl; have hfz72_0 := blk_frozen BK491.out 0; have hfz72_1 := blk_frozen BK491.out 1; have hfz72_2 := blk_frozen BK491.out 2; have hfz72_3 := blk_frozen BK491.out 3; have hfz74_0 := blk_frozen BK477.out 0; have hfz74_1 := blk_frozen BK477.out 1; have hfz74_2 := blk_frozen BK477.out 2; have hfz74_3 := blk_frozen BK477.out 3)); have hnb70 := NB491_477.out; have hnc70 := NB477_491.out; have hnb71 := NB491_0.out; have hnc71 := NB0_491.out; obtain ⟨hcz72_0, hcz72_1, hcz72_2, hcz72_3, hfz72_0, hfz72_1, hfz72_2, hfz72_3⟩ := sd4 BK491.out; have hnb73 := NB477_0.out; have hnc73 := NB0_477.out; obtain ⟨hcz74_0, hcz74_1, hcz74_2, hcz74_3, hfz74_0, hfz74_1, hfz74_2, hfz74_3⟩ := sd4 BK477.out; obtain ⟨Ao75, co75, eo75⟩ := Kd.N_slice HO_492003.out; subst eo75; have hbx33_ := kbx HX_.out HK.out; (try have hnx33_477 := kbn HXl_.out GW477.out); (try have hny33_477 := (kbn HXl_.out GW477.out).symm); (try have hnx33_491 := kbn HXl_.out GW491.out); (try have hny33_491 := (kbn HXl_.out GW491.out).symm)))
             refine bodyPost_ret (results_cell_row rfl _ _ gb477 27 #[.int .i64 (wrap64 (t487 + 1)), .int .i64 x492001_52, .int .i64 0, .slice Ao75 x492003_27.length co75] (0, 0) _ rfl ?_ Tryd.underlying27 rfl sqk) rfl ?_; exact bp BK477
             refine condUp HA_.out ?_
             exact ⟨_, sqe, by (with_reducible repeat (first | apply Kd.N_alloc | apply Kd.N_drewN | apply Kd.N_drew)); exact Kd.N_mono (Kd.N_far (p := ⟨gb477, 3, none⟩) (Kd.N_far (p := ⟨gb477, 2, none⟩) (Kd.N_far (p := ⟨gb477, 1, none⟩) (Kd.N_far (p := ⟨gb477, 0, none⟩) (Kd.N_mono HO_492003.out (fun k_ hk => (⟨hk, hk.2.1⟩ : _ ∧ k_ ≠ gb477))) (fun _ hk => hk.2) (.int .i64 (wrap64 (t487 + 1)))) (fun _ hk => hk.2) (.int .i64 x492001_52)) (fun _ hk => hk.2) (.int .i64 0)) (fun _ hk => hk.2) (.slice Ao75 x492003_27.length co75)) (fun _ hk => hk.1.1), sqi, sqj, by repeat (first | (with_reducible first | exact HK.out | apply KeepBut.set_ | apply keep_drewN | apply keep_drew | apply keep_alloc | refine keep_far ?_ GW477.out _ | refine keep_far ?_ GW491.out _) | exact HK.out)⟩
 ·intro g s0_0 s0_1 r1 r2 r3 r4 r5 r6 w0 w hI hB h hT
  cases k with
  | zero => exact absurd h (by simp [impl_condReader_both.f])
  | succ k =>
  simp only [impl_condReader_both.f] at h
  have hu27 := Tryd.underlying27
  have HI0 := Aside0.mk hI
  have HK := Aside0.mk (KeepBut.refl w g none)
  have HL := Aside0.mk hB.size
  clear hI
  have HW0 := Aside0.mk hB.size
  have HB := Aside0.mk hB
  clear hB
  have HTab := Aside0.mk hT
  clear hT
  have H : ((impl_condReader_need.f s0_0 s0_1 (⟨#[40]⟩ : ByteArray)).bind fun bt440 => ((impl_condReader_cond.f k bt440.1 bt440.2).bind fun bt442 => ((strings_HasPrefix.f bt442.2.2.2.2.1 (⟨#[32, 97, 110, 100, 32]⟩ : ByteArray)).bind fun t451 => (if t451 = true then (impl_condReader_both.j0 k 8 bt442.2.2.2.2.1 bt442.2.2.2.2.2 bt442.1 bt442.2.1 bt442.2.2.1 bt442.2.2.2.1) else (impl_condReader_both.j0 k 9 bt442.2.2.2.2.1 bt442.2.2.2.2.2 bt442.1 bt442.2.1 bt442.2.2.1 bt442.2.2.2.1))))) = some (r1, r2, r3, r4, r5, r6) := h
  clear h
  obtain ⟨⟨t440, t441⟩, A2, H⟩ := bA H
  dsimp only at H
  obtain ⟨⟨t442, t443, t444, t445, t448, t449⟩, A3, H⟩ := bA H
  dsimp only at H
  obtain ⟨t451, A4, H⟩ := bA H
  have HC5 := Aside0.mk H
  clear H
  go_enter Tryd.func31, Tryd.ntmps31
  go_upto_if 14 with (first | ((with_reducible refine gate_dst (N := 2) rfl ?_); refine bx (N := 2) (cs := #[.int .i64 0, .int .i64 0, .int .i64 0, .slice none 0 0]) (t := 27) ?_; intro gb439 hg w6 hbox hb; replace HB := Aside0.mk (below_step sqj hb); have BK439 := Aside0.mk (hbox); have GW439 := Aside0.mk ((by rw [hg]; exact (keep_size (w := w) (g := g) (row := none) sqp) : w.heap.size ≤ gb439)); have GE439 := Aside0.mk ((Nat.le_trans HW0.out (by rw [hg]; exact (keep_size (w := w) (g := g) (row := none) sqp) : w.heap.size ≤ gb439) : w0.heap.size ≤ gb439)); replace HK := Aside0.mk (KeepBut.trans sqp (KeepBut.of_below hb g none) (.inl rfl)); have NB0_439 := Aside0.mk ((by rw [hg]; exact Nat.ne_of_lt (IsS42.lt (show IsS42 w0 _ g s0_0 s0_1 from sqi)) : g ≠ gb439)); have NB439_0 := Aside0.mk ((by rw [hg]; exact Nat.ne_of_gt (IsS42.lt (show IsS42 w0 _ g s0_0 s0_1 from sqi)) : gb439 ≠ g)); replace HI0 := Aside0.mk (IsS42.below sqi hb); clear hb hbox hg) | ((with_reducible refine gate_callee (f := 34) rfl ?_); refine goesL_ (some 7) rfl rfl Tryd.func34 sqk rfl #[.pointer (some ⟨g, 0, none⟩), .string (⟨#[40]⟩ : ByteArray)] rfl sqm ?_; (with_reducible refine (impl_condReader_need.calls g s0_0 s0_1 (⟨#[40]⟩ : ByteArray) t440 t441 w0 _ ?side1 ?side2 A2.out).mono ?_); (case side1 => exact sqi); (case side2 => exact sqj); rintro e w7 ⟨rfl, hi, hb, hk⟩; refine ⟨_, rfl, ?_⟩; replace BK439 := Aside0.mk (KeepBut.blk hk (g' := gb439) (o := .cells #[.int .i64 0, .int .i64 0, .int .i64 0, .slice none 0 0] 27 (0, 0)) (sqb BK439.out) NB439_0.out (by simp)); replace HK := Aside0.mk (KeepBut.trans z31_3 hk (.inl rfl)); replace HB := Aside0.mk (hb); replace HI0 := Aside0.mk (hi); (try clear hb); (try clear hk); (try clear hi)) | ((with_reducible refine gate_callee (f := 17) rfl ?_); refine goesL_ (some 9) rfl rfl Tryd.func17 sqk rfl #[.pointer (some ⟨g, 0, none⟩)] rfl sqm ?_; (with_reducible refine (ih17 k (by omega) g t440 t441 t442 t443 t444 t445 t448 t449 w0 _ ?side1 ?side2 A3.out HTab.out).mono ?_); (case side1 => exact sqi); (case side2 => exact sqj); rintro e w8 ⟨v446, rfl, ho0, hi, hb, hk⟩; refine ⟨_, rfl, ?_⟩; have HO447 := Aside0.mk (Kd.N_lower (Kd.N_mono (ok' := fun k_ => (w.heap.size ≤ k_) ∧ k_ ≠ gb439 ∧ k_ ≠ g) ho0 (fun k_ hk_ => ⟨(Nat.le_trans (keep_size (w := w) (g := g) (row := none) z31_3) hk_), (Kd.freshB (bo BK439) k_ hk_), (IsS42.fresh sqi k_ hk_)⟩)) (keep_size (w := w) (g := g) (row := none) z31_3)); replace BK439 := Aside0.mk (KeepBut.blk hk (g' := gb439) (o := .cells #[.int .i64 0, .int .i64 0, .int .i64 0, .slice none 0 0] 27 (0, 0)) (sqb BK439.out) NB439_0.out (by simp)); replace HK := Aside0.mk (KeepBut.trans z31_3 hk (.inl rfl)); replace HB := Aside0.mk (hb); replace HI0 := Aside0.mk (hi); (try clear hb); (try clear hk); (try clear hi); (try clear ho0)) | ((with_reducible refine gate_dst (N := 3) rfl ?_); refine bx (N := 3) (cs := #[.int .i64 0, .int .i64 0, .int .i64 0, .slice none 0 0]) (t := 27) ?_; intro gb450 hg w9 hbox hb; replace HO447 := Aside0.mk (Kd.N_below (Kd.N_elderB (by (with_reducible repeat (first | apply Kd.N_alloc | apply Kd.N_drewN | apply Kd.N_drew)); exact HO447.out) gb450 (Nat.le_of_eq hg.symm)) hb); replace HB := Aside0.mk (below_step sqj hb); have BK450 := Aside0.mk (hbox); have GW450 := Aside0.mk ((by rw [hg]; exact (keep_size (w := w) (g := g) (row := none) z31_3) : w.heap.size ≤ gb450)); have GE450 := Aside0.mk ((Nat.le_trans HW0.out (by rw [hg]; exact (keep_size (w := w) (g := g) (row := none) z31_3) : w.heap.size ≤ gb450) : w0.heap.size ≤ gb450)); replace HK := Aside0.mk (KeepBut.trans z31_3 (KeepBut.of_below hb g none) (.inl rfl)); have NB439_450 := Aside0.mk ((by rw [hg]; exact Nat.ne_of_lt (blk_lt (bo BK439)) : gb439 ≠ gb450)); have NB450_439 := Aside0.mk ((by rw [hg]; exact Nat.ne_of_gt (blk_lt (bo BK439)) : gb450 ≠ gb439)); replace BK439 := Aside0.mk (blk_below (bo BK439) hb); have NB0_450 := Aside0.mk ((by rw [hg]; exact Nat.ne_of_lt (IsS42.lt (show IsS42 w0 _ g t448 t449 from sqi)) : g ≠ gb450)); have NB450_0 := Aside0.mk ((by rw [hg]; exact Nat.ne_of_gt (IsS42.lt (show IsS42 w0 _ g t448 t449 from sqi)) : gb450 ≠ g)); replace HI0 := Aside0.mk (IsS42.below sqi hb); clear hb hbox hg; have hnb10 := NB450_439.out; have hnc10 := NB439_450.out; have hnb11 := NB450_0.out; have hnc11 := NB0_450.out; obtain ⟨hcz12_0, hcz12_1, hcz12_2, hcz12_3, hfz12_0, hfz12_1, hfz12_2, hfz12_3⟩ := sd4 BK450.out; obtain ⟨Ao13, co13, eo13⟩ := Kd.N_slice HO447.out; subst eo13; obtain ⟨HGz14, hgz14⟩ := HI0.out; have hcz14_0 := cellS42_0 HGz14; have hcz14_1 := cellS42_1 HGz14; have hfz14_0 := blk_frozen HGz14 0; have hfz14_1 := blk_frozen HGz14 1; clear HGz14 hgz14) | ((with_reducible refine gate_callee (f := 30) rfl ?_); refine goesL_ (some 14) rfl rfl Tryd.func30 sqk rfl #[.string t448, .string (⟨#[32, 97, 110, 100, 32]⟩ : ByteArray)] rfl sqm ?_; (with_reducible refine (strings_HasPrefix.calls t448 (⟨#[32, 97, 110, 100, 32]⟩ : ByteArray) t451 _ A4.out).mono ?_); rintro e w' ⟨rfl, ⟨nd, rfl⟩⟩; refine ⟨_, rfl, ?_⟩))
  (try simp only [Act.put, List.setIfInBounds_toArray, List.set_cons_zero, List.set_cons_succ])
  go_cut [4] (fun v4 wc => ∃ (kq : Nat) (x4_4 : Int), v4 = .int .i64 x4_4 ∧ Aside0 (impl_condReader_both.j0 kq x4_4 t448 t449 t442 t443 t444 t445 = some (r1, r2, r3, r4, r5, r6)) ∧ Aside0 (kq ≤ k) ∧ Aside0 (Kd.N k27 27 wc w.heap.size (fun k_ => (w.heap.size ≤ k_) ∧ k_ ≠ gb439 ∧ k_ ≠ gb450 ∧ k_ ≠ g) (.slice Ao13 t445.length co13) t445) ∧ Aside0 (wc.heap[gb439]? = some (.cells #[.int .i64 0, .int .i64 0, .int .i64 0, (.slice none 0 0)] 27 (0, 0))) ∧ Aside0 (wc.heap[gb450]? = some (.cells #[.int .i64 t442, .int .i64 t443, .int .i64 t444, (.slice Ao13 t445.length co13)] 27 (0, 0))) ∧ Aside0 (IsS42 w0 wc g t448 t449) ∧ Aside0 (KeepBut w wc g none) ∧ Aside0 (Below w0.heap.size w0 wc))
  case first =>
   have H := HC5.out
   clear HC5
   by_cases c15 : t451 = true
   ·subst c15
    replace H := iT H
    have H' := Aside0.mk H
    clear H
    go_wp2
    go_meet
    case rel => exact ⟨_, (8), sqr, H', ⟨sqo⟩, ⟨by (with_reducible repeat (first | apply Kd.N_alloc | apply Kd.N_drewN | apply Kd.N_drew)); exact Kd.N_mono (Kd.N_far (p := ⟨gb450, 3, none⟩) (Kd.N_far (p := ⟨gb450, 2, none⟩) (Kd.N_far (p := ⟨gb450, 1, none⟩) (Kd.N_far (p := ⟨gb450, 0, none⟩) (Kd.N_mono HO447.out (fun k_ hk => (⟨hk, hk.2⟩ : _ ∧ k_ ≠ gb450))) (fun _ hk => hk.2) (.int .i64 t442)) (fun _ hk => hk.2) (.int .i64 t443)) (fun _ hk => hk.2) (.int .i64 t444)) (fun _ hk => hk.2) (.slice Ao13 t445.length co13)) (fun _ hk => ⟨hk.1.1.1, ⟨hk.1.1.2.1, ⟨hk.1.2, hk.1.1.2.2⟩⟩⟩)⟩, ⟨bp BK439⟩, ⟨bp BK450⟩, ⟨sqi⟩, ⟨by repeat (first | (with_reducible first | exact HK.out | apply KeepBut.set_ | apply keep_drewN | apply keep_drew | apply keep_alloc | refine keep_far ?_ GW439.out _ | refine keep_far ?_ GW450.out _) | exact HK.out)⟩, ⟨sqj⟩⟩
   ·replace c15 := Bool.eq_false_iff.mpr c15
    subst c15
    replace H := iF H
    have H' := Aside0.mk H
    clear H
    go_wp2
    go_meet
    case rel => exact ⟨_, (9), sqr, H', ⟨sqo⟩, ⟨by (with_reducible repeat (first | apply Kd.N_alloc | apply Kd.N_drewN | apply Kd.N_drew)); exact Kd.N_mono (Kd.N_far (p := ⟨gb450, 3, none⟩) (Kd.N_far (p := ⟨gb450, 2, none⟩) (Kd.N_far (p := ⟨gb450, 1, none⟩) (Kd.N_far (p := ⟨gb450, 0, none⟩) (Kd.N_mono HO447.out (fun k_ hk => (⟨hk, hk.2⟩ : _ ∧ k_ ≠ gb450))) (fun _ hk => hk.2) (.int .i64 t442)) (fun _ hk => hk.2) (.int .i64 t443)) (fun _ hk => hk.2) (.int .i64 t444)) (fun _ hk => hk.2) (.slice Ao13 t445.length co13)) (fun _ hk => ⟨hk.1.1.1, ⟨hk.1.1.2.1, ⟨hk.1.2, hk.1.1.2.2⟩⟩⟩)⟩, ⟨bp BK439⟩, ⟨bp BK450⟩, ⟨sqi⟩, ⟨by repeat (first | (with_reducible first | exact HK.out | apply KeepBut.set_ | apply keep_drewN | apply keep_drew | apply keep_alloc | refine keep_far ?_ GW439.out _ | refine keep_far ?_ GW450.out _) | exact HK.out)⟩, ⟨sqj⟩⟩
  case rest =>
   clear HC5; try clear c1; try clear p2; try clear c3; try clear c10; try clear c11; try clear c15; try clear hcz12_0; try clear hcz12_1; try clear hcz12_2; try clear hcz12_3; try clear hcz14_0; try clear hcz14_1; try clear hfz12_0; try clear hfz12_1; try clear hfz12_2; try clear hfz12_3; try clear hfz14_0; try clear hfz14_1
   obtain ⟨kq, x4_4, rfl, HA, HJ4, HO_451003, BK439, BK450, HI0, HK, HB⟩ := hcut
   cases kq with
   | zero => exact absurd HA.out (by simp [impl_condReader_both.j0])
   | succ kj4 =>
    have H := HA.out
    clear HA
    simp only [impl_condReader_both.j0] at H
    obtain ⟨t452, A16, H⟩ := bA H
    by_cases c17 : 1 + t452.size ≤ 9223372036854775807
    ·rw [if_pos c17] at H
     have c17b0 := eq_true c17
     have c17b1 : decide (1 + t452.size ≤ 9223372036854775807) = true := decide_eq_true c17
     try have c17b2 : (9223372036854775807 < 1 + t452.size) = False := eq_false (Nat.not_lt.2 c17)
     by_cases c18 : ((⟨#[32]⟩ : ByteArray) ++ t452).size + 1 ≤ 9223372036854775807
     ·rw [if_pos c18] at H
      have c18b0 := eq_true c18
      have c18b1 : decide (((⟨#[32]⟩ : ByteArray) ++ t452).size + 1 ≤ 9223372036854775807) = true := decide_eq_true c18
      try have c18b2 : (9223372036854775807 < ((⟨#[32]⟩ : ByteArray) ++ t452).size + 1) = False := eq_false (Nat.not_lt.2 c18)
      try have c18b3 : (9223372036854775807 < 1 + t452.size + 1) = False := eq_false (Nat.not_lt.2 (show 1 + t452.size + 1 ≤ 9223372036854775807 from by have hh := c18; simp only [ByteArray.size_append] at hh; exact hh))
      try have c18b3 : (9223372036854775807 < 1 + t452.size + 1) = False := eq_false (Nat.not_lt.2 (show 1 + t452.size + 1 ≤ 9223372036854775807 from by have hh := c18; simp only [ByteArray.size_append] at hh; exact hh))
      obtain ⟨⟨t453, t454⟩, A19, H⟩ := bA H
      dsimp only at H
      obtain ⟨⟨t455, t456, t457, t458, t461, t462⟩, A20, H⟩ := bA H
      dsimp only at H
      obtain ⟨⟨t464, t465⟩, A21, H⟩ := bA H
      dsimp only at H
      obtain ⟨y466, hy466⟩ : ∃ y_ : List (S27), y_ = (([(⟨t442, t443, t444, t445⟩ : S27), (⟨t455, t456, t457, t458⟩ : S27)] : List (S27))) := ⟨_, rfl⟩
      replace H : (some (x4_4, 0, 0, y466, t464, t465)) = some (r1, r2, r3, r4, r5, r6) := by first | (rw [hy466]; with_reducible exact H) | (have H2_ := (Option.bind_some _ _).symm.trans H; rw [hy466]; with_reducible exact H2_) | (have H2_ := (Option.bind_some _ _).symm.trans H; with_reducible exact H2_) | with_reducible exact H | (rw [hy466]; exact H) | exact H
      have Ny466 := Aside0.mk hy466
      clear hy466
      simp only [Option.some.injEq, Prod.mk.injEq] at H
      obtain ⟨rfl, rfl, rfl, rfl, rfl, rfl⟩ := H
      obtain ⟨hlo, hhi, hgl⟩ := (HTab.out.below HB.out).at A16.out
      have hlo1 := eq_true hlo
      have hhi1 := eq_true hhi
      have hlo2 := decide_eq_true hlo
      have hhi2 := decide_eq_true hhi
      have hhi3 : (Int.toNat _ < 10) = True := eq_true ((Int.toNat_lt hlo).2 hhi)
      go_wp2_with (first | ((with_reducible refine gate_callee (f := 34) rfl ?_); refine goesL_ (some 21) rfl rfl Tryd.func34 sqk rfl #[.pointer (some ⟨g, 0, none⟩), .string (((⟨#[32]⟩ : ByteArray) ++ t452) ++ (⟨#[32]⟩ : ByteArray))] rfl sqm ?_; (with_reducible refine (impl_condReader_need.calls g t448 t449 (((⟨#[32]⟩ : ByteArray) ++ t452) ++ (⟨#[32]⟩ : ByteArray)) t453 t454 w0 _ ?side1 ?side2 A19.out).mono ?_); (case side1 => exact sqi); (case side2 => exact sqj); rintro e w23 ⟨rfl, hi, hb, hk⟩; refine ⟨_, rfl, ?_⟩; replace HO_451003 := Aside0.mk (Kd.N_mono (Kd.N_keep (Kd.N_mono (ok := fun k_ => (((w.heap.size ≤ k_)) ∧ (k_ ≠ gb439 ∧ (k_ ≠ gb450 ∧ k_ ≠ g)))) z31_6 (fun k_ hk_ => (⟨hk_, hk_.2.2.2⟩ : _ ∧ k_ ≠ g))) hk (fun _ h => h.2)) (fun _ h => h.1)); replace BK439 := Aside0.mk (KeepBut.blk hk (g' := gb439) (o := .cells #[.int .i64 0, .int .i64 0, .int .i64 0, .slice none 0 0] 27 (0, 0)) (sqb BK439.out) NB439_0.out (by simp)); replace BK450 := Aside0.mk (KeepBut.blk hk (g' := gb450) (o := .cells #[.int .i64 t442, .int .i64 t443, .int .i64 t444, .slice Ao13 t445.length co13] 27 (0, 0)) (sqb BK450.out) NB450_0.out (by simp)); replace HK := Aside0.mk (KeepBut.trans z31_2 hk (.inl rfl)); replace HB := Aside0.mk (hb); replace HI0 := Aside0.mk (hi); (try clear hb); (try clear hk); (try clear hi)) | ((with_reducible refine gate_callee (f := 17) rfl ?_); refine goesL_ (some 23) rfl rfl Tryd.func17 sqk rfl #[.pointer (some ⟨g, 0, none⟩)] rfl sqm ?_; (with_reducible refine (ih17 kj4 (by have := HJ4.out; omega) g t453 t454 t455 t456 t457 t458 t461 t462 w0 _ ?side1 ?side2 A20.out HTab.out).mono ?_); (case side1 => exact sqi); (case side2 => exact sqj); rintro e w24 ⟨v459, rfl, ho0, hi, hb, hk⟩; refine ⟨_, rfl, ?_⟩; have HO460 := Aside0.mk (Kd.N_lower (Kd.N_mono (ok' := fun k_ => (w.heap.size ≤ k_) ∧ some k_ ≠ (.slice Ao13 t445.length co13 : Value).ownBlock ∧ k_ ≠ gb439 ∧ k_ ≠ gb450 ∧ k_ ≠ g) ho0 (fun k_ hk_ => ⟨(Nat.le_trans (keep_size (w := w) (g := g) (row := none) z31_2) hk_), (Kd.fresh' (Kd.N_lt z31_6) k_ hk_), (Kd.freshB (bo BK439) k_ hk_), (Kd.freshB (bo BK450) k_ hk_), (IsS42.fresh sqi k_ hk_)⟩)) (keep_size (w := w) (g := g) (row := none) z31_2)); replace HO_451003 := Aside0.mk (Kd.N_mono (Kd.N_told (Kd.N_oldK (Kd.N_mono (ok := fun k_ => (((w.heap.size ≤ k_)) ∧ (k_ ≠ gb439 ∧ (k_ ≠ gb450 ∧ k_ ≠ g)))) z31_6 (fun k_ hk_ => (⟨hk_, hk_.2.2.2⟩ : _ ∧ k_ ≠ g))) hk) (Kd.N_base ho0)) (fun _ h_ => h_.1)); replace BK439 := Aside0.mk (KeepBut.blk hk (g' := gb439) (o := .cells #[.int .i64 0, .int .i64 0, .int .i64 0, .slice none 0 0] 27 (0, 0)) (sqb BK439.out) NB439_0.out (by simp)); replace BK450 := Aside0.mk (KeepBut.blk hk (g' := gb450) (o := .cells #[.int .i64 t442, .int .i64 t443, .int .i64 t444, .slice Ao13 t445.length co13] 27 (0, 0)) (sqb BK450.out) NB450_0.out (by simp)); replace HK := Aside0.mk (KeepBut.trans z31_2 hk (.inl rfl)); replace HB := Aside0.mk (hb); replace HI0 := Aside0.mk (hi); (try clear hb); (try clear hk); (try clear hi); (try clear ho0)) | ((with_reducible refine gate_dst (N := 5) rfl ?_); refine bx (N := 5) (cs := #[.int .i64 0, .int .i64 0, .int .i64 0, .slice none 0 0]) (t := 27) ?_; intro gb463 hg w25 hbox hb; replace HO_451003 := Aside0.mk (Kd.N_below (Kd.N_elderB z31_6 gb463 (Nat.le_of_eq hg.symm)) hb); replace HO460 := Aside0.mk (Kd.N_below (Kd.N_elderB (by (with_reducible repeat (first | apply Kd.N_alloc | apply Kd.N_drewN | apply Kd.N_drew)); exact HO460.out) gb463 (Nat.le_of_eq hg.symm)) hb); replace HB := Aside0.mk (below_step sqj hb); have BK463 := Aside0.mk (hbox); have GW463 := Aside0.mk ((by rw [hg]; exact (keep_size (w := w) (g := g) (row := none) z31_2) : w.heap.size ≤ gb463)); have GE463 := Aside0.mk ((Nat.le_trans HW0.out (by rw [hg]; exact (keep_size (w := w) (g := g) (row := none) z31_2) : w.heap.size ≤ gb463) : w0.heap.size ≤ gb463)); replace HK := Aside0.mk (KeepBut.trans z31_2 (KeepBut.of_below hb g none) (.inl rfl)); have NB439_463 := Aside0.mk ((by rw [hg]; exact Nat.ne_of_lt (blk_lt (bo BK439)) : gb439 ≠ gb463)); have NB463_439 := Aside0.mk ((by rw [hg]; exact Nat.ne_of_gt (blk_lt (bo BK439)) : gb463 ≠ gb439)); replace BK439 := Aside0.mk (blk_below (bo BK439) hb); have NB450_463 := Aside0.mk ((by rw [hg]; exact Nat.ne_of_lt (blk_lt (bo BK450)) : gb450 ≠ gb463)); have NB463_450 := Aside0.mk ((by rw [hg]; exact Nat.ne_of_gt (blk_lt (bo BK450)) : gb463 ≠ gb450)); replace BK450 := Aside0.mk (blk_below (bo BK450) hb); have NB0_463 := Aside0.mk ((by rw [hg]; exact Nat.ne_of_lt (IsS42.lt (show IsS42 w0 _ g t461 t462 from sqi)) : g ≠ gb463)); have NB463_0 := Aside0.mk ((by rw [hg]; exact Nat.ne_of_gt (IsS42.lt (show IsS42 w0 _ g t461 t462 from sqi)) : gb463 ≠ g)); replace HI0 := Aside0.mk (IsS42.below sqi hb); clear hb hbox hg; have hnb26 := NB463_439.out; have hnc26 := NB439_463.out; have hnb27 := NB463_450.out; have hnc27 := NB450_463.out; have hnb28 := NB463_0.out; have hnc28 := NB0_463.out; obtain ⟨hcz29_0, hcz29_1, hcz29_2, hcz29_3, hfz29_0, hfz29_1, hfz29_2, hfz29_3⟩ := sd4 BK463.out; obtain ⟨Ao30, co30, eo30⟩ := Kd.N_slice HO460.out; subst eo30) | ((with_reducible refine gate_callee (f := 34) rfl ?_); refine goesL_ (some 25) rfl rfl Tryd.func34 sqk rfl #[.pointer (some ⟨g, 0, none⟩), .string (⟨#[41]⟩ : ByteArray)] rfl sqm ?_; (with_reducible refine (impl_condReader_need.calls g t461 t462 (⟨#[41]⟩ : ByteArray) t464 t465 w0 _ ?side1 ?side2 A21.out).mono ?_); (case side1 => exact sqi); (case side2 => exact sqj); rintro e w31 ⟨rfl, hi, hb, hk⟩; refine ⟨_, rfl, ?_⟩; replace HO_451003 := Aside0.mk (Kd.N_mono (Kd.N_keep (Kd.N_mono (ok := fun k_ => (((((w.heap.size ≤ k_)) ∧ (k_ ≠ gb439 ∧ (k_ ≠ gb450 ∧ k_ ≠ g))) ∧ some k_ ≠ (.slice Ao30 t458.length co30 : Value).ownBlock) ∧ k_ ≠ gb463)) (by (with_reducible repeat (first | apply Kd.N_alloc | apply Kd.N_drewN | apply Kd.N_drew)); exact (Kd.N_mono (Kd.N_far (p := ⟨gb463, 3, none⟩) (Kd.N_far (p := ⟨gb463, 2, none⟩) (Kd.N_far (p := ⟨gb463, 1, none⟩) (Kd.N_far (p := ⟨gb463, 0, none⟩) (Kd.N_mono HO_451003.out (fun k_ hk => (⟨hk, hk.2⟩ : _ ∧ k_ ≠ gb463))) (fun _ hk => hk.2) (.int .i64 t455)) (fun _ hk => hk.2) (.int .i64 t456)) (fun _ hk => hk.2) (.int .i64 t457)) (fun _ hk => hk.2) (.slice Ao30 t458.length co30)) (fun _ h_ => h_.1))) (fun k_ hk_ => (⟨hk_, hk_.1.1.2.2.2⟩ : _ ∧ k_ ≠ g))) hk (fun _ h => h.2)) (fun _ h => h.1)); replace BK439 := Aside0.mk (KeepBut.blk hk (g' := gb439) (o := .cells #[.int .i64 0, .int .i64 0, .int .i64 0, .slice none 0 0] 27 (0, 0)) (bp BK439) NB439_0.out (by simp)); replace BK450 := Aside0.mk (KeepBut.blk hk (g' := gb450) (o := .cells #[.int .i64 t442, .int .i64 t443, .int .i64 t444, .slice Ao13 t445.length co13] 27 (0, 0)) (bp BK450) NB450_0.out (by simp)); replace HO460 := Aside0.mk (Kd.N_mono (Kd.N_keep (Kd.N_mono (ok := fun k_ => ((((w.heap.size ≤ k_)) ∧ (some k_ ≠ (.slice Ao13 t445.length co13 : Value).ownBlock ∧ (k_ ≠ gb439 ∧ (k_ ≠ gb450 ∧ k_ ≠ g)))) ∧ k_ ≠ gb463)) (by (with_reducible repeat (first | apply Kd.N_alloc | apply Kd.N_drewN | apply Kd.N_drew)); exact (Kd.N_mono (Kd.N_far (p := ⟨gb463, 3, none⟩) (Kd.N_far (p := ⟨gb463, 2, none⟩) (Kd.N_far (p := ⟨gb463, 1, none⟩) (Kd.N_far (p := ⟨gb463, 0, none⟩) (Kd.N_mono HO460.out (fun k_ hk => (⟨hk, hk.2⟩ : _ ∧ k_ ≠ gb463))) (fun _ hk => hk.2) (.int .i64 t455)) (fun _ hk => hk.2) (.int .i64 t456)) (fun _ hk => hk.2) (.int .i64 t457)) (fun _ hk => hk.2) (.slice Ao30 t458.length co30)) (fun _ h_ => h_.1))) (fun k_ hk_ => (⟨hk_, hk_.1.2.2.2.2⟩ : _ ∧ k_ ≠ g))) hk (fun _ h => h.2)) (fun _ h => h.1)); replace BK463 := Aside0.mk (KeepBut.blk hk (g' := gb463) (o := .cells #[.int .i64 t455, .int .i64 t456, .int .i64 t457, .slice Ao30 t458.length co30] 27 (0, 0)) (bp BK463) NB463_0.out (by simp)); replace HK := Aside0.mk (KeepBut.trans z31_4 hk (.inl rfl)); replace HB := Aside0.mk (hb); replace HI0 := Aside0.mk (hi); (try clear hb); (try clear hk); (try clear hi); have hnb32 := NB450_439.out; have hnc32 := NB439_450.out; have hnb33 := NB450_0.out; have hnc33 := NB0_450.out; obtain ⟨hcz34_0, hcz34_1, hcz34_2, hcz34_3, hfz34_0, hfz34_1, hfz34_2, hfz34_3⟩ := sd4 BK450.out; obtain ⟨hcz35_0, hcz35_1, hcz35_2, hcz35_3, hfz35_0, hfz35_1, hfz35_2, hfz35_3⟩ := sd4 BK463.out) | ((with_reducible refine gate_dst (N := 29) rfl ?_); refine Kd.N_lit k27 _ 27 ?hg (N' := 29) ?hd (xs := ([(⟨t442, t443, t444, t445⟩ : S27), (⟨t455, t456, t457, t458⟩ : S27)] : List (S27))) (inner := [.int .i64 t442, .int .i64 t443, .int .i64 t444, .slice Ao13 t445.length co13, .int .i64 t455, .int .i64 t456, .int .i64 t457, .slice Ao30 t458.length co30]) (ok := (fun k_ => (w.heap.size ≤ k_) ∧ k_ ≠ gb439 ∧ k_ ≠ gb450 ∧ k_ ≠ gb463 ∧ k_ ≠ g)) (okp := (fun k_ => (w.heap.size ≤ k_) ∧ k_ ≠ gb439 ∧ k_ ≠ gb450 ∧ k_ ≠ gb463 ∧ k_ ≠ g)) ?hr ?hp (fun _ hk => hk) ((show ∀ k_, w31.heap.size ≤ k_ → (fun k_ => (w.heap.size ≤ k_) ∧ k_ ≠ gb439 ∧ k_ ≠ gb450 ∧ k_ ≠ gb463 ∧ k_ ≠ g) k_ from fun k_ hk => ⟨(Nat.le_trans (keep_size (w := w) (g := g) (row := none) z31_4) hk), Kd.freshB (bo BK439) k_ hk, Kd.freshB (bo BK450) k_ hk, Kd.freshB (bo BK463) k_ hk, IsS42.fresh sqi k_ hk⟩) _ (Nat.le_refl _)) (Below.refl _ _) (Nat.le_refl _) (by simp) ?_; (case hd => rfl); (case hg => rfl); (case hr => first | (go_simp; done) | (go_simp; rfl)); (case hp => exact (Reps.c4 (show Kd.FK k27 _ _ (⟨t442, t443, t444, t445⟩ : S27) [.int .i64 t442, .int .i64 t443, .int .i64 t444, .slice Ao13 t445.length co13] from (k27_mkF _ _ (⟨t442, t443, t444, t445⟩ : S27) (Kd.N_reads' (Kd.N_mono (ok' := (fun k_ => (w.heap.size ≤ k_) ∧ k_ ≠ gb439 ∧ k_ ≠ gb450 ∧ k_ ≠ gb463 ∧ k_ ≠ g)) (HO_451003.out) (fun k_ hk => ⟨hk.1.1.1, ⟨hk.1.1.2.1, ⟨hk.1.1.2.2.1, ⟨hk.2, hk.1.1.2.2.2⟩⟩⟩⟩))).2.1 (Kd.N_F (Kd.N_mono (ok' := (fun k_ => (w.heap.size ≤ k_) ∧ k_ ≠ gb439 ∧ k_ ≠ gb450 ∧ k_ ≠ gb463 ∧ k_ ≠ g)) (HO_451003.out) (fun k_ hk => ⟨hk.1.1.1, ⟨hk.1.1.2.1, ⟨hk.1.1.2.2.1, ⟨hk.2, hk.1.1.2.2.2⟩⟩⟩⟩))))) (Reps.c4 (show Kd.FK k27 _ _ (⟨t455, t456, t457, t458⟩ : S27) [.int .i64 t455, .int .i64 t456, .int .i64 t457, .slice Ao30 t458.length co30] from (k27_mkF _ _ (⟨t455, t456, t457, t458⟩ : S27) (Kd.N_reads' (Kd.N_mono (ok' := (fun k_ => (w.heap.size ≤ k_) ∧ k_ ≠ gb439 ∧ k_ ≠ gb450 ∧ k_ ≠ gb463 ∧ k_ ≠ g)) (HO460.out) (fun k_ hk => ⟨hk.1.1, ⟨hk.1.2.2.1, ⟨hk.1.2.2.2.1, ⟨hk.2, hk.1.2.2.2.2⟩⟩⟩⟩))).2.1 (Kd.N_F (Kd.N_mono (ok' := (fun k_ => (w.heap.size ≤ k_) ∧ k_ ≠ gb439 ∧ k_ ≠ gb450 ∧ k_ ≠ gb463 ∧ k_ ≠ g)) (HO460.out) (fun k_ hk => ⟨hk.1.1, ⟨hk.1.2.2.1, ⟨hk.1.2.2.2.1, ⟨hk.2, hk.1.2.2.2.2⟩⟩⟩⟩))))) (Reps.none _ _)))); intro v467 w36 ho37 hb hg_ hnew_; clear hg_ hnew_; (first | rw [← Ny466.out] at ho37 | (simp only [Int.reduceToNat] at ho37; rw [← Ny466.out] at ho37)); have HO468 := Aside0.mk (Kd.N_lower ho37 (keep_size (w := w) (g := g) (row := none) z31_4)); replace BK439 := Aside0.mk (blk_below (bo BK439) hb); replace BK450 := Aside0.mk (blk_below (bo BK450) hb); replace BK463 := Aside0.mk (blk_below (bo BK463) hb); replace HK := Aside0.mk (KeepBut.trans z31_4 (KeepBut.of_below hb g none) (.inl rfl)); replace HB := Aside0.mk (below_step sqj hb); replace HI0 := Aside0.mk (IsS42.below sqi hb); clear HO460 HO_451003; clear hb ho37; obtain ⟨Ao38, co38, eo38⟩ := Kd.N_slice HO468.out; subst eo38; have hnb39 := NB439_0.out; have hnc39 := NB0_439.out; obtain ⟨hcz40_0, hcz40_1, hcz40_2, hcz40_3, hfz40_0, hfz40_1, hfz40_2, hfz40_3⟩ := sd4 BK439.out))
      refine bodyPost_ret (results_cell_row rfl _ _ gb439 27 #[.int .i64 x4_4, .int .i64 0, .int .i64 0, .slice Ao38 y466.length co38] (0, 0) _ rfl ?_ Tryd.underlying27 rfl sqk) rfl ?_; exact bp BK439
      exact ⟨_, sqe, by (with_reducible repeat (first | apply Kd.N_alloc | apply Kd.N_drewN | apply Kd.N_drew)); exact Kd.N_mono (Kd.N_far (p := ⟨gb439, 3, none⟩) (Kd.N_far (p := ⟨gb439, 2, none⟩) (Kd.N_far (p := ⟨gb439, 1, none⟩) (Kd.N_far (p := ⟨gb439, 0, none⟩) (Kd.N_mono HO468.out (fun k_ hk => (⟨hk, hk.2.1⟩ : _ ∧ k_ ≠ gb439))) (fun _ hk => hk.2) (.int .i64 x4_4)) (fun _ hk => hk.2) (.int .i64 0)) (fun _ hk => hk.2) (.int .i64 0)) (fun _ hk => hk.2) (.slice Ao38 y466.length co38)) (fun _ hk => hk.1.1), sqi, sqj, by repeat (first | (with_reducible first | exact HK.out | apply KeepBut.set_ | apply keep_drewN | apply keep_drew | apply keep_alloc | refine keep_far ?_ GW439.out _ | refine keep_far ?_ GW450.out _ | refine keep_far ?_ GW463.out _) | exact HK.out)⟩
     ·rw [if_neg c18] at H
      exact absurd H (by simp)
    ·rw [if_neg c17] at H
     exact absurd H (by simp)
theorem impl_condReader_cond.calls (k : Nat) : ∀ (g : Nat) (s0_0 : ByteArray) (s0_1 : Bool) (r1 : Int) (r2 : Int) (r3 : Int) (r4 : List (S27)) (r5 : ByteArray) (r6 : Bool) (w0 w : World) (hI : IsS42 w0 w g s0_0 s0_1) (hB : Below w0.heap.size w0 w) (h : impl_condReader_cond.f k s0_0 s0_1 = some (r1, r2, r3, r4, r5, r6)) (hT : Tabs w0),
  Calls Tryd.prog 17 #[.pointer (some ⟨g, 0, none⟩)] w fun e w' => ∃ v3_ : Value, e = .returned (.agg #[.int .i64 r1, .int .i64 r2, .int .i64 r3, v3_]) ∧ Kd.N k27 27 w' w.heap.size (fun k_ => (w.heap.size ≤ k_)) v3_ r4 ∧ IsS42 w0 w' g r5 r6 ∧ Below w0.heap.size w0 w' ∧ KeepBut w w' g none := (impl_condReader_cond_impl_condReader_both.both k).1
theorem impl_condReader_both.calls (k : Nat) : ∀ (g : Nat) (s0_0 : ByteArray) (s0_1 : Bool) (r1 : Int) (r2 : Int) (r3 : Int) (r4 : List (S27)) (r5 : ByteArray) (r6 : Bool) (w0 w : World) (hI : IsS42 w0 w g s0_0 s0_1) (hB : Below w0.heap.size w0 w) (h : impl_condReader_both.f k s0_0 s0_1 = some (r1, r2, r3, r4, r5, r6)) (hT : Tabs w0),
  Calls Tryd.prog 31 #[.pointer (some ⟨g, 0, none⟩)] w fun e w' => ∃ v3_ : Value, e = .returned (.agg #[.int .i64 r1, .int .i64 r2, .int .i64 r3, v3_]) ∧ Kd.N k27 27 w' w.heap.size (fun k_ => (w.heap.size ≤ k_)) v3_ r4 ∧ IsS42 w0 w' g r5 r6 ∧ Below w0.heap.size w0 w' ∧ KeepBut w w' g none := (impl_condReader_cond_impl_condReader_both.both k).2

end Go.Proofs.YtilcmgdjfhhcdaaDoor.XFnTexts
