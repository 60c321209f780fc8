/- Written by this session's own program (wip/xprint, which runs over the kit's print): what the functions that the law reaches come to, each proved; and the law's row. Conditions: none. -/
import Derived.Test.YtlcmjdkbeckdnaaUFnAgreementx0
import Derived.Test.YtlcmjdkbeckdnaaUFnAgreementx1
namespace Go.Proofs.Ytlcmjdkbeckdnaa.XFnAgreement
open Go.RowKit Go.Proofs.YtlcmjdkbeckdnaaW.PrintWords Go.Proofs.YtlcmjdkbeckdnaaW.PrintLast Go.Proofs.YtlcmjdkbeckdnaaW.PrintMore
attribute [local go_sem] max2_int min2_int max_two min_two max_three min_three max_four min_four   -- for this text's walks alone
set_option linter.unusedVariables false
set_option linter.unusedSimpArgs false

/-! ### spec_l6Fact: function 101 -/
def spec_l6Fact.f (s0_0 : List Int) (s0_1 : Int) (s0_2 : Int) : Option (Int × Int × Int × Int × Int × Int × Int × Int) := (spec_l1Below.f s0_0 s0_1 s0_2 4).bind fun bt128 => ((spec_l1Below.f s0_0 bt128.2.1 bt128.2.2 3).bind fun bt131 => ((spec_l1Below.f s0_0 bt131.2.1 bt131.2.2 20).bind fun bt134 => ((spec_l1Below.f s0_0 bt134.2.1 bt134.2.2 30).bind fun bt138 => (if (wrap64 (1 + bt128.1)) = 1 then ((spec_l5Name.f s0_0 bt138.2.1 bt138.2.2 1).bind fun bt141 => ((spec_l1Below.f s0_0 bt141.2.1 bt141.2.2 4).bind fun bt144 => (some (wrap64 (1 + bt128.1), bt141.1, bt144.1, bt131.1, bt134.1, wrap64 (bt134.1 + bt138.1), bt144.2.1, bt144.2.2)))) else (if (wrap64 (1 + bt128.1)) = 2 then ((spec_l5Name.f s0_0 bt138.2.1 bt138.2.2 1).bind fun bt147 => ((spec_l5Name.f s0_0 bt147.2.1 bt147.2.2 2).bind fun bt150 => (some (wrap64 (1 + bt128.1), bt147.1, bt150.1, bt131.1, bt134.1, wrap64 (bt134.1 + bt138.1), bt150.2.1, bt150.2.2)))) else (if (wrap64 (1 + bt128.1)) = 3 then ((spec_l5Name.f s0_0 bt138.2.1 bt138.2.2 2).bind fun bt153 => ((spec_l1Below.f s0_0 bt153.2.1 bt153.2.2 4).bind fun bt156 => (some (wrap64 (1 + bt128.1), bt153.1, bt156.1, bt131.1, bt134.1, wrap64 (bt134.1 + bt138.1), bt156.2.1, bt156.2.2)))) else ((spec_l5Name.f s0_0 bt138.2.1 bt138.2.2 3).bind fun bt159 => ((spec_l1Below.f s0_0 bt159.2.1 bt159.2.2 4).bind fun bt162 => (some (wrap64 (1 + bt128.1), bt159.1, bt162.1, bt131.1, bt134.1, wrap64 (bt134.1 + bt138.1), bt162.2.1, bt162.2.2))))))))))
theorem pB101_ {P Q : Prop} (h : P) (g : P → Q := by intro h_; (with_reducible repeat (first | refine blk_drewN ?_ _ | refine blk_drew ?_ | refine blk_alloc ?_ _)); exact h_) : Q := g h
theorem z101_0 {Q : Prop} (g : Q := by repeat (first | (with_reducible first | exact HK.out | apply KeepBut.set_ | apply keep_drewN | apply keep_drew | apply keep_alloc | refine keep_far ?_ GW127.out _) | exact HK.out)) : Q := g
theorem z101_1 {Q : Prop} (g : Q := by (try simp only [List.map_toArray, List.map_cons, List.map_nil]); first | done | rfl | (simp only [List.length_drop, List.length_take]; rfl)) : Q := g
theorem z101_2 {Q : Prop} (g : Q := by repeat (first | (with_reducible first | exact HK.out | apply KeepBut.set_ | apply keep_drewN | apply keep_drew | apply keep_alloc | refine keep_far ?_ GW127.out _ | refine keep_far ?_ GW137.out _) | exact HK.out)) : Q := g
theorem z101_3 {Q : Prop} (g : Q := by (with_reducible repeat (first | refine blk_drewN ?_ _ | refine blk_drew ?_ | refine blk_alloc ?_ _)); refine blk_far ?_ NB127_137.out _; (with_reducible repeat (first | refine blk_drewN ?_ _ | refine blk_drew ?_ | refine blk_alloc ?_ _)); exact BK127.out) : Q := g
theorem z101_4 {Q : Prop} (g : Q := by repeat (first | (with_reducible first | exact HK.out | apply KeepBut.set_ | apply keep_drewN | apply keep_drew | apply keep_alloc) | exact HK.out)) : Q := g
theorem z101_5 {Q : Prop} (g : Q := by (with_reducible repeat (first | refine blk_drewN ?_ _ | refine blk_drew ?_ | refine blk_alloc ?_ _)); refine blk_put (cs := #[.int .i64 (wrap64 (1 + t128)), .int .i64 0, .int .i64 0, .int .i64 t131, .int .i64 t134, .int .i64 (wrap64 (t134 + t138))]) ?_ 1 _ rfl; (with_reducible repeat (first | refine blk_drewN ?_ _ | refine blk_drew ?_ | refine blk_alloc ?_ _)); exact BK137.out) : Q := g
theorem z101_6 {Q : Prop} (g : Q := by (with_reducible repeat (first | refine blk_drewN ?_ _ | refine blk_drew ?_ | refine blk_alloc ?_ _)); refine blk_put (cs := #[.int .i64 (wrap64 (1 + t128)), .int .i64 0, .int .i64 0, .int .i64 t131, .int .i64 t134, .int .i64 0]) ?_ 5 _ rfl; (with_reducible repeat (first | refine blk_drewN ?_ _ | refine blk_drew ?_ | refine blk_alloc ?_ _)); exact BK137.out) : Q := g
theorem z101_7 {Q : Prop} (g : Q := by rw [hg]; exact Nat.ne_of_lt (IsS87.lt (show IsS87 w0 _ g s0_0 t135 t136 from by repeat (first | (with_reducible first | exact HI0.out | apply IsS87.alloc | apply IsS87.drewN | apply IsS87.drew | apply IsS87.set_1 | apply IsS87.set_2 | refine IsS87.far ?_ NB0_127.out _) | exact HI0.out)))) : Q := g
theorem z101_8 {Q : Prop} (g : Q := by rw [hg]; exact Nat.ne_of_gt (IsS87.lt (show IsS87 w0 _ g s0_0 t135 t136 from by repeat (first | (with_reducible first | exact HI0.out | apply IsS87.alloc | apply IsS87.drewN | apply IsS87.drew | apply IsS87.set_1 | apply IsS87.set_2 | refine IsS87.far ?_ NB0_127.out _) | exact HI0.out)))) : Q := g
theorem z101_9 {Q : Prop} (g : Q := by rw [hg]; exact Nat.ne_of_lt (IsS87.lt (show IsS87 w0 _ g s0_0 s0_1 s0_2 from by repeat (first | (with_reducible first | exact HI0.out | apply IsS87.alloc | apply IsS87.drewN | apply IsS87.drew | apply IsS87.set_1 | apply IsS87.set_2) | exact HI0.out)))) : Q := g
theorem z101_10 {Q : Prop} (g : Q := by rw [hg]; exact Nat.ne_of_gt (IsS87.lt (show IsS87 w0 _ g s0_0 s0_1 s0_2 from by repeat (first | (with_reducible first | exact HI0.out | apply IsS87.alloc | apply IsS87.drewN | apply IsS87.drew | apply IsS87.set_1 | apply IsS87.set_2) | exact HI0.out)))) : Q := g
theorem z101_11 {Q : Prop} (g : Q := by repeat (first | (with_reducible first | exact HI0.out | apply IsS87.alloc | apply IsS87.drewN | apply IsS87.drew | apply IsS87.set_1 | apply IsS87.set_2 | refine IsS87.far ?_ NB0_127.out _) | exact HI0.out)) : Q := g
theorem z101_12 {Q : Prop} (g : Q := by repeat (first | (with_reducible first | exact HB.out | apply bA_ | apply bN_ | apply bD_ | refine bS_ ?_ (IsS87.ge HI0.out) | refine bS_ ?_ GE127.out) | exact HB.out)) : Q := g
theorem z101_13 {Q : Prop} (g : Q := by rw [hg]; exact Nat.ne_of_lt (blk_lt (g := gb127) (o := .cells #[.int .i64 0, .int .i64 0, .int .i64 0, .int .i64 0, .int .i64 0, .int .i64 0] 54 (0, 0)) (pB101_ BK127.out))) : Q := g
theorem z101_14 {Q : Prop} (g : Q := by rw [hg]; exact Nat.ne_of_gt (blk_lt (g := gb127) (o := .cells #[.int .i64 0, .int .i64 0, .int .i64 0, .int .i64 0, .int .i64 0, .int .i64 0] 54 (0, 0)) (pB101_ BK127.out))) : Q := g
theorem z101_15 {Q : Prop} (g : Q := by repeat (first | (with_reducible first | exact HB.out | apply bA_ | apply bN_ | apply bD_ | refine bS_ ?_ (IsS87.ge HI0.out)) | exact HB.out)) : Q := g
theorem z101_16 {Q : Prop} (g : Q := by repeat (first | (with_reducible first | exact HI0.out | apply IsS87.alloc | apply IsS87.drewN | apply IsS87.drew | apply IsS87.set_1 | apply IsS87.set_2) | exact HI0.out)) : Q := g
theorem z101_17 {Q : Prop} (g : Q := by rw [hg]; exact (keep_size (w := w) (g := g) (row := none) z101_4)) : Q := g
theorem z101_18 {Q : Prop} (g : Q := by rw [hg]; exact (keep_size (w := w) (g := g) (row := none) z101_0)) : Q := g
theorem z101_19 {Q : Prop} (g : Q := by kernel_rfl) : Q := g
set_option maxHeartbeats 8000000 in
set_option maxRecDepth 100000 in
theorem spec_l6Fact.calls (g : Nat) (s0_0 : List Int) (s0_1 : Int) (s0_2 : Int) (r1 : Int) (r2 : Int) (r3 : Int) (r4 : Int) (r5 : Int) (r6 : Int) (r7 : Int) (r8 : Int) (w0 w : World) (hI : IsS87 w0 w g s0_0 s0_1 s0_2) (hB : Below w0.heap.size w0 w) (h : spec_l6Fact.f s0_0 s0_1 s0_2 = some (r1, r2, r3, r4, r5, r6, r7, r8)) :
    Calls Try.prog 101 #[.pointer (some ⟨g, 0, none⟩)] w fun e w' => e = .returned (.agg #[.int .i64 r1, .int .i64 r2, .int .i64 r3, .int .i64 r4, .int .i64 r5, .int .i64 r6]) ∧ IsS87 w0 w' g s0_0 r7 r8 ∧ Below w0.heap.size w0 w' ∧ KeepBut w w' g none := by
  have hu54 := Try.underlying54
  have HI0 := Aside0.mk hI
  have HK := Aside0.mk (KeepBut.refl w g none)
  have HL := Aside0.mk hB.size
  clear hI
  have HW0 := Aside0.mk hB.size
  have HB := Aside0.mk hB
  clear hB
  have H : ((spec_l1Below.f s0_0 s0_1 s0_2 4).bind fun bt128 => ((spec_l1Below.f s0_0 bt128.2.1 bt128.2.2 3).bind fun bt131 => ((spec_l1Below.f s0_0 bt131.2.1 bt131.2.2 20).bind fun bt134 => ((spec_l1Below.f s0_0 bt134.2.1 bt134.2.2 30).bind fun bt138 => (if (wrap64 (1 + bt128.1)) = 1 then ((spec_l5Name.f s0_0 bt138.2.1 bt138.2.2 1).bind fun bt141 => ((spec_l1Below.f s0_0 bt141.2.1 bt141.2.2 4).bind fun bt144 => (some (wrap64 (1 + bt128.1), bt141.1, bt144.1, bt131.1, bt134.1, wrap64 (bt134.1 + bt138.1), bt144.2.1, bt144.2.2)))) else (if (wrap64 (1 + bt128.1)) = 2 then ((spec_l5Name.f s0_0 bt138.2.1 bt138.2.2 1).bind fun bt147 => ((spec_l5Name.f s0_0 bt147.2.1 bt147.2.2 2).bind fun bt150 => (some (wrap64 (1 + bt128.1), bt147.1, bt150.1, bt131.1, bt134.1, wrap64 (bt134.1 + bt138.1), bt150.2.1, bt150.2.2)))) else (if (wrap64 (1 + bt128.1)) = 3 then ((spec_l5Name.f s0_0 bt138.2.1 bt138.2.2 2).bind fun bt153 => ((spec_l1Below.f s0_0 bt153.2.1 bt153.2.2 4).bind fun bt156 => (some (wrap64 (1 + bt128.1), bt153.1, bt156.1, bt131.1, bt134.1, wrap64 (bt134.1 + bt138.1), bt156.2.1, bt156.2.2)))) else ((spec_l5Name.f s0_0 bt138.2.1 bt138.2.2 3).bind fun bt159 => ((spec_l1Below.f s0_0 bt159.2.1 bt159.2.2 4).bind fun bt162 => (some (wrap64 (1 + bt128.1), bt159.1, bt162.1, bt131.1, bt134.1, wrap64 (bt134.1 + bt138.1), bt162.2.1, bt162.2.2))))))))))) = some (r1, r2, r3, r4, r5, r6, r7, r8) := h
  clear h
  replace H := Option.bind_eq_some_iff.mp H
  obtain ⟨⟨t128, t129, t130⟩, A20, H⟩ := H
  replace H : ((spec_l1Below.f s0_0 t129 t130 3).bind fun bt131 => ((spec_l1Below.f s0_0 bt131.2.1 bt131.2.2 20).bind fun bt134 => ((spec_l1Below.f s0_0 bt134.2.1 bt134.2.2 30).bind fun bt138 => (if (wrap64 (1 + t128)) = 1 then ((spec_l5Name.f s0_0 bt138.2.1 bt138.2.2 1).bind fun bt141 => ((spec_l1Below.f s0_0 bt141.2.1 bt141.2.2 4).bind fun bt144 => (some (wrap64 (1 + t128), bt141.1, bt144.1, bt131.1, bt134.1, wrap64 (bt134.1 + bt138.1), bt144.2.1, bt144.2.2)))) else (if (wrap64 (1 + t128)) = 2 then ((spec_l5Name.f s0_0 bt138.2.1 bt138.2.2 1).bind fun bt147 => ((spec_l5Name.f s0_0 bt147.2.1 bt147.2.2 2).bind fun bt150 => (some (wrap64 (1 + t128), bt147.1, bt150.1, bt131.1, bt134.1, wrap64 (bt134.1 + bt138.1), bt150.2.1, bt150.2.2)))) else (if (wrap64 (1 + t128)) = 3 then ((spec_l5Name.f s0_0 bt138.2.1 bt138.2.2 2).bind fun bt153 => ((spec_l1Below.f s0_0 bt153.2.1 bt153.2.2 4).bind fun bt156 => (some (wrap64 (1 + t128), bt153.1, bt156.1, bt131.1, bt134.1, wrap64 (bt134.1 + bt138.1), bt156.2.1, bt156.2.2)))) else ((spec_l5Name.f s0_0 bt138.2.1 bt138.2.2 3).bind fun bt159 => ((spec_l1Below.f s0_0 bt159.2.1 bt159.2.2 4).bind fun bt162 => (some (wrap64 (1 + t128), bt159.1, bt162.1, bt131.1, bt134.1, wrap64 (bt134.1 + bt138.1), bt162.2.1, bt162.2.2)))))))))) = some (r1, r2, r3, r4, r5, r6, r7, r8) := H
  have A2 := Aside0.mk A20
  clear A20
  replace H := Option.bind_eq_some_iff.mp H
  obtain ⟨⟨t131, t132, t133⟩, A30, H⟩ := H
  replace H : ((spec_l1Below.f s0_0 t132 t133 20).bind fun bt134 => ((spec_l1Below.f s0_0 bt134.2.1 bt134.2.2 30).bind fun bt138 => (if (wrap64 (1 + t128)) = 1 then ((spec_l5Name.f s0_0 bt138.2.1 bt138.2.2 1).bind fun bt141 => ((spec_l1Below.f s0_0 bt141.2.1 bt141.2.2 4).bind fun bt144 => (some (wrap64 (1 + t128), bt141.1, bt144.1, t131, bt134.1, wrap64 (bt134.1 + bt138.1), bt144.2.1, bt144.2.2)))) else (if (wrap64 (1 + t128)) = 2 then ((spec_l5Name.f s0_0 bt138.2.1 bt138.2.2 1).bind fun bt147 => ((spec_l5Name.f s0_0 bt147.2.1 bt147.2.2 2).bind fun bt150 => (some (wrap64 (1 + t128), bt147.1, bt150.1, t131, bt134.1, wrap64 (bt134.1 + bt138.1), bt150.2.1, bt150.2.2)))) else (if (wrap64 (1 + t128)) = 3 then ((spec_l5Name.f s0_0 bt138.2.1 bt138.2.2 2).bind fun bt153 => ((spec_l1Below.f s0_0 bt153.2.1 bt153.2.2 4).bind fun bt156 => (some (wrap64 (1 + t128), bt153.1, bt156.1, t131, bt134.1, wrap64 (bt134.1 + bt138.1), bt156.2.1, bt156.2.2)))) else ((spec_l5Name.f s0_0 bt138.2.1 bt138.2.2 3).bind fun bt159 => ((spec_l1Below.f s0_0 bt159.2.1 bt159.2.2 4).bind fun bt162 => (some (wrap64 (1 + t128), bt159.1, bt162.1, t131, bt134.1, wrap64 (bt134.1 + bt138.1), bt162.2.1, bt162.2.2))))))))) = some (r1, r2, r3, r4, r5, r6, r7, r8) := H
  have A3 := Aside0.mk A30
  clear A30
  replace H := Option.bind_eq_some_iff.mp H
  obtain ⟨⟨t134, t135, t136⟩, A40, H⟩ := H
  replace H : ((spec_l1Below.f s0_0 t135 t136 30).bind fun bt138 => (if (wrap64 (1 + t128)) = 1 then ((spec_l5Name.f s0_0 bt138.2.1 bt138.2.2 1).bind fun bt141 => ((spec_l1Below.f s0_0 bt141.2.1 bt141.2.2 4).bind fun bt144 => (some (wrap64 (1 + t128), bt141.1, bt144.1, t131, t134, wrap64 (t134 + bt138.1), bt144.2.1, bt144.2.2)))) else (if (wrap64 (1 + t128)) = 2 then ((spec_l5Name.f s0_0 bt138.2.1 bt138.2.2 1).bind fun bt147 => ((spec_l5Name.f s0_0 bt147.2.1 bt147.2.2 2).bind fun bt150 => (some (wrap64 (1 + t128), bt147.1, bt150.1, t131, t134, wrap64 (t134 + bt138.1), bt150.2.1, bt150.2.2)))) else (if (wrap64 (1 + t128)) = 3 then ((spec_l5Name.f s0_0 bt138.2.1 bt138.2.2 2).bind fun bt153 => ((spec_l1Below.f s0_0 bt153.2.1 bt153.2.2 4).bind fun bt156 => (some (wrap64 (1 + t128), bt153.1, bt156.1, t131, t134, wrap64 (t134 + bt138.1), bt156.2.1, bt156.2.2)))) else ((spec_l5Name.f s0_0 bt138.2.1 bt138.2.2 3).bind fun bt159 => ((spec_l1Below.f s0_0 bt159.2.1 bt159.2.2 4).bind fun bt162 => (some (wrap64 (1 + t128), bt159.1, bt162.1, t131, t134, wrap64 (t134 + bt138.1), bt162.2.1, bt162.2.2)))))))) = some (r1, r2, r3, r4, r5, r6, r7, r8) := H
  have A4 := Aside0.mk A40
  clear A40
  replace H := Option.bind_eq_some_iff.mp H
  obtain ⟨⟨t138, t139, t140⟩, A50, H⟩ := H
  replace H : (if (wrap64 (1 + t128)) = 1 then ((spec_l5Name.f s0_0 t139 t140 1).bind fun bt141 => ((spec_l1Below.f s0_0 bt141.2.1 bt141.2.2 4).bind fun bt144 => (some (wrap64 (1 + t128), bt141.1, bt144.1, t131, t134, wrap64 (t134 + t138), bt144.2.1, bt144.2.2)))) else (if (wrap64 (1 + t128)) = 2 then ((spec_l5Name.f s0_0 t139 t140 1).bind fun bt147 => ((spec_l5Name.f s0_0 bt147.2.1 bt147.2.2 2).bind fun bt150 => (some (wrap64 (1 + t128), bt147.1, bt150.1, t131, t134, wrap64 (t134 + t138), bt150.2.1, bt150.2.2)))) else (if (wrap64 (1 + t128)) = 3 then ((spec_l5Name.f s0_0 t139 t140 2).bind fun bt153 => ((spec_l1Below.f s0_0 bt153.2.1 bt153.2.2 4).bind fun bt156 => (some (wrap64 (1 + t128), bt153.1, bt156.1, t131, t134, wrap64 (t134 + t138), bt156.2.1, bt156.2.2)))) else ((spec_l5Name.f s0_0 t139 t140 3).bind fun bt159 => ((spec_l1Below.f s0_0 bt159.2.1 bt159.2.2 4).bind fun bt162 => (some (wrap64 (1 + t128), bt159.1, bt162.1, t131, t134, wrap64 (t134 + t138), bt162.2.1, bt162.2.2))))))) = some (r1, r2, r3, r4, r5, r6, r7, r8) := H
  have A5 := Aside0.mk A50
  clear A50
  by_cases c6 : (wrap64 (1 + t128)) = 1
  · rw [if_pos c6] at H
    have c6b0 : ((wrap64 (1 + t128)) == 1) = true := beq_iff_eq.mpr c6
    have c6b1 : ((wrap64 (1 + t128)) != 1) = false := bne_eq_false_iff_eq.mpr c6
    clear c6
    replace H := Option.bind_eq_some_iff.mp H
    obtain ⟨⟨t141, t142, t143⟩, A70, H⟩ := H
    replace H : ((spec_l1Below.f s0_0 t142 t143 4).bind fun bt144 => (some (wrap64 (1 + t128), t141, bt144.1, t131, t134, wrap64 (t134 + t138), bt144.2.1, bt144.2.2))) = some (r1, r2, r3, r4, r5, r6, r7, r8) := H
    have A7 := Aside0.mk A70
    clear A70
    replace H := Option.bind_eq_some_iff.mp H
    obtain ⟨⟨t144, t145, t146⟩, A80, H⟩ := H
    replace H : (some (wrap64 (1 + t128), t141, t144, t131, t134, wrap64 (t134 + t138), t145, t146)) = some (r1, r2, r3, r4, r5, r6, r7, r8) := H
    have A8 := Aside0.mk A80
    clear A80
    simp only [Option.some.injEq, Prod.mk.injEq] at H
    obtain ⟨rfl, rfl, rfl, rfl, rfl, rfl, rfl, rfl⟩ := H
    go_enter Try.func101, Try.ntmps101
    try go_wp2_with (first | ((with_reducible refine gate_dst (N := 2) rfl ?_); refine box_event ?hg (N := 2) ?hd (cs := #[.int .i64 0, .int .i64 0, .int .i64 0, .int .i64 0, .int .i64 0, .int .i64 0]) (t := 54) ?hr ?_; (case hd => rfl); (case hg => rfl); (case hr => first | (go_simp; done) | (go_simp; rfl)); intro gb127 hg w9 hbox hb; have n0_ := Aside0.mk (IsS87.below z101_16 hb); have n1_ := Aside0.mk (KeepBut.trans z101_4 (KeepBut.of_below hb g none) (.inl rfl)); have n2_ := Aside0.mk (below_step z101_15 hb); have n3_ := Aside0.mk (hbox); have n4_ := Aside0.mk ((z101_17 : w.heap.size ≤ gb127)); have n5_ := Aside0.mk ((Nat.le_trans HW0.out (z101_17 : w.heap.size ≤ gb127) : w0.heap.size ≤ gb127)); have n6_ := Aside0.mk ((z101_9 : g ≠ gb127)); have n7_ := Aside0.mk ((z101_10 : gb127 ≠ g)); clear HI0; clear HK; clear HB; have HI0 := n0_; have HK := n1_; have HB := n2_; have BK127 := n3_; have GW127 := n4_; have GE127 := n5_; have NB0_127 := n6_; have NB127_0 := n7_; clear n0_ n1_ n2_ n3_ n4_ n5_ n6_ n7_; clear hb hbox hg) | ((with_reducible refine gate_callee (f := 85) rfl ?_); refine goesL_ (some 5) rfl rfl Try.func85 z101_19 rfl #[.pointer (some ⟨g, 0, none⟩), .int .i64 4] rfl z101_1 ?_; (with_reducible refine (spec_l1Below.calls g s0_0 s0_1 s0_2 4 t128 t129 t130 w0 _ ?side1 ?side2 A2.out).mono ?_); (case side1 => repeat (first | (with_reducible first | exact HI0.out | apply IsS87.alloc | apply IsS87.drewN | apply IsS87.drew | apply IsS87.set_1 | apply IsS87.set_2 | refine IsS87.far ?_ NB0_127.out _) | exact HI0.out)); (case side2 => repeat (first | (with_reducible first | exact HB.out | apply bA_ | apply bN_ | apply bD_ | refine bS_ ?_ (IsS87.ge HI0.out) | refine bS_ ?_ GE127.out) | exact HB.out)); rintro e w10 ⟨rfl, hi, hb, hk⟩; refine ⟨_, rfl, ?_⟩; have n0_ := Aside0.mk (KeepBut.blk hk (g' := gb127) (o := .cells #[.int .i64 0, .int .i64 0, .int .i64 0, .int .i64 0, .int .i64 0, .int .i64 0] 54 (0, 0)) (pB101_ BK127.out) NB127_0.out (by simp)); have n1_ := Aside0.mk (KeepBut.trans z101_0 hk (.inl rfl)); have n2_ := Aside0.mk (hb); have n3_ := Aside0.mk (hi); clear BK127; clear HK; clear HB; clear HI0; have BK127 := n0_; have HK := n1_; have HB := n2_; have HI0 := n3_; clear n0_ n1_ n2_ n3_; (try clear hb); (try clear hb2); (try clear hk); (try clear hi)) | ((with_reducible refine gate_callee (f := 85) rfl ?_); refine goesL_ (some 8) rfl rfl Try.func85 z101_19 rfl #[.pointer (some ⟨g, 0, none⟩), .int .i64 3] rfl z101_1 ?_; (with_reducible refine (spec_l1Below.calls g s0_0 t129 t130 3 t131 t132 t133 w0 _ ?side1 ?side2 A3.out).mono ?_); (case side1 => repeat (first | (with_reducible first | exact HI0.out | apply IsS87.alloc | apply IsS87.drewN | apply IsS87.drew | apply IsS87.set_1 | apply IsS87.set_2 | refine IsS87.far ?_ NB0_127.out _) | exact HI0.out)); (case side2 => repeat (first | (with_reducible first | exact HB.out | apply bA_ | apply bN_ | apply bD_ | refine bS_ ?_ (IsS87.ge HI0.out) | refine bS_ ?_ GE127.out) | exact HB.out)); rintro e w11 ⟨rfl, hi, hb, hk⟩; refine ⟨_, rfl, ?_⟩; have n0_ := Aside0.mk (KeepBut.blk hk (g' := gb127) (o := .cells #[.int .i64 0, .int .i64 0, .int .i64 0, .int .i64 0, .int .i64 0, .int .i64 0] 54 (0, 0)) (pB101_ BK127.out) NB127_0.out (by simp)); have n1_ := Aside0.mk (KeepBut.trans z101_0 hk (.inl rfl)); have n2_ := Aside0.mk (hb); have n3_ := Aside0.mk (hi); clear BK127; clear HK; clear HB; clear HI0; have BK127 := n0_; have HK := n1_; have HB := n2_; have HI0 := n3_; clear n0_ n1_ n2_ n3_; (try clear hb); (try clear hb2); (try clear hk); (try clear hi)) | ((with_reducible refine gate_callee (f := 85) rfl ?_); refine goesL_ (some 10) rfl rfl Try.func85 z101_19 rfl #[.pointer (some ⟨g, 0, none⟩), .int .i64 20] rfl z101_1 ?_; (with_reducible refine (spec_l1Below.calls g s0_0 t132 t133 20 t134 t135 t136 w0 _ ?side1 ?side2 A4.out).mono ?_); (case side1 => repeat (first | (with_reducible first | exact HI0.out | apply IsS87.alloc | apply IsS87.drewN | apply IsS87.drew | apply IsS87.set_1 | apply IsS87.set_2 | refine IsS87.far ?_ NB0_127.out _) | exact HI0.out)); (case side2 => repeat (first | (with_reducible first | exact HB.out | apply bA_ | apply bN_ | apply bD_ | refine bS_ ?_ (IsS87.ge HI0.out) | refine bS_ ?_ GE127.out) | exact HB.out)); rintro e w12 ⟨rfl, hi, hb, hk⟩; refine ⟨_, rfl, ?_⟩; have n0_ := Aside0.mk (KeepBut.blk hk (g' := gb127) (o := .cells #[.int .i64 0, .int .i64 0, .int .i64 0, .int .i64 0, .int .i64 0, .int .i64 0] 54 (0, 0)) (pB101_ BK127.out) NB127_0.out (by simp)); have n1_ := Aside0.mk (KeepBut.trans z101_0 hk (.inl rfl)); have n2_ := Aside0.mk (hb); have n3_ := Aside0.mk (hi); clear BK127; clear HK; clear HB; clear HI0; have BK127 := n0_; have HK := n1_; have HB := n2_; have HI0 := n3_; clear n0_ n1_ n2_ n3_; (try clear hb); (try clear hb2); (try clear hk); (try clear hi)) | ((with_reducible refine gate_dst (N := 3) rfl ?_); refine box_event ?hg (N := 3) ?hd (cs := #[.int .i64 0, .int .i64 0, .int .i64 0, .int .i64 0, .int .i64 0, .int .i64 0]) (t := 54) ?hr ?_; (case hd => rfl); (case hg => rfl); (case hr => first | (go_simp; done) | (go_simp; rfl)); intro gb137 hg w13 hbox hb; have n0_ := Aside0.mk (IsS87.below z101_11 hb); have n1_ := Aside0.mk (blk_below (g := gb127) (o := .cells #[.int .i64 0, .int .i64 0, .int .i64 0, .int .i64 0, .int .i64 0, .int .i64 0] 54 (0, 0)) (pB101_ BK127.out) hb); have n2_ := Aside0.mk (KeepBut.trans z101_0 (KeepBut.of_below hb g none) (.inl rfl)); have n3_ := Aside0.mk (below_step z101_12 hb); have n4_ := Aside0.mk (hbox); have n5_ := Aside0.mk ((z101_18 : w.heap.size ≤ gb137)); have n6_ := Aside0.mk ((Nat.le_trans HW0.out (z101_18 : w.heap.size ≤ gb137) : w0.heap.size ≤ gb137)); have n7_ := Aside0.mk ((z101_13 : gb127 ≠ gb137)); have n8_ := Aside0.mk ((z101_14 : gb137 ≠ gb127)); have n9_ := Aside0.mk ((z101_7 : g ≠ gb137)); have n10_ := Aside0.mk ((z101_8 : gb137 ≠ g)); clear HI0; clear BK127; clear HK; clear HB; have HI0 := n0_; have BK127 := n1_; have HK := n2_; have HB := n3_; have BK137 := n4_; have GW137 := n5_; have GE137 := n6_; have NB127_137 := n7_; have NB137_127 := n8_; have NB0_137 := n9_; have NB137_0 := n10_; clear n0_ n1_ n2_ n3_ n4_ n5_ n6_ n7_ n8_ n9_ n10_; clear hb hbox hg; have hnb14 := NB137_127.out; have hnc14 := NB127_137.out; have hnb15 := NB137_0.out; have hnc15 := NB0_137.out; have hcz16_0 : w13.cell? ⟨gb137, 0, none⟩ = some (.int .i64 0) := (bC_ BK137.out 0).trans rfl; have hcz16_1 : w13.cell? ⟨gb137, 1, none⟩ = some (.int .i64 0) := (bC_ BK137.out 1).trans rfl; have hcz16_2 : w13.cell? ⟨gb137, 2, none⟩ = some (.int .i64 0) := (bC_ BK137.out 2).trans rfl; have hcz16_3 : w13.cell? ⟨gb137, 3, none⟩ = some (.int .i64 0) := (bC_ BK137.out 3).trans rfl; have hcz16_4 : w13.cell? ⟨gb137, 4, none⟩ = some (.int .i64 0) := (bC_ BK137.out 4).trans rfl; have hcz16_5 : w13.cell? ⟨gb137, 5, none⟩ = some (.int .i64 0) := (bC_ BK137.out 5).trans rfl; have hfz16_0 := bF_ BK137.out 0; have hfz16_1 := bF_ BK137.out 1; have hfz16_2 := bF_ BK137.out 2; have hfz16_3 := bF_ BK137.out 3; have hfz16_4 := bF_ BK137.out 4; have hfz16_5 := bF_ BK137.out 5))
    have n0_ : Aside0 (((((((w13.setCell ⟨gb137, 0, none⟩ (.int .i64 (wrap64 (1 + t128)))).setCell ⟨gb137, 1, none⟩ (.int .i64 0)).setCell ⟨gb137, 2, none⟩ (.int .i64 0)).setCell ⟨gb137, 3, none⟩ (.int .i64 t131)).setCell ⟨gb137, 4, none⟩ (.int .i64 t134)).setCell ⟨gb137, 5, none⟩ (.int .i64 0)).heap[gb127]? = some (.cells #[.int .i64 0, .int .i64 0, .int .i64 0, .int .i64 0, .int .i64 0, .int .i64 0] 54 (0, 0))) := ⟨by (with_reducible repeat (first | refine blk_drewN ?_ _ | refine blk_drew ?_ | refine blk_alloc ?_ _)); refine blk_far ?_ NB127_137.out _; (with_reducible repeat (first | refine blk_drewN ?_ _ | refine blk_drew ?_ | refine blk_alloc ?_ _)); refine blk_far ?_ NB127_137.out _; (with_reducible repeat (first | refine blk_drewN ?_ _ | refine blk_drew ?_ | refine blk_alloc ?_ _)); refine blk_far ?_ NB127_137.out _; (with_reducible repeat (first | refine blk_drewN ?_ _ | refine blk_drew ?_ | refine blk_alloc ?_ _)); refine blk_far ?_ NB127_137.out _; (with_reducible repeat (first | refine blk_drewN ?_ _ | refine blk_drew ?_ | refine blk_alloc ?_ _)); refine blk_far ?_ NB127_137.out _; (with_reducible repeat (first | refine blk_drewN ?_ _ | refine blk_drew ?_ | refine blk_alloc ?_ _)); refine blk_far ?_ NB127_137.out _; (with_reducible repeat (first | refine blk_drewN ?_ _ | refine blk_drew ?_ | refine blk_alloc ?_ _)); exact BK127.out⟩
    have n1_ : Aside0 (((((((w13.setCell ⟨gb137, 0, none⟩ (.int .i64 (wrap64 (1 + t128)))).setCell ⟨gb137, 1, none⟩ (.int .i64 0)).setCell ⟨gb137, 2, none⟩ (.int .i64 0)).setCell ⟨gb137, 3, none⟩ (.int .i64 t131)).setCell ⟨gb137, 4, none⟩ (.int .i64 t134)).setCell ⟨gb137, 5, none⟩ (.int .i64 0)).heap[gb137]? = some (.cells #[.int .i64 (wrap64 (1 + t128)), .int .i64 0, .int .i64 0, .int .i64 t131, .int .i64 t134, .int .i64 0] 54 (0, 0))) := ⟨by (with_reducible repeat (first | refine blk_drewN ?_ _ | refine blk_drew ?_ | refine blk_alloc ?_ _)); refine blk_put (cs := #[.int .i64 (wrap64 (1 + t128)), .int .i64 0, .int .i64 0, .int .i64 t131, .int .i64 t134, .int .i64 0]) ?_ 5 _ rfl; (with_reducible repeat (first | refine blk_drewN ?_ _ | refine blk_drew ?_ | refine blk_alloc ?_ _)); refine blk_put (cs := #[.int .i64 (wrap64 (1 + t128)), .int .i64 0, .int .i64 0, .int .i64 t131, .int .i64 0, .int .i64 0]) ?_ 4 _ rfl; (with_reducible repeat (first | refine blk_drewN ?_ _ | refine blk_drew ?_ | refine blk_alloc ?_ _)); refine blk_put (cs := #[.int .i64 (wrap64 (1 + t128)), .int .i64 0, .int .i64 0, .int .i64 0, .int .i64 0, .int .i64 0]) ?_ 3 _ rfl; (with_reducible repeat (first | refine blk_drewN ?_ _ | refine blk_drew ?_ | refine blk_alloc ?_ _)); refine blk_put (cs := #[.int .i64 (wrap64 (1 + t128)), .int .i64 0, .int .i64 0, .int .i64 0, .int .i64 0, .int .i64 0]) ?_ 2 _ rfl; (with_reducible repeat (first | refine blk_drewN ?_ _ | refine blk_drew ?_ | refine blk_alloc ?_ _)); refine blk_put (cs := #[.int .i64 (wrap64 (1 + t128)), .int .i64 0, .int .i64 0, .int .i64 0, .int .i64 0, .int .i64 0]) ?_ 1 _ rfl; (with_reducible repeat (first | refine blk_drewN ?_ _ | refine blk_drew ?_ | refine blk_alloc ?_ _)); refine blk_put (cs := #[.int .i64 0, .int .i64 0, .int .i64 0, .int .i64 0, .int .i64 0, .int .i64 0]) ?_ 0 _ rfl; (with_reducible repeat (first | refine blk_drewN ?_ _ | refine blk_drew ?_ | refine blk_alloc ?_ _)); exact BK137.out⟩
    have n2_ : Aside0 (IsS87 w0 ((((((w13.setCell ⟨gb137, 0, none⟩ (.int .i64 (wrap64 (1 + t128)))).setCell ⟨gb137, 1, none⟩ (.int .i64 0)).setCell ⟨gb137, 2, none⟩ (.int .i64 0)).setCell ⟨gb137, 3, none⟩ (.int .i64 t131)).setCell ⟨gb137, 4, none⟩ (.int .i64 t134)).setCell ⟨gb137, 5, none⟩ (.int .i64 0)) g s0_0 t135 t136) := ⟨by repeat (first | (with_reducible first | exact HI0.out | apply IsS87.alloc | apply IsS87.drewN | apply IsS87.drew | apply IsS87.set_1 | apply IsS87.set_2 | refine IsS87.far ?_ NB0_127.out _ | refine IsS87.far ?_ NB0_137.out _) | exact HI0.out)⟩
    have n3_ : Aside0 (KeepBut w ((((((w13.setCell ⟨gb137, 0, none⟩ (.int .i64 (wrap64 (1 + t128)))).setCell ⟨gb137, 1, none⟩ (.int .i64 0)).setCell ⟨gb137, 2, none⟩ (.int .i64 0)).setCell ⟨gb137, 3, none⟩ (.int .i64 t131)).setCell ⟨gb137, 4, none⟩ (.int .i64 t134)).setCell ⟨gb137, 5, none⟩ (.int .i64 0)) g none) := ⟨by repeat (first | (with_reducible first | exact HK.out | apply KeepBut.set_ | apply keep_drewN | apply keep_drew | apply keep_alloc | refine keep_far ?_ GW127.out _ | refine keep_far ?_ GW137.out _) | exact HK.out)⟩
    have n4_ : Aside0 (Below w0.heap.size w0 ((((((w13.setCell ⟨gb137, 0, none⟩ (.int .i64 (wrap64 (1 + t128)))).setCell ⟨gb137, 1, none⟩ (.int .i64 0)).setCell ⟨gb137, 2, none⟩ (.int .i64 0)).setCell ⟨gb137, 3, none⟩ (.int .i64 t131)).setCell ⟨gb137, 4, none⟩ (.int .i64 t134)).setCell ⟨gb137, 5, none⟩ (.int .i64 0))) := ⟨by repeat (first | (with_reducible first | exact HB.out | apply bA_ | apply bN_ | apply bD_ | refine bS_ ?_ (IsS87.ge HI0.out) | refine bS_ ?_ GE127.out | refine bS_ ?_ GE137.out) | exact HB.out)⟩
    (try clear BK127)
    (try clear BK137)
    (try clear HI0)
    (try clear HK)
    (try clear HB)
    generalize ((((((w13.setCell ⟨gb137, 0, none⟩ (.int .i64 (wrap64 (1 + t128)))).setCell ⟨gb137, 1, none⟩ (.int .i64 0)).setCell ⟨gb137, 2, none⟩ (.int .i64 0)).setCell ⟨gb137, 3, none⟩ (.int .i64 t131)).setCell ⟨gb137, 4, none⟩ (.int .i64 t134)).setCell ⟨gb137, 5, none⟩ (.int .i64 0)) = w17 at n0_ n1_ n2_ n3_ n4_ ⊢
    have BK127 := n0_
    have BK137 := n1_
    have HI0 := n2_
    have HK := n3_
    have HB := n4_
    clear n0_ n1_ n2_ n3_ n4_
    have n0_ := Aside0.mk (blk_drew BK127.out)
    have n1_ := Aside0.mk (blk_drew BK137.out)
    have n2_ := Aside0.mk (IsS87.drew HI0.out)
    have n3_ := Aside0.mk (keep_drew HK.out)
    have n4_ := Aside0.mk (bD_ HB.out)
    clear BK127
    clear BK137
    clear HI0
    clear HK
    clear HB
    have BK127 := n0_
    have BK137 := n1_
    have HI0 := n2_
    have HK := n3_
    have HB := n4_
    clear n0_ n1_ n2_ n3_ n4_
    refine start_ (n := 7) (S := fun w' => w'.cell? ⟨gb137, 0, none⟩ = some (.int .i64 (wrap64 (1 + t128))) ∧ w'.cell? ⟨gb137, 1, none⟩ = some (.int .i64 0) ∧ w'.cell? ⟨gb137, 2, none⟩ = some (.int .i64 0) ∧ w'.cell? ⟨gb137, 3, none⟩ = some (.int .i64 t131) ∧ w'.cell? ⟨gb137, 4, none⟩ = some (.int .i64 t134) ∧ w'.cell? ⟨gb137, 5, none⟩ = some (.int .i64 0)) (ds := [6]) #[false, false, false, false, false, false, false] z101_19 rfl rfl ⟨(bC_ BK137.out 0).trans rfl, (bC_ BK137.out 1).trans rfl, (bC_ BK137.out 2).trans rfl, (bC_ BK137.out 3).trans rfl, (bC_ BK137.out 4).trans rfl, (bC_ BK137.out 5).trans rfl⟩ (fun hHeld => ?_)
    generalize w17.drew = w18 at BK127 BK137 HI0 HK HB hHeld ⊢
    refine pure_ (i := 0) (N := some 12) (v := ?_) (a' := ?_) #[true, false, false, false, false, false, false] rfl rfl z101_19 (fun _ _ _ h => h) (Or.inl ⟨by rfl, ?_⟩) ?_ ?_
    rotate_left
    · intro w'
      go_simp
      with_reducible rfl
    rotate_left
    · simp only [Act.put, List.setIfInBounds_toArray, List.set_cons_zero, List.set_cons_succ, i64_w, i32_w]
      rfl
    refine pure_ (i := 2) (N := some 14) (v := ?_) (a' := ?_) #[true, false, true, false, false, false, false] rfl rfl z101_19 (fun _ _ _ h => h) (Or.inl ⟨by rfl, ?_⟩) ?_ ?_
    rotate_left
    · intro w'
      go_simp
      with_reducible rfl
    rotate_left
    · simp only [Act.put, List.setIfInBounds_toArray, List.set_cons_zero, List.set_cons_succ, i64_w, i32_w]
      rfl
    refine take_ (i := 1) (N := some 13) (v := ?_) (a' := ?_) #[true, true, true, false, false, false, false] rfl rfl z101_19 (fun _ _ _ h => h) (Or.inl ⟨by rfl, ?_⟩) hHeld ?_ ?_
    rotate_left
    · rintro w' ⟨s0, s1, s2, s3, s4, s5⟩
      go_simp
      with_reducible rfl
    rotate_left
    · simp only [Act.put, List.setIfInBounds_toArray, List.set_cons_zero, List.set_cons_succ, i64_w, i32_w]
      rfl
    refine one_ (i := 3) (N := some 15) #[true, true, true, true, false, false, false] rfl rfl z101_19 (by decide) (fun K hK => ?_)
    refine goes_ Try.func85 z101_19 rfl #[.pointer (some ⟨g, 0, none⟩), .int .i64 30] (by rfl) rfl rfl z101_1 ?_
    with_reducible refine (spec_l1Below.calls g s0_0 t135 t136 30 t138 t139 t140 w0 _ ?side1 ?side2 A5.out).mono ?_
    (case side1 => repeat (first | (with_reducible first | exact HI0.out | apply IsS87.alloc | apply IsS87.drewN | apply IsS87.drew | apply IsS87.set_1 | apply IsS87.set_2 | refine IsS87.far ?_ NB0_127.out _ | refine IsS87.far ?_ NB0_137.out _) | exact HI0.out))
    (case side2 => repeat (first | (with_reducible first | exact HB.out | apply bA_ | apply bN_ | apply bD_ | refine bS_ ?_ (IsS87.ge HI0.out) | refine bS_ ?_ GE127.out | refine bS_ ?_ GE137.out) | exact HB.out))
    rintro e w19 ⟨rfl, hi, hb, hk⟩
    refine ⟨_, rfl, ?_⟩
    have n0_ := Aside0.mk (KeepBut.blk hk (g' := gb127) (o := .cells #[.int .i64 0, .int .i64 0, .int .i64 0, .int .i64 0, .int .i64 0, .int .i64 0] 54 (0, 0)) (pB101_ BK127.out) NB127_0.out (by simp))
    have n1_ := Aside0.mk (KeepBut.blk hk (g' := gb137) (o := .cells #[.int .i64 (wrap64 (1 + t128)), .int .i64 0, .int .i64 0, .int .i64 t131, .int .i64 t134, .int .i64 0] 54 (0, 0)) (pB101_ BK137.out) NB137_0.out (by simp))
    have n2_ := Aside0.mk (KeepBut.trans z101_2 hk (.inl rfl))
    have n3_ := Aside0.mk (hb)
    have n4_ := Aside0.mk (hi)
    clear BK127
    clear BK137
    clear HK
    clear HB
    clear HI0
    have BK127 := n0_
    have BK137 := n1_
    have HK := n2_
    have HB := n3_
    have HI0 := n4_
    clear n0_ n1_ n2_ n3_ n4_
    (try clear hb)
    (try clear hb2)
    (try clear hk)
    (try clear hi)
    refine hK.out _ _ ⟨(bC_ BK137.out 0).trans rfl, (bC_ BK137.out 1).trans rfl, (bC_ BK137.out 2).trans rfl, (bC_ BK137.out 3).trans rfl, (bC_ BK137.out 4).trans rfl, (bC_ BK137.out 5).trans rfl⟩ (fun hHeld => ?_)
    clear hK K
    refine norm_ (a' := ?_) ?_ ?_
    rotate_left
    · show Act.put _ (some 15) _ = _
      simp only [Act.put, List.setIfInBounds_toArray, List.set_cons_zero, List.set_cons_succ, i64_w, i32_w]
      rfl
    refine pure_ (i := 4) (N := some 16) (v := ?_) (a' := ?_) #[true, true, true, true, true, false, false] rfl rfl z101_19 (fun _ _ _ h => h) (Or.inl ⟨by rfl, ?_⟩) ?_ ?_
    rotate_left
    · intro w'
      go_simp
      with_reducible rfl
    rotate_left
    · simp only [Act.put, List.setIfInBounds_toArray, List.set_cons_zero, List.set_cons_succ, i64_w, i32_w]
      rfl
    refine pure_ (i := 5) (N := some 17) (v := ?_) (a' := ?_) #[true, true, true, true, true, true, false] rfl rfl z101_19 (fun _ _ _ h => h) (Or.inl ⟨by rfl, ?_⟩) ?_ ?_
    rotate_left
    · intro w'
      go_simp
      with_reducible rfl
    rotate_left
    · simp only [Act.put, List.setIfInBounds_toArray, List.set_cons_zero, List.set_cons_succ, i64_w, i32_w]
      rfl
    refine last_ (i := 6) (N := none) #[true, true, true, true, true, true, true] rfl rfl z101_19 (by decide) (fun K hK => ?_)
    have hs20 : w19.cell? ⟨gb137, 5, none⟩ = some (.int .i64 0) := (bC_ BK137.out 5).trans rfl
    have hfs20 := bF_ BK137.out 5
    have hns20_0 := NB127_137.out
    have hms20_0 := NB137_127.out
    refine skip_ (w1 := ?_) (by rfl) rfl ?_ ?_
    rotate_left
    · go_simp
      rfl
    refine hK.out _ _ ?_
    clear hK K
    refine done_ z101_19 ?_
    have hcz21_0 : w19.cell? ⟨gb137, 0, none⟩ = some (.int .i64 (wrap64 (1 + t128))) := (bC_ BK137.out 0).trans rfl
    have hcz21_1 : w19.cell? ⟨gb137, 1, none⟩ = some (.int .i64 0) := (bC_ BK137.out 1).trans rfl
    have hcz21_2 : w19.cell? ⟨gb137, 2, none⟩ = some (.int .i64 0) := (bC_ BK137.out 2).trans rfl
    have hcz21_3 : w19.cell? ⟨gb137, 3, none⟩ = some (.int .i64 t131) := (bC_ BK137.out 3).trans rfl
    have hcz21_4 : w19.cell? ⟨gb137, 4, none⟩ = some (.int .i64 t134) := (bC_ BK137.out 4).trans rfl
    have hcz21_5 : w19.cell? ⟨gb137, 5, none⟩ = some (.int .i64 0) := (bC_ BK137.out 5).trans rfl
    have hfz21_0 := bF_ BK137.out 0
    have hfz21_1 := bF_ BK137.out 1
    have hfz21_2 := bF_ BK137.out 2
    have hfz21_3 := bF_ BK137.out 3
    have hfz21_4 := bF_ BK137.out 4
    have hfz21_5 := bF_ BK137.out 5
    try go_wp2_with (first | ((with_reducible refine gate_callee (f := 117) rfl ?_); refine goesL_ (some 29) rfl rfl Try.func117 z101_19 rfl #[.pointer (some ⟨g, 0, none⟩), .int .i64 1] rfl z101_1 ?_; (with_reducible refine (spec_l5Name.calls g s0_0 t139 t140 1 t141 t142 t143 w0 _ ?side1 ?side2 A7.out).mono ?_); (case side1 => repeat (first | (with_reducible first | exact HI0.out | apply IsS87.alloc | apply IsS87.drewN | apply IsS87.drew | apply IsS87.set_1 | apply IsS87.set_2 | refine IsS87.far ?_ NB0_127.out _ | refine IsS87.far ?_ NB0_137.out _) | exact HI0.out)); (case side2 => repeat (first | (with_reducible first | exact HB.out | apply bA_ | apply bN_ | apply bD_ | refine bS_ ?_ (IsS87.ge HI0.out) | refine bS_ ?_ GE127.out | refine bS_ ?_ GE137.out) | exact HB.out)); rintro e w22 ⟨rfl, hi, hb, hk⟩; refine ⟨_, rfl, ?_⟩; have n0_ := Aside0.mk (KeepBut.blk hk (g' := gb127) (o := .cells #[.int .i64 0, .int .i64 0, .int .i64 0, .int .i64 0, .int .i64 0, .int .i64 0] 54 (0, 0)) z101_3 NB127_0.out (by simp)); have n1_ := Aside0.mk (KeepBut.blk hk (g' := gb137) (o := .cells #[.int .i64 (wrap64 (1 + t128)), .int .i64 0, .int .i64 0, .int .i64 t131, .int .i64 t134, .int .i64 (wrap64 (t134 + t138))] 54 (0, 0)) z101_6 NB137_0.out (by simp)); have n2_ := Aside0.mk (KeepBut.trans z101_2 hk (.inl rfl)); have n3_ := Aside0.mk (hb); have n4_ := Aside0.mk (hi); clear BK127; clear BK137; clear HK; clear HB; clear HI0; have BK127 := n0_; have BK137 := n1_; have HK := n2_; have HB := n3_; have HI0 := n4_; clear n0_ n1_ n2_ n3_ n4_; (try clear hb); (try clear hb2); (try clear hk); (try clear hi); have hcz23_0 : w22.cell? ⟨gb137, 0, none⟩ = some (.int .i64 (wrap64 (1 + t128))) := (bC_ BK137.out 0).trans rfl; have hcz23_1 : w22.cell? ⟨gb137, 1, none⟩ = some (.int .i64 0) := (bC_ BK137.out 1).trans rfl; have hcz23_2 : w22.cell? ⟨gb137, 2, none⟩ = some (.int .i64 0) := (bC_ BK137.out 2).trans rfl; have hcz23_3 : w22.cell? ⟨gb137, 3, none⟩ = some (.int .i64 t131) := (bC_ BK137.out 3).trans rfl; have hcz23_4 : w22.cell? ⟨gb137, 4, none⟩ = some (.int .i64 t134) := (bC_ BK137.out 4).trans rfl; have hcz23_5 : w22.cell? ⟨gb137, 5, none⟩ = some (.int .i64 (wrap64 (t134 + t138))) := (bC_ BK137.out 5).trans rfl; have hfz23_0 := bF_ BK137.out 0; have hfz23_1 := bF_ BK137.out 1; have hfz23_2 := bF_ BK137.out 2; have hfz23_3 := bF_ BK137.out 3; have hfz23_4 := bF_ BK137.out 4; have hfz23_5 := bF_ BK137.out 5) | ((with_reducible refine gate_callee (f := 85) rfl ?_); refine goesL_ (some 32) rfl rfl Try.func85 z101_19 rfl #[.pointer (some ⟨g, 0, none⟩), .int .i64 4] rfl z101_1 ?_; (with_reducible refine (spec_l1Below.calls g s0_0 t142 t143 4 t144 t145 t146 w0 _ ?side1 ?side2 A8.out).mono ?_); (case side1 => repeat (first | (with_reducible first | exact HI0.out | apply IsS87.alloc | apply IsS87.drewN | apply IsS87.drew | apply IsS87.set_1 | apply IsS87.set_2 | refine IsS87.far ?_ NB0_127.out _ | refine IsS87.far ?_ NB0_137.out _) | exact HI0.out)); (case side2 => repeat (first | (with_reducible first | exact HB.out | apply bA_ | apply bN_ | apply bD_ | refine bS_ ?_ (IsS87.ge HI0.out) | refine bS_ ?_ GE127.out | refine bS_ ?_ GE137.out) | exact HB.out)); rintro e w24 ⟨rfl, hi, hb, hk⟩; refine ⟨_, rfl, ?_⟩; have n0_ := Aside0.mk (KeepBut.blk hk (g' := gb127) (o := .cells #[.int .i64 0, .int .i64 0, .int .i64 0, .int .i64 0, .int .i64 0, .int .i64 0] 54 (0, 0)) z101_3 NB127_0.out (by simp)); have n1_ := Aside0.mk (KeepBut.blk hk (g' := gb137) (o := .cells #[.int .i64 (wrap64 (1 + t128)), .int .i64 t141, .int .i64 0, .int .i64 t131, .int .i64 t134, .int .i64 (wrap64 (t134 + t138))] 54 (0, 0)) z101_5 NB137_0.out (by simp)); have n2_ := Aside0.mk (KeepBut.trans z101_2 hk (.inl rfl)); have n3_ := Aside0.mk (hb); have n4_ := Aside0.mk (hi); clear BK127; clear BK137; clear HK; clear HB; clear HI0; have BK127 := n0_; have BK137 := n1_; have HK := n2_; have HB := n3_; have HI0 := n4_; clear n0_ n1_ n2_ n3_ n4_; (try clear hb); (try clear hb2); (try clear hk); (try clear hi); have hcz25_0 : w24.cell? ⟨gb137, 0, none⟩ = some (.int .i64 (wrap64 (1 + t128))) := (bC_ BK137.out 0).trans rfl; have hcz25_1 : w24.cell? ⟨gb137, 1, none⟩ = some (.int .i64 t141) := (bC_ BK137.out 1).trans rfl; have hcz25_2 : w24.cell? ⟨gb137, 2, none⟩ = some (.int .i64 0) := (bC_ BK137.out 2).trans rfl; have hcz25_3 : w24.cell? ⟨gb137, 3, none⟩ = some (.int .i64 t131) := (bC_ BK137.out 3).trans rfl; have hcz25_4 : w24.cell? ⟨gb137, 4, none⟩ = some (.int .i64 t134) := (bC_ BK137.out 4).trans rfl; have hcz25_5 : w24.cell? ⟨gb137, 5, none⟩ = some (.int .i64 (wrap64 (t134 + t138))) := (bC_ BK137.out 5).trans rfl; have hfz25_0 := bF_ BK137.out 0; have hfz25_1 := bF_ BK137.out 1; have hfz25_2 := bF_ BK137.out 2; have hfz25_3 := bF_ BK137.out 3; have hfz25_4 := bF_ BK137.out 4; have hfz25_5 := bF_ BK137.out 5; have hnb26 := NB127_0.out; have hnc26 := NB0_127.out; have hcz27_0 : w24.cell? ⟨gb127, 0, none⟩ = some (.int .i64 0) := (bC_ BK127.out 0).trans rfl; have hcz27_1 : w24.cell? ⟨gb127, 1, none⟩ = some (.int .i64 0) := (bC_ BK127.out 1).trans rfl; have hcz27_2 : w24.cell? ⟨gb127, 2, none⟩ = some (.int .i64 0) := (bC_ BK127.out 2).trans rfl; have hcz27_3 : w24.cell? ⟨gb127, 3, none⟩ = some (.int .i64 0) := (bC_ BK127.out 3).trans rfl; have hcz27_4 : w24.cell? ⟨gb127, 4, none⟩ = some (.int .i64 0) := (bC_ BK127.out 4).trans rfl; have hcz27_5 : w24.cell? ⟨gb127, 5, none⟩ = some (.int .i64 0) := (bC_ BK127.out 5).trans rfl; have hfz27_0 := bF_ BK127.out 0; have hfz27_1 := bF_ BK127.out 1; have hfz27_2 := bF_ BK127.out 2; have hfz27_3 := bF_ BK127.out 3; have hfz27_4 := bF_ BK127.out 4; have hfz27_5 := bF_ BK127.out 5))
    refine bodyPost_ret (results_cell_row rfl _ _ gb127 54 #[.int .i64 (wrap64 (1 + t128)), .int .i64 t141, .int .i64 t144, .int .i64 t131, .int .i64 t134, .int .i64 (wrap64 (t134 + t138))] (0, 0) _ rfl (by (with_reducible repeat (first | refine blk_drewN ?_ _ | refine blk_drew ?_ | refine blk_alloc ?_ _)); refine blk_put (cs := #[.int .i64 (wrap64 (1 + t128)), .int .i64 t141, .int .i64 t144, .int .i64 t131, .int .i64 t134, .int .i64 0]) ?_ 5 _ rfl; (with_reducible repeat (first | refine blk_drewN ?_ _ | refine blk_drew ?_ | refine blk_alloc ?_ _)); refine blk_put (cs := #[.int .i64 (wrap64 (1 + t128)), .int .i64 t141, .int .i64 t144, .int .i64 t131, .int .i64 0, .int .i64 0]) ?_ 4 _ rfl; (with_reducible repeat (first | refine blk_drewN ?_ _ | refine blk_drew ?_ | refine blk_alloc ?_ _)); refine blk_put (cs := #[.int .i64 (wrap64 (1 + t128)), .int .i64 t141, .int .i64 t144, .int .i64 0, .int .i64 0, .int .i64 0]) ?_ 3 _ rfl; (with_reducible repeat (first | refine blk_drewN ?_ _ | refine blk_drew ?_ | refine blk_alloc ?_ _)); refine blk_put (cs := #[.int .i64 (wrap64 (1 + t128)), .int .i64 t141, .int .i64 0, .int .i64 0, .int .i64 0, .int .i64 0]) ?_ 2 _ rfl; (with_reducible repeat (first | refine blk_drewN ?_ _ | refine blk_drew ?_ | refine blk_alloc ?_ _)); refine blk_put (cs := #[.int .i64 (wrap64 (1 + t128)), .int .i64 0, .int .i64 0, .int .i64 0, .int .i64 0, .int .i64 0]) ?_ 1 _ rfl; (with_reducible repeat (first | refine blk_drewN ?_ _ | refine blk_drew ?_ | refine blk_alloc ?_ _)); refine blk_put (cs := #[.int .i64 0, .int .i64 0, .int .i64 0, .int .i64 0, .int .i64 0, .int .i64 0]) ?_ 0 _ rfl; (with_reducible repeat (first | refine blk_drewN ?_ _ | refine blk_drew ?_ | refine blk_alloc ?_ _)); refine blk_far ?_ NB127_137.out _; (with_reducible repeat (first | refine blk_drewN ?_ _ | refine blk_drew ?_ | refine blk_alloc ?_ _)); exact BK127.out) Try.underlying54 rfl z101_19) rfl ?_
    exact ⟨by first | rfl | (simp [errW_none, errW_some] <;> rfl) | (simp [*, errW_none, errW_some] <;> rfl), by repeat (first | (with_reducible first | exact HI0.out | apply IsS87.alloc | apply IsS87.drewN | apply IsS87.drew | apply IsS87.set_1 | apply IsS87.set_2 | refine IsS87.far ?_ NB0_127.out _ | refine IsS87.far ?_ NB0_137.out _) | exact HI0.out), by repeat (first | (with_reducible first | exact HB.out | apply bA_ | apply bN_ | apply bD_ | refine bS_ ?_ (IsS87.ge HI0.out) | refine bS_ ?_ GE127.out | refine bS_ ?_ GE137.out) | exact HB.out), by repeat (first | (with_reducible first | exact HK.out | apply KeepBut.set_ | apply keep_drewN | apply keep_drew | apply keep_alloc | refine keep_far ?_ GW127.out _ | refine keep_far ?_ GW137.out _) | exact HK.out)⟩
  · rw [if_neg c6] at H
    have c6b0 : ((wrap64 (1 + t128)) == 1) = false := beq_eq_false_iff_ne.mpr c6
    have c6b1 : ((wrap64 (1 + t128)) != 1) = true := bne_iff_ne.mpr c6
    by_cases c28 : (wrap64 (1 + t128)) = 2
    · rw [if_pos c28] at H
      have c28b0 : ((wrap64 (1 + t128)) == 2) = true := beq_iff_eq.mpr c28
      have c28b1 : ((wrap64 (1 + t128)) != 2) = false := bne_eq_false_iff_eq.mpr c28
      clear c28
      replace H := Option.bind_eq_some_iff.mp H
      obtain ⟨⟨t147, t148, t149⟩, A290, H⟩ := H
      replace H : ((spec_l5Name.f s0_0 t148 t149 2).bind fun bt150 => (some (wrap64 (1 + t128), t147, bt150.1, t131, t134, wrap64 (t134 + t138), bt150.2.1, bt150.2.2))) = some (r1, r2, r3, r4, r5, r6, r7, r8) := H
      have A29 := Aside0.mk A290
      clear A290
      replace H := Option.bind_eq_some_iff.mp H
      obtain ⟨⟨t150, t151, t152⟩, A300, H⟩ := H
      replace H : (some (wrap64 (1 + t128), t147, t150, t131, t134, wrap64 (t134 + t138), t151, t152)) = some (r1, r2, r3, r4, r5, r6, r7, r8) := H
      have A30 := Aside0.mk A300
      clear A300
      simp only [Option.some.injEq, Prod.mk.injEq] at H
      obtain ⟨rfl, rfl, rfl, rfl, rfl, rfl, rfl, rfl⟩ := H
      go_enter Try.func101, Try.ntmps101
      try go_wp2_with (first | ((with_reducible refine gate_dst (N := 2) rfl ?_); refine box_event ?hg (N := 2) ?hd (cs := #[.int .i64 0, .int .i64 0, .int .i64 0, .int .i64 0, .int .i64 0, .int .i64 0]) (t := 54) ?hr ?_; (case hd => rfl); (case hg => rfl); (case hr => first | (go_simp; done) | (go_simp; rfl)); intro gb127 hg w31 hbox hb; have n0_ := Aside0.mk (IsS87.below z101_16 hb); have n1_ := Aside0.mk (KeepBut.trans z101_4 (KeepBut.of_below hb g none) (.inl rfl)); have n2_ := Aside0.mk (below_step z101_15 hb); have n3_ := Aside0.mk (hbox); have n4_ := Aside0.mk ((z101_17 : w.heap.size ≤ gb127)); have n5_ := Aside0.mk ((Nat.le_trans HW0.out (z101_17 : w.heap.size ≤ gb127) : w0.heap.size ≤ gb127)); have n6_ := Aside0.mk ((z101_9 : g ≠ gb127)); have n7_ := Aside0.mk ((z101_10 : gb127 ≠ g)); clear HI0; clear HK; clear HB; have HI0 := n0_; have HK := n1_; have HB := n2_; have BK127 := n3_; have GW127 := n4_; have GE127 := n5_; have NB0_127 := n6_; have NB127_0 := n7_; clear n0_ n1_ n2_ n3_ n4_ n5_ n6_ n7_; clear hb hbox hg) | ((with_reducible refine gate_callee (f := 85) rfl ?_); refine goesL_ (some 5) rfl rfl Try.func85 z101_19 rfl #[.pointer (some ⟨g, 0, none⟩), .int .i64 4] rfl z101_1 ?_; (with_reducible refine (spec_l1Below.calls g s0_0 s0_1 s0_2 4 t128 t129 t130 w0 _ ?side1 ?side2 A2.out).mono ?_); (case side1 => repeat (first | (with_reducible first | exact HI0.out | apply IsS87.alloc | apply IsS87.drewN | apply IsS87.drew | apply IsS87.set_1 | apply IsS87.set_2 | refine IsS87.far ?_ NB0_127.out _) | exact HI0.out)); (case side2 => repeat (first | (with_reducible first | exact HB.out | apply bA_ | apply bN_ | apply bD_ | refine bS_ ?_ (IsS87.ge HI0.out) | refine bS_ ?_ GE127.out) | exact HB.out)); rintro e w32 ⟨rfl, hi, hb, hk⟩; refine ⟨_, rfl, ?_⟩; have n0_ := Aside0.mk (KeepBut.blk hk (g' := gb127) (o := .cells #[.int .i64 0, .int .i64 0, .int .i64 0, .int .i64 0, .int .i64 0, .int .i64 0] 54 (0, 0)) (pB101_ BK127.out) NB127_0.out (by simp)); have n1_ := Aside0.mk (KeepBut.trans z101_0 hk (.inl rfl)); have n2_ := Aside0.mk (hb); have n3_ := Aside0.mk (hi); clear BK127; clear HK; clear HB; clear HI0; have BK127 := n0_; have HK := n1_; have HB := n2_; have HI0 := n3_; clear n0_ n1_ n2_ n3_; (try clear hb); (try clear hb2); (try clear hk); (try clear hi)) | ((with_reducible refine gate_callee (f := 85) rfl ?_); refine goesL_ (some 8) rfl rfl Try.func85 z101_19 rfl #[.pointer (some ⟨g, 0, none⟩), .int .i64 3] rfl z101_1 ?_; (with_reducible refine (spec_l1Below.calls g s0_0 t129 t130 3 t131 t132 t133 w0 _ ?side1 ?side2 A3.out).mono ?_); (case side1 => repeat (first | (with_reducible first | exact HI0.out | apply IsS87.alloc | apply IsS87.drewN | apply IsS87.drew | apply IsS87.set_1 | apply IsS87.set_2 | refine IsS87.far ?_ NB0_127.out _) | exact HI0.out)); (case side2 => repeat (first | (with_reducible first | exact HB.out | apply bA_ | apply bN_ | apply bD_ | refine bS_ ?_ (IsS87.ge HI0.out) | refine bS_ ?_ GE127.out) | exact HB.out)); rintro e w33 ⟨rfl, hi, hb, hk⟩; refine ⟨_, rfl, ?_⟩; have n0_ := Aside0.mk (KeepBut.blk hk (g' := gb127) (o := .cells #[.int .i64 0, .int .i64 0, .int .i64 0, .int .i64 0, .int .i64 0, .int .i64 0] 54 (0, 0)) (pB101_ BK127.out) NB127_0.out (by simp)); have n1_ := Aside0.mk (KeepBut.trans z101_0 hk (.inl rfl)); have n2_ := Aside0.mk (hb); have n3_ := Aside0.mk (hi); clear BK127; clear HK; clear HB; clear HI0; have BK127 := n0_; have HK := n1_; have HB := n2_; have HI0 := n3_; clear n0_ n1_ n2_ n3_; (try clear hb); (try clear hb2); (try clear hk); (try clear hi)) | ((with_reducible refine gate_callee (f := 85) rfl ?_); refine goesL_ (some 10) rfl rfl Try.func85 z101_19 rfl #[.pointer (some ⟨g, 0, none⟩), .int .i64 20] rfl z101_1 ?_; (with_reducible refine (spec_l1Below.calls g s0_0 t132 t133 20 t134 t135 t136 w0 _ ?side1 ?side2 A4.out).mono ?_); (case side1 => repeat (first | (with_reducible first | exact HI0.out | apply IsS87.alloc | apply IsS87.drewN | apply IsS87.drew | apply IsS87.set_1 | apply IsS87.set_2 | refine IsS87.far ?_ NB0_127.out _) | exact HI0.out)); (case side2 => repeat (first | (with_reducible first | exact HB.out | apply bA_ | apply bN_ | apply bD_ | refine bS_ ?_ (IsS87.ge HI0.out) | refine bS_ ?_ GE127.out) | exact HB.out)); rintro e w34 ⟨rfl, hi, hb, hk⟩; refine ⟨_, rfl, ?_⟩; have n0_ := Aside0.mk (KeepBut.blk hk (g' := gb127) (o := .cells #[.int .i64 0, .int .i64 0, .int .i64 0, .int .i64 0, .int .i64 0, .int .i64 0] 54 (0, 0)) (pB101_ BK127.out) NB127_0.out (by simp)); have n1_ := Aside0.mk (KeepBut.trans z101_0 hk (.inl rfl)); have n2_ := Aside0.mk (hb); have n3_ := Aside0.mk (hi); clear BK127; clear HK; clear HB; clear HI0; have BK127 := n0_; have HK := n1_; have HB := n2_; have HI0 := n3_; clear n0_ n1_ n2_ n3_; (try clear hb); (try clear hb2); (try clear hk); (try clear hi)) | ((with_reducible refine gate_dst (N := 3) rfl ?_); refine box_event ?hg (N := 3) ?hd (cs := #[.int .i64 0, .int .i64 0, .int .i64 0, .int .i64 0, .int .i64 0, .int .i64 0]) (t := 54) ?hr ?_; (case hd => rfl); (case hg => rfl); (case hr => first | (go_simp; done) | (go_simp; rfl)); intro gb137 hg w35 hbox hb; have n0_ := Aside0.mk (IsS87.below z101_11 hb); have n1_ := Aside0.mk (blk_below (g := gb127) (o := .cells #[.int .i64 0, .int .i64 0, .int .i64 0, .int .i64 0, .int .i64 0, .int .i64 0] 54 (0, 0)) (pB101_ BK127.out) hb); have n2_ := Aside0.mk (KeepBut.trans z101_0 (KeepBut.of_below hb g none) (.inl rfl)); have n3_ := Aside0.mk (below_step z101_12 hb); have n4_ := Aside0.mk (hbox); have n5_ := Aside0.mk ((z101_18 : w.heap.size ≤ gb137)); have n6_ := Aside0.mk ((Nat.le_trans HW0.out (z101_18 : w.heap.size ≤ gb137) : w0.heap.size ≤ gb137)); have n7_ := Aside0.mk ((z101_13 : gb127 ≠ gb137)); have n8_ := Aside0.mk ((z101_14 : gb137 ≠ gb127)); have n9_ := Aside0.mk ((z101_7 : g ≠ gb137)); have n10_ := Aside0.mk ((z101_8 : gb137 ≠ g)); clear HI0; clear BK127; clear HK; clear HB; have HI0 := n0_; have BK127 := n1_; have HK := n2_; have HB := n3_; have BK137 := n4_; have GW137 := n5_; have GE137 := n6_; have NB127_137 := n7_; have NB137_127 := n8_; have NB0_137 := n9_; have NB137_0 := n10_; clear n0_ n1_ n2_ n3_ n4_ n5_ n6_ n7_ n8_ n9_ n10_; clear hb hbox hg; have hnb36 := NB137_127.out; have hnc36 := NB127_137.out; have hnb37 := NB137_0.out; have hnc37 := NB0_137.out; have hcz38_0 : w35.cell? ⟨gb137, 0, none⟩ = some (.int .i64 0) := (bC_ BK137.out 0).trans rfl; have hcz38_1 : w35.cell? ⟨gb137, 1, none⟩ = some (.int .i64 0) := (bC_ BK137.out 1).trans rfl; have hcz38_2 : w35.cell? ⟨gb137, 2, none⟩ = some (.int .i64 0) := (bC_ BK137.out 2).trans rfl; have hcz38_3 : w35.cell? ⟨gb137, 3, none⟩ = some (.int .i64 0) := (bC_ BK137.out 3).trans rfl; have hcz38_4 : w35.cell? ⟨gb137, 4, none⟩ = some (.int .i64 0) := (bC_ BK137.out 4).trans rfl; have hcz38_5 : w35.cell? ⟨gb137, 5, none⟩ = some (.int .i64 0) := (bC_ BK137.out 5).trans rfl; have hfz38_0 := bF_ BK137.out 0; have hfz38_1 := bF_ BK137.out 1; have hfz38_2 := bF_ BK137.out 2; have hfz38_3 := bF_ BK137.out 3; have hfz38_4 := bF_ BK137.out 4; have hfz38_5 := bF_ BK137.out 5))
      have n0_ : Aside0 (((((((w35.setCell ⟨gb137, 0, none⟩ (.int .i64 (wrap64 (1 + t128)))).setCell ⟨gb137, 1, none⟩ (.int .i64 0)).setCell ⟨gb137, 2, none⟩ (.int .i64 0)).setCell ⟨gb137, 3, none⟩ (.int .i64 t131)).setCell ⟨gb137, 4, none⟩ (.int .i64 t134)).setCell ⟨gb137, 5, none⟩ (.int .i64 0)).heap[gb127]? = some (.cells #[.int .i64 0, .int .i64 0, .int .i64 0, .int .i64 0, .int .i64 0, .int .i64 0] 54 (0, 0))) := ⟨by (with_reducible repeat (first | refine blk_drewN ?_ _ | refine blk_drew ?_ | refine blk_alloc ?_ _)); refine blk_far ?_ NB127_137.out _; (with_reducible repeat (first | refine blk_drewN ?_ _ | refine blk_drew ?_ | refine blk_alloc ?_ _)); refine blk_far ?_ NB127_137.out _; (with_reducible repeat (first | refine blk_drewN ?_ _ | refine blk_drew ?_ | refine blk_alloc ?_ _)); refine blk_far ?_ NB127_137.out _; (with_reducible repeat (first | refine blk_drewN ?_ _ | refine blk_drew ?_ | refine blk_alloc ?_ _)); refine blk_far ?_ NB127_137.out _; (with_reducible repeat (first | refine blk_drewN ?_ _ | refine blk_drew ?_ | refine blk_alloc ?_ _)); refine blk_far ?_ NB127_137.out _; (with_reducible repeat (first | refine blk_drewN ?_ _ | refine blk_drew ?_ | refine blk_alloc ?_ _)); refine blk_far ?_ NB127_137.out _; (with_reducible repeat (first | refine blk_drewN ?_ _ | refine blk_drew ?_ | refine blk_alloc ?_ _)); exact BK127.out⟩
      have n1_ : Aside0 (((((((w35.setCell ⟨gb137, 0, none⟩ (.int .i64 (wrap64 (1 + t128)))).setCell ⟨gb137, 1, none⟩ (.int .i64 0)).setCell ⟨gb137, 2, none⟩ (.int .i64 0)).setCell ⟨gb137, 3, none⟩ (.int .i64 t131)).setCell ⟨gb137, 4, none⟩ (.int .i64 t134)).setCell ⟨gb137, 5, none⟩ (.int .i64 0)).heap[gb137]? = some (.cells #[.int .i64 (wrap64 (1 + t128)), .int .i64 0, .int .i64 0, .int .i64 t131, .int .i64 t134, .int .i64 0] 54 (0, 0))) := ⟨by (with_reducible repeat (first | refine blk_drewN ?_ _ | refine blk_drew ?_ | refine blk_alloc ?_ _)); refine blk_put (cs := #[.int .i64 (wrap64 (1 + t128)), .int .i64 0, .int .i64 0, .int .i64 t131, .int .i64 t134, .int .i64 0]) ?_ 5 _ rfl; (with_reducible repeat (first | refine blk_drewN ?_ _ | refine blk_drew ?_ | refine blk_alloc ?_ _)); refine blk_put (cs := #[.int .i64 (wrap64 (1 + t128)), .int .i64 0, .int .i64 0, .int .i64 t131, .int .i64 0, .int .i64 0]) ?_ 4 _ rfl; (with_reducible repeat (first | refine blk_drewN ?_ _ | refine blk_drew ?_ | refine blk_alloc ?_ _)); refine blk_put (cs := #[.int .i64 (wrap64 (1 + t128)), .int .i64 0, .int .i64 0, .int .i64 0, .int .i64 0, .int .i64 0]) ?_ 3 _ rfl; (with_reducible repeat (first | refine blk_drewN ?_ _ | refine blk_drew ?_ | refine blk_alloc ?_ _)); refine blk_put (cs := #[.int .i64 (wrap64 (1 + t128)), .int .i64 0, .int .i64 0, .int .i64 0, .int .i64 0, .int .i64 0]) ?_ 2 _ rfl; (with_reducible repeat (first | refine blk_drewN ?_ _ | refine blk_drew ?_ | refine blk_alloc ?_ _)); refine blk_put (cs := #[.int .i64 (wrap64 (1 + t128)), .int .i64 0, .int .i64 0, .int .i64 0, .int .i64 0, .int .i64 0]) ?_ 1 _ rfl; (with_reducible repeat (first | refine blk_drewN ?_ _ | refine blk_drew ?_ | refine blk_alloc ?_ _)); refine blk_put (cs := #[.int .i64 0, .int .i64 0, .int .i64 0, .int .i64 0, .int .i64 0, .int .i64 0]) ?_ 0 _ rfl; (with_reducible repeat (first | refine blk_drewN ?_ _ | refine blk_drew ?_ | refine blk_alloc ?_ _)); exact BK137.out⟩
      have n2_ : Aside0 (IsS87 w0 ((((((w35.setCell ⟨gb137, 0, none⟩ (.int .i64 (wrap64 (1 + t128)))).setCell ⟨gb137, 1, none⟩ (.int .i64 0)).setCell ⟨gb137, 2, none⟩ (.int .i64 0)).setCell ⟨gb137, 3, none⟩ (.int .i64 t131)).setCell ⟨gb137, 4, none⟩ (.int .i64 t134)).setCell ⟨gb137, 5, none⟩ (.int .i64 0)) g s0_0 t135 t136) := ⟨by repeat (first | (with_reducible first | exact HI0.out | apply IsS87.alloc | apply IsS87.drewN | apply IsS87.drew | apply IsS87.set_1 | apply IsS87.set_2 | refine IsS87.far ?_ NB0_127.out _ | refine IsS87.far ?_ NB0_137.out _) | exact HI0.out)⟩
      have n3_ : Aside0 (KeepBut w ((((((w35.setCell ⟨gb137, 0, none⟩ (.int .i64 (wrap64 (1 + t128)))).setCell ⟨gb137, 1, none⟩ (.int .i64 0)).setCell ⟨gb137, 2, none⟩ (.int .i64 0)).setCell ⟨gb137, 3, none⟩ (.int .i64 t131)).setCell ⟨gb137, 4, none⟩ (.int .i64 t134)).setCell ⟨gb137, 5, none⟩ (.int .i64 0)) g none) := ⟨by repeat (first | (with_reducible first | exact HK.out | apply KeepBut.set_ | apply keep_drewN | apply keep_drew | apply keep_alloc | refine keep_far ?_ GW127.out _ | refine keep_far ?_ GW137.out _) | exact HK.out)⟩
      have n4_ : Aside0 (Below w0.heap.size w0 ((((((w35.setCell ⟨gb137, 0, none⟩ (.int .i64 (wrap64 (1 + t128)))).setCell ⟨gb137, 1, none⟩ (.int .i64 0)).setCell ⟨gb137, 2, none⟩ (.int .i64 0)).setCell ⟨gb137, 3, none⟩ (.int .i64 t131)).setCell ⟨gb137, 4, none⟩ (.int .i64 t134)).setCell ⟨gb137, 5, none⟩ (.int .i64 0))) := ⟨by repeat (first | (with_reducible first | exact HB.out | apply bA_ | apply bN_ | apply bD_ | refine bS_ ?_ (IsS87.ge HI0.out) | refine bS_ ?_ GE127.out | refine bS_ ?_ GE137.out) | exact HB.out)⟩
      (try clear BK127)
      (try clear BK137)
      (try clear HI0)
      (try clear HK)
      (try clear HB)
      generalize ((((((w35.setCell ⟨gb137, 0, none⟩ (.int .i64 (wrap64 (1 + t128)))).setCell ⟨gb137, 1, none⟩ (.int .i64 0)).setCell ⟨gb137, 2, none⟩ (.int .i64 0)).setCell ⟨gb137, 3, none⟩ (.int .i64 t131)).setCell ⟨gb137, 4, none⟩ (.int .i64 t134)).setCell ⟨gb137, 5, none⟩ (.int .i64 0)) = w39 at n0_ n1_ n2_ n3_ n4_ ⊢
      have BK127 := n0_
      have BK137 := n1_
      have HI0 := n2_
      have HK := n3_
      have HB := n4_
      clear n0_ n1_ n2_ n3_ n4_
      have n0_ := Aside0.mk (blk_drew BK127.out)
      have n1_ := Aside0.mk (blk_drew BK137.out)
      have n2_ := Aside0.mk (IsS87.drew HI0.out)
      have n3_ := Aside0.mk (keep_drew HK.out)
      have n4_ := Aside0.mk (bD_ HB.out)
      clear BK127
      clear BK137
      clear HI0
      clear HK
      clear HB
      have BK127 := n0_
      have BK137 := n1_
      have HI0 := n2_
      have HK := n3_
      have HB := n4_
      clear n0_ n1_ n2_ n3_ n4_
      refine start_ (n := 7) (S := fun w' => w'.cell? ⟨gb137, 0, none⟩ = some (.int .i64 (wrap64 (1 + t128))) ∧ w'.cell? ⟨gb137, 1, none⟩ = some (.int .i64 0) ∧ w'.cell? ⟨gb137, 2, none⟩ = some (.int .i64 0) ∧ w'.cell? ⟨gb137, 3, none⟩ = some (.int .i64 t131) ∧ w'.cell? ⟨gb137, 4, none⟩ = some (.int .i64 t134) ∧ w'.cell? ⟨gb137, 5, none⟩ = some (.int .i64 0)) (ds := [6]) #[false, false, false, false, false, false, false] z101_19 rfl rfl ⟨(bC_ BK137.out 0).trans rfl, (bC_ BK137.out 1).trans rfl, (bC_ BK137.out 2).trans rfl, (bC_ BK137.out 3).trans rfl, (bC_ BK137.out 4).trans rfl, (bC_ BK137.out 5).trans rfl⟩ (fun hHeld => ?_)
      generalize w39.drew = w40 at BK127 BK137 HI0 HK HB hHeld ⊢
      refine pure_ (i := 0) (N := some 12) (v := ?_) (a' := ?_) #[true, false, false, false, false, false, false] rfl rfl z101_19 (fun _ _ _ h => h) (Or.inl ⟨by rfl, ?_⟩) ?_ ?_
      rotate_left
      · intro w'
        go_simp
        with_reducible rfl
      rotate_left
      · simp only [Act.put, List.setIfInBounds_toArray, List.set_cons_zero, List.set_cons_succ, i64_w, i32_w]
        rfl
      refine pure_ (i := 2) (N := some 14) (v := ?_) (a' := ?_) #[true, false, true, false, false, false, false] rfl rfl z101_19 (fun _ _ _ h => h) (Or.inl ⟨by rfl, ?_⟩) ?_ ?_
      rotate_left
      · intro w'
        go_simp
        with_reducible rfl
      rotate_left
      · simp only [Act.put, List.setIfInBounds_toArray, List.set_cons_zero, List.set_cons_succ, i64_w, i32_w]
        rfl
      refine take_ (i := 1) (N := some 13) (v := ?_) (a' := ?_) #[true, true, true, false, false, false, false] rfl rfl z101_19 (fun _ _ _ h => h) (Or.inl ⟨by rfl, ?_⟩) hHeld ?_ ?_
      rotate_left
      · rintro w' ⟨s0, s1, s2, s3, s4, s5⟩
        go_simp
        with_reducible rfl
      rotate_left
      · simp only [Act.put, List.setIfInBounds_toArray, List.set_cons_zero, List.set_cons_succ, i64_w, i32_w]
        rfl
      refine one_ (i := 3) (N := some 15) #[true, true, true, true, false, false, false] rfl rfl z101_19 (by decide) (fun K hK => ?_)
      refine goes_ Try.func85 z101_19 rfl #[.pointer (some ⟨g, 0, none⟩), .int .i64 30] (by rfl) rfl rfl z101_1 ?_
      with_reducible refine (spec_l1Below.calls g s0_0 t135 t136 30 t138 t139 t140 w0 _ ?side1 ?side2 A5.out).mono ?_
      (case side1 => repeat (first | (with_reducible first | exact HI0.out | apply IsS87.alloc | apply IsS87.drewN | apply IsS87.drew | apply IsS87.set_1 | apply IsS87.set_2 | refine IsS87.far ?_ NB0_127.out _ | refine IsS87.far ?_ NB0_137.out _) | exact HI0.out))
      (case side2 => repeat (first | (with_reducible first | exact HB.out | apply bA_ | apply bN_ | apply bD_ | refine bS_ ?_ (IsS87.ge HI0.out) | refine bS_ ?_ GE127.out | refine bS_ ?_ GE137.out) | exact HB.out))
      rintro e w41 ⟨rfl, hi, hb, hk⟩
      refine ⟨_, rfl, ?_⟩
      have n0_ := Aside0.mk (KeepBut.blk hk (g' := gb127) (o := .cells #[.int .i64 0, .int .i64 0, .int .i64 0, .int .i64 0, .int .i64 0, .int .i64 0] 54 (0, 0)) (pB101_ BK127.out) NB127_0.out (by simp))
      have n1_ := Aside0.mk (KeepBut.blk hk (g' := gb137) (o := .cells #[.int .i64 (wrap64 (1 + t128)), .int .i64 0, .int .i64 0, .int .i64 t131, .int .i64 t134, .int .i64 0] 54 (0, 0)) (pB101_ BK137.out) NB137_0.out (by simp))
      have n2_ := Aside0.mk (KeepBut.trans z101_2 hk (.inl rfl))
      have n3_ := Aside0.mk (hb)
      have n4_ := Aside0.mk (hi)
      clear BK127
      clear BK137
      clear HK
      clear HB
      clear HI0
      have BK127 := n0_
      have BK137 := n1_
      have HK := n2_
      have HB := n3_
      have HI0 := n4_
      clear n0_ n1_ n2_ n3_ n4_
      (try clear hb)
      (try clear hb2)
      (try clear hk)
      (try clear hi)
      refine hK.out _ _ ⟨(bC_ BK137.out 0).trans rfl, (bC_ BK137.out 1).trans rfl, (bC_ BK137.out 2).trans rfl, (bC_ BK137.out 3).trans rfl, (bC_ BK137.out 4).trans rfl, (bC_ BK137.out 5).trans rfl⟩ (fun hHeld => ?_)
      clear hK K
      refine norm_ (a' := ?_) ?_ ?_
      rotate_left
      · show Act.put _ (some 15) _ = _
        simp only [Act.put, List.setIfInBounds_toArray, List.set_cons_zero, List.set_cons_succ, i64_w, i32_w]
        rfl
      refine pure_ (i := 4) (N := some 16) (v := ?_) (a' := ?_) #[true, true, true, true, true, false, false] rfl rfl z101_19 (fun _ _ _ h => h) (Or.inl ⟨by rfl, ?_⟩) ?_ ?_
      rotate_left
      · intro w'
        go_simp
        with_reducible rfl
      rotate_left
      · simp only [Act.put, List.setIfInBounds_toArray, List.set_cons_zero, List.set_cons_succ, i64_w, i32_w]
        rfl
      refine pure_ (i := 5) (N := some 17) (v := ?_) (a' := ?_) #[true, true, true, true, true, true, false] rfl rfl z101_19 (fun _ _ _ h => h) (Or.inl ⟨by rfl, ?_⟩) ?_ ?_
      rotate_left
      · intro w'
        go_simp
        with_reducible rfl
      rotate_left
      · simp only [Act.put, List.setIfInBounds_toArray, List.set_cons_zero, List.set_cons_succ, i64_w, i32_w]
        rfl
      refine last_ (i := 6) (N := none) #[true, true, true, true, true, true, true] rfl rfl z101_19 (by decide) (fun K hK => ?_)
      have hs42 : w41.cell? ⟨gb137, 5, none⟩ = some (.int .i64 0) := (bC_ BK137.out 5).trans rfl
      have hfs42 := bF_ BK137.out 5
      have hns42_0 := NB127_137.out
      have hms42_0 := NB137_127.out
      refine skip_ (w1 := ?_) (by rfl) rfl ?_ ?_
      rotate_left
      · go_simp
        rfl
      refine hK.out _ _ ?_
      clear hK K
      refine done_ z101_19 ?_
      have hcz43_0 : w41.cell? ⟨gb137, 0, none⟩ = some (.int .i64 (wrap64 (1 + t128))) := (bC_ BK137.out 0).trans rfl
      have hcz43_1 : w41.cell? ⟨gb137, 1, none⟩ = some (.int .i64 0) := (bC_ BK137.out 1).trans rfl
      have hcz43_2 : w41.cell? ⟨gb137, 2, none⟩ = some (.int .i64 0) := (bC_ BK137.out 2).trans rfl
      have hcz43_3 : w41.cell? ⟨gb137, 3, none⟩ = some (.int .i64 t131) := (bC_ BK137.out 3).trans rfl
      have hcz43_4 : w41.cell? ⟨gb137, 4, none⟩ = some (.int .i64 t134) := (bC_ BK137.out 4).trans rfl
      have hcz43_5 : w41.cell? ⟨gb137, 5, none⟩ = some (.int .i64 0) := (bC_ BK137.out 5).trans rfl
      have hfz43_0 := bF_ BK137.out 0
      have hfz43_1 := bF_ BK137.out 1
      have hfz43_2 := bF_ BK137.out 2
      have hfz43_3 := bF_ BK137.out 3
      have hfz43_4 := bF_ BK137.out 4
      have hfz43_5 := bF_ BK137.out 5
      try go_wp2_with (first | ((with_reducible refine gate_callee (f := 117) rfl ?_); refine goesL_ (some 37) rfl rfl Try.func117 z101_19 rfl #[.pointer (some ⟨g, 0, none⟩), .int .i64 1] rfl z101_1 ?_; (with_reducible refine (spec_l5Name.calls g s0_0 t139 t140 1 t147 t148 t149 w0 _ ?side1 ?side2 A29.out).mono ?_); (case side1 => repeat (first | (with_reducible first | exact HI0.out | apply IsS87.alloc | apply IsS87.drewN | apply IsS87.drew | apply IsS87.set_1 | apply IsS87.set_2 | refine IsS87.far ?_ NB0_127.out _ | refine IsS87.far ?_ NB0_137.out _) | exact HI0.out)); (case side2 => repeat (first | (with_reducible first | exact HB.out | apply bA_ | apply bN_ | apply bD_ | refine bS_ ?_ (IsS87.ge HI0.out) | refine bS_ ?_ GE127.out | refine bS_ ?_ GE137.out) | exact HB.out)); rintro e w44 ⟨rfl, hi, hb, hk⟩; refine ⟨_, rfl, ?_⟩; have n0_ := Aside0.mk (KeepBut.blk hk (g' := gb127) (o := .cells #[.int .i64 0, .int .i64 0, .int .i64 0, .int .i64 0, .int .i64 0, .int .i64 0] 54 (0, 0)) z101_3 NB127_0.out (by simp)); have n1_ := Aside0.mk (KeepBut.blk hk (g' := gb137) (o := .cells #[.int .i64 (wrap64 (1 + t128)), .int .i64 0, .int .i64 0, .int .i64 t131, .int .i64 t134, .int .i64 (wrap64 (t134 + t138))] 54 (0, 0)) z101_6 NB137_0.out (by simp)); have n2_ := Aside0.mk (KeepBut.trans z101_2 hk (.inl rfl)); have n3_ := Aside0.mk (hb); have n4_ := Aside0.mk (hi); clear BK127; clear BK137; clear HK; clear HB; clear HI0; have BK127 := n0_; have BK137 := n1_; have HK := n2_; have HB := n3_; have HI0 := n4_; clear n0_ n1_ n2_ n3_ n4_; (try clear hb); (try clear hb2); (try clear hk); (try clear hi); have hcz45_0 : w44.cell? ⟨gb137, 0, none⟩ = some (.int .i64 (wrap64 (1 + t128))) := (bC_ BK137.out 0).trans rfl; have hcz45_1 : w44.cell? ⟨gb137, 1, none⟩ = some (.int .i64 0) := (bC_ BK137.out 1).trans rfl; have hcz45_2 : w44.cell? ⟨gb137, 2, none⟩ = some (.int .i64 0) := (bC_ BK137.out 2).trans rfl; have hcz45_3 : w44.cell? ⟨gb137, 3, none⟩ = some (.int .i64 t131) := (bC_ BK137.out 3).trans rfl; have hcz45_4 : w44.cell? ⟨gb137, 4, none⟩ = some (.int .i64 t134) := (bC_ BK137.out 4).trans rfl; have hcz45_5 : w44.cell? ⟨gb137, 5, none⟩ = some (.int .i64 (wrap64 (t134 + t138))) := (bC_ BK137.out 5).trans rfl; have hfz45_0 := bF_ BK137.out 0; have hfz45_1 := bF_ BK137.out 1; have hfz45_2 := bF_ BK137.out 2; have hfz45_3 := bF_ BK137.out 3; have hfz45_4 := bF_ BK137.out 4; have hfz45_5 := bF_ BK137.out 5) | ((with_reducible refine gate_callee (f := 117) rfl ?_); refine goesL_ (some 40) rfl rfl Try.func117 z101_19 rfl #[.pointer (some ⟨g, 0, none⟩), .int .i64 2] rfl z101_1 ?_; (with_reducible refine (spec_l5Name.calls g s0_0 t148 t149 2 t150 t151 t152 w0 _ ?side1 ?side2 A30.out).mono ?_); (case side1 => repeat (first | (with_reducible first | exact HI0.out | apply IsS87.alloc | apply IsS87.drewN | apply IsS87.drew | apply IsS87.set_1 | apply IsS87.set_2 | refine IsS87.far ?_ NB0_127.out _ | refine IsS87.far ?_ NB0_137.out _) | exact HI0.out)); (case side2 => repeat (first | (with_reducible first | exact HB.out | apply bA_ | apply bN_ | apply bD_ | refine bS_ ?_ (IsS87.ge HI0.out) | refine bS_ ?_ GE127.out | refine bS_ ?_ GE137.out) | exact HB.out)); rintro e w46 ⟨rfl, hi, hb, hk⟩; refine ⟨_, rfl, ?_⟩; have n0_ := Aside0.mk (KeepBut.blk hk (g' := gb127) (o := .cells #[.int .i64 0, .int .i64 0, .int .i64 0, .int .i64 0, .int .i64 0, .int .i64 0] 54 (0, 0)) z101_3 NB127_0.out (by simp)); have n1_ := Aside0.mk (KeepBut.blk hk (g' := gb137) (o := .cells #[.int .i64 (wrap64 (1 + t128)), .int .i64 t147, .int .i64 0, .int .i64 t131, .int .i64 t134, .int .i64 (wrap64 (t134 + t138))] 54 (0, 0)) z101_5 NB137_0.out (by simp)); have n2_ := Aside0.mk (KeepBut.trans z101_2 hk (.inl rfl)); have n3_ := Aside0.mk (hb); have n4_ := Aside0.mk (hi); clear BK127; clear BK137; clear HK; clear HB; clear HI0; have BK127 := n0_; have BK137 := n1_; have HK := n2_; have HB := n3_; have HI0 := n4_; clear n0_ n1_ n2_ n3_ n4_; (try clear hb); (try clear hb2); (try clear hk); (try clear hi); have hcz47_0 : w46.cell? ⟨gb137, 0, none⟩ = some (.int .i64 (wrap64 (1 + t128))) := (bC_ BK137.out 0).trans rfl; have hcz47_1 : w46.cell? ⟨gb137, 1, none⟩ = some (.int .i64 t147) := (bC_ BK137.out 1).trans rfl; have hcz47_2 : w46.cell? ⟨gb137, 2, none⟩ = some (.int .i64 0) := (bC_ BK137.out 2).trans rfl; have hcz47_3 : w46.cell? ⟨gb137, 3, none⟩ = some (.int .i64 t131) := (bC_ BK137.out 3).trans rfl; have hcz47_4 : w46.cell? ⟨gb137, 4, none⟩ = some (.int .i64 t134) := (bC_ BK137.out 4).trans rfl; have hcz47_5 : w46.cell? ⟨gb137, 5, none⟩ = some (.int .i64 (wrap64 (t134 + t138))) := (bC_ BK137.out 5).trans rfl; have hfz47_0 := bF_ BK137.out 0; have hfz47_1 := bF_ BK137.out 1; have hfz47_2 := bF_ BK137.out 2; have hfz47_3 := bF_ BK137.out 3; have hfz47_4 := bF_ BK137.out 4; have hfz47_5 := bF_ BK137.out 5; have hnb48 := NB127_0.out; have hnc48 := NB0_127.out; have hcz49_0 : w46.cell? ⟨gb127, 0, none⟩ = some (.int .i64 0) := (bC_ BK127.out 0).trans rfl; have hcz49_1 : w46.cell? ⟨gb127, 1, none⟩ = some (.int .i64 0) := (bC_ BK127.out 1).trans rfl; have hcz49_2 : w46.cell? ⟨gb127, 2, none⟩ = some (.int .i64 0) := (bC_ BK127.out 2).trans rfl; have hcz49_3 : w46.cell? ⟨gb127, 3, none⟩ = some (.int .i64 0) := (bC_ BK127.out 3).trans rfl; have hcz49_4 : w46.cell? ⟨gb127, 4, none⟩ = some (.int .i64 0) := (bC_ BK127.out 4).trans rfl; have hcz49_5 : w46.cell? ⟨gb127, 5, none⟩ = some (.int .i64 0) := (bC_ BK127.out 5).trans rfl; have hfz49_0 := bF_ BK127.out 0; have hfz49_1 := bF_ BK127.out 1; have hfz49_2 := bF_ BK127.out 2; have hfz49_3 := bF_ BK127.out 3; have hfz49_4 := bF_ BK127.out 4; have hfz49_5 := bF_ BK127.out 5))
      refine bodyPost_ret (results_cell_row rfl _ _ gb127 54 #[.int .i64 (wrap64 (1 + t128)), .int .i64 t147, .int .i64 t150, .int .i64 t131, .int .i64 t134, .int .i64 (wrap64 (t134 + t138))] (0, 0) _ rfl (by (with_reducible repeat (first | refine blk_drewN ?_ _ | refine blk_drew ?_ | refine blk_alloc ?_ _)); refine blk_put (cs := #[.int .i64 (wrap64 (1 + t128)), .int .i64 t147, .int .i64 t150, .int .i64 t131, .int .i64 t134, .int .i64 0]) ?_ 5 _ rfl; (with_reducible repeat (first | refine blk_drewN ?_ _ | refine blk_drew ?_ | refine blk_alloc ?_ _)); refine blk_put (cs := #[.int .i64 (wrap64 (1 + t128)), .int .i64 t147, .int .i64 t150, .int .i64 t131, .int .i64 0, .int .i64 0]) ?_ 4 _ rfl; (with_reducible repeat (first | refine blk_drewN ?_ _ | refine blk_drew ?_ | refine blk_alloc ?_ _)); refine blk_put (cs := #[.int .i64 (wrap64 (1 + t128)), .int .i64 t147, .int .i64 t150, .int .i64 0, .int .i64 0, .int .i64 0]) ?_ 3 _ rfl; (with_reducible repeat (first | refine blk_drewN ?_ _ | refine blk_drew ?_ | refine blk_alloc ?_ _)); refine blk_put (cs := #[.int .i64 (wrap64 (1 + t128)), .int .i64 t147, .int .i64 0, .int .i64 0, .int .i64 0, .int .i64 0]) ?_ 2 _ rfl; (with_reducible repeat (first | refine blk_drewN ?_ _ | refine blk_drew ?_ | refine blk_alloc ?_ _)); refine blk_put (cs := #[.int .i64 (wrap64 (1 + t128)), .int .i64 0, .int .i64 0, .int .i64 0, .int .i64 0, .int .i64 0]) ?_ 1 _ rfl; (with_reducible repeat (first | refine blk_drewN ?_ _ | refine blk_drew ?_ | refine blk_alloc ?_ _)); refine blk_put (cs := #[.int .i64 0, .int .i64 0, .int .i64 0, .int .i64 0, .int .i64 0, .int .i64 0]) ?_ 0 _ rfl; (with_reducible repeat (first | refine blk_drewN ?_ _ | refine blk_drew ?_ | refine blk_alloc ?_ _)); refine blk_far ?_ NB127_137.out _; (with_reducible repeat (first | refine blk_drewN ?_ _ | refine blk_drew ?_ | refine blk_alloc ?_ _)); exact BK127.out) Try.underlying54 rfl z101_19) rfl ?_
      exact ⟨by first | rfl | (simp [errW_none, errW_some] <;> rfl) | (simp [*, errW_none, errW_some] <;> rfl), by repeat (first | (with_reducible first | exact HI0.out | apply IsS87.alloc | apply IsS87.drewN | apply IsS87.drew | apply IsS87.set_1 | apply IsS87.set_2 | refine IsS87.far ?_ NB0_127.out _ | refine IsS87.far ?_ NB0_137.out _) | exact HI0.out), by repeat (first | (with_reducible first | exact HB.out | apply bA_ | apply bN_ | apply bD_ | refine bS_ ?_ (IsS87.ge HI0.out) | refine bS_ ?_ GE127.out | refine bS_ ?_ GE137.out) | exact HB.out), by repeat (first | (with_reducible first | exact HK.out | apply KeepBut.set_ | apply keep_drewN | apply keep_drew | apply keep_alloc | refine keep_far ?_ GW127.out _ | refine keep_far ?_ GW137.out _) | exact HK.out)⟩
    · rw [if_neg c28] at H
      have c28b0 : ((wrap64 (1 + t128)) == 2) = false := beq_eq_false_iff_ne.mpr c28
      have c28b1 : ((wrap64 (1 + t128)) != 2) = true := bne_iff_ne.mpr c28
      by_cases c50 : (wrap64 (1 + t128)) = 3
      · rw [if_pos c50] at H
        have c50b0 : ((wrap64 (1 + t128)) == 3) = true := beq_iff_eq.mpr c50
        have c50b1 : ((wrap64 (1 + t128)) != 3) = false := bne_eq_false_iff_eq.mpr c50
        clear c50
        replace H := Option.bind_eq_some_iff.mp H
        obtain ⟨⟨t153, t154, t155⟩, A510, H⟩ := H
        replace H : ((spec_l1Below.f s0_0 t154 t155 4).bind fun bt156 => (some (wrap64 (1 + t128), t153, bt156.1, t131, t134, wrap64 (t134 + t138), bt156.2.1, bt156.2.2))) = some (r1, r2, r3, r4, r5, r6, r7, r8) := H
        have A51 := Aside0.mk A510
        clear A510
        replace H := Option.bind_eq_some_iff.mp H
        obtain ⟨⟨t156, t157, t158⟩, A520, H⟩ := H
        replace H : (some (wrap64 (1 + t128), t153, t156, t131, t134, wrap64 (t134 + t138), t157, t158)) = some (r1, r2, r3, r4, r5, r6, r7, r8) := H
        have A52 := Aside0.mk A520
        clear A520
        simp only [Option.some.injEq, Prod.mk.injEq] at H
        obtain ⟨rfl, rfl, rfl, rfl, rfl, rfl, rfl, rfl⟩ := H
        go_enter Try.func101, Try.ntmps101
        try go_wp2_with (first | ((with_reducible refine gate_dst (N := 2) rfl ?_); refine box_event ?hg (N := 2) ?hd (cs := #[.int .i64 0, .int .i64 0, .int .i64 0, .int .i64 0, .int .i64 0, .int .i64 0]) (t := 54) ?hr ?_; (case hd => rfl); (case hg => rfl); (case hr => first | (go_simp; done) | (go_simp; rfl)); intro gb127 hg w53 hbox hb; have n0_ := Aside0.mk (IsS87.below z101_16 hb); have n1_ := Aside0.mk (KeepBut.trans z101_4 (KeepBut.of_below hb g none) (.inl rfl)); have n2_ := Aside0.mk (below_step z101_15 hb); have n3_ := Aside0.mk (hbox); have n4_ := Aside0.mk ((z101_17 : w.heap.size ≤ gb127)); have n5_ := Aside0.mk ((Nat.le_trans HW0.out (z101_17 : w.heap.size ≤ gb127) : w0.heap.size ≤ gb127)); have n6_ := Aside0.mk ((z101_9 : g ≠ gb127)); have n7_ := Aside0.mk ((z101_10 : gb127 ≠ g)); clear HI0; clear HK; clear HB; have HI0 := n0_; have HK := n1_; have HB := n2_; have BK127 := n3_; have GW127 := n4_; have GE127 := n5_; have NB0_127 := n6_; have NB127_0 := n7_; clear n0_ n1_ n2_ n3_ n4_ n5_ n6_ n7_; clear hb hbox hg) | ((with_reducible refine gate_callee (f := 85) rfl ?_); refine goesL_ (some 5) rfl rfl Try.func85 z101_19 rfl #[.pointer (some ⟨g, 0, none⟩), .int .i64 4] rfl z101_1 ?_; (with_reducible refine (spec_l1Below.calls g s0_0 s0_1 s0_2 4 t128 t129 t130 w0 _ ?side1 ?side2 A2.out).mono ?_); (case side1 => repeat (first | (with_reducible first | exact HI0.out | apply IsS87.alloc | apply IsS87.drewN | apply IsS87.drew | apply IsS87.set_1 | apply IsS87.set_2 | refine IsS87.far ?_ NB0_127.out _) | exact HI0.out)); (case side2 => repeat (first | (with_reducible first | exact HB.out | apply bA_ | apply bN_ | apply bD_ | refine bS_ ?_ (IsS87.ge HI0.out) | refine bS_ ?_ GE127.out) | exact HB.out)); rintro e w54 ⟨rfl, hi, hb, hk⟩; refine ⟨_, rfl, ?_⟩; have n0_ := Aside0.mk (KeepBut.blk hk (g' := gb127) (o := .cells #[.int .i64 0, .int .i64 0, .int .i64 0, .int .i64 0, .int .i64 0, .int .i64 0] 54 (0, 0)) (pB101_ BK127.out) NB127_0.out (by simp)); have n1_ := Aside0.mk (KeepBut.trans z101_0 hk (.inl rfl)); have n2_ := Aside0.mk (hb); have n3_ := Aside0.mk (hi); clear BK127; clear HK; clear HB; clear HI0; have BK127 := n0_; have HK := n1_; have HB := n2_; have HI0 := n3_; clear n0_ n1_ n2_ n3_; (try clear hb); (try clear hb2); (try clear hk); (try clear hi)) | ((with_reducible refine gate_callee (f := 85) rfl ?_); refine goesL_ (some 8) rfl rfl Try.func85 z101_19 rfl #[.pointer (some ⟨g, 0, none⟩), .int .i64 3] rfl z101_1 ?_; (with_reducible refine (spec_l1Below.calls g s0_0 t129 t130 3 t131 t132 t133 w0 _ ?side1 ?side2 A3.out).mono ?_); (case side1 => repeat (first | (with_reducible first | exact HI0.out | apply IsS87.alloc | apply IsS87.drewN | apply IsS87.drew | apply IsS87.set_1 | apply IsS87.set_2 | refine IsS87.far ?_ NB0_127.out _) | exact HI0.out)); (case side2 => repeat (first | (with_reducible first | exact HB.out | apply bA_ | apply bN_ | apply bD_ | refine bS_ ?_ (IsS87.ge HI0.out) | refine bS_ ?_ GE127.out) | exact HB.out)); rintro e w55 ⟨rfl, hi, hb, hk⟩; refine ⟨_, rfl, ?_⟩; have n0_ := Aside0.mk (KeepBut.blk hk (g' := gb127) (o := .cells #[.int .i64 0, .int .i64 0, .int .i64 0, .int .i64 0, .int .i64 0, .int .i64 0] 54 (0, 0)) (pB101_ BK127.out) NB127_0.out (by simp)); have n1_ := Aside0.mk (KeepBut.trans z101_0 hk (.inl rfl)); have n2_ := Aside0.mk (hb); have n3_ := Aside0.mk (hi); clear BK127; clear HK; clear HB; clear HI0; have BK127 := n0_; have HK := n1_; have HB := n2_; have HI0 := n3_; clear n0_ n1_ n2_ n3_; (try clear hb); (try clear hb2); (try clear hk); (try clear hi)) | ((with_reducible refine gate_callee (f := 85) rfl ?_); refine goesL_ (some 10) rfl rfl Try.func85 z101_19 rfl #[.pointer (some ⟨g, 0, none⟩), .int .i64 20] rfl z101_1 ?_; (with_reducible refine (spec_l1Below.calls g s0_0 t132 t133 20 t134 t135 t136 w0 _ ?side1 ?side2 A4.out).mono ?_); (case side1 => repeat (first | (with_reducible first | exact HI0.out | apply IsS87.alloc | apply IsS87.drewN | apply IsS87.drew | apply IsS87.set_1 | apply IsS87.set_2 | refine IsS87.far ?_ NB0_127.out _) | exact HI0.out)); (case side2 => repeat (first | (with_reducible first | exact HB.out | apply bA_ | apply bN_ | apply bD_ | refine bS_ ?_ (IsS87.ge HI0.out) | refine bS_ ?_ GE127.out) | exact HB.out)); rintro e w56 ⟨rfl, hi, hb, hk⟩; refine ⟨_, rfl, ?_⟩; have n0_ := Aside0.mk (KeepBut.blk hk (g' := gb127) (o := .cells #[.int .i64 0, .int .i64 0, .int .i64 0, .int .i64 0, .int .i64 0, .int .i64 0] 54 (0, 0)) (pB101_ BK127.out) NB127_0.out (by simp)); have n1_ := Aside0.mk (KeepBut.trans z101_0 hk (.inl rfl)); have n2_ := Aside0.mk (hb); have n3_ := Aside0.mk (hi); clear BK127; clear HK; clear HB; clear HI0; have BK127 := n0_; have HK := n1_; have HB := n2_; have HI0 := n3_; clear n0_ n1_ n2_ n3_; (try clear hb); (try clear hb2); (try clear hk); (try clear hi)) | ((with_reducible refine gate_dst (N := 3) rfl ?_); refine box_event ?hg (N := 3) ?hd (cs := #[.int .i64 0, .int .i64 0, .int .i64 0, .int .i64 0, .int .i64 0, .int .i64 0]) (t := 54) ?hr ?_; (case hd => rfl); (case hg => rfl); (case hr => first | (go_simp; done) | (go_simp; rfl)); intro gb137 hg w57 hbox hb; have n0_ := Aside0.mk (IsS87.below z101_11 hb); have n1_ := Aside0.mk (blk_below (g := gb127) (o := .cells #[.int .i64 0, .int .i64 0, .int .i64 0, .int .i64 0, .int .i64 0, .int .i64 0] 54 (0, 0)) (pB101_ BK127.out) hb); have n2_ := Aside0.mk (KeepBut.trans z101_0 (KeepBut.of_below hb g none) (.inl rfl)); have n3_ := Aside0.mk (below_step z101_12 hb); have n4_ := Aside0.mk (hbox); have n5_ := Aside0.mk ((z101_18 : w.heap.size ≤ gb137)); have n6_ := Aside0.mk ((Nat.le_trans HW0.out (z101_18 : w.heap.size ≤ gb137) : w0.heap.size ≤ gb137)); have n7_ := Aside0.mk ((z101_13 : gb127 ≠ gb137)); have n8_ := Aside0.mk ((z101_14 : gb137 ≠ gb127)); have n9_ := Aside0.mk ((z101_7 : g ≠ gb137)); have n10_ := Aside0.mk ((z101_8 : gb137 ≠ g)); clear HI0; clear BK127; clear HK; clear HB; have HI0 := n0_; have BK127 := n1_; have HK := n2_; have HB := n3_; have BK137 := n4_; have GW137 := n5_; have GE137 := n6_; have NB127_137 := n7_; have NB137_127 := n8_; have NB0_137 := n9_; have NB137_0 := n10_; clear n0_ n1_ n2_ n3_ n4_ n5_ n6_ n7_ n8_ n9_ n10_; clear hb hbox hg; have hnb58 := NB137_127.out; have hnc58 := NB127_137.out; have hnb59 := NB137_0.out; have hnc59 := NB0_137.out; have hcz60_0 : w57.cell? ⟨gb137, 0, none⟩ = some (.int .i64 0) := (bC_ BK137.out 0).trans rfl; have hcz60_1 : w57.cell? ⟨gb137, 1, none⟩ = some (.int .i64 0) := (bC_ BK137.out 1).trans rfl; have hcz60_2 : w57.cell? ⟨gb137, 2, none⟩ = some (.int .i64 0) := (bC_ BK137.out 2).trans rfl; have hcz60_3 : w57.cell? ⟨gb137, 3, none⟩ = some (.int .i64 0) := (bC_ BK137.out 3).trans rfl; have hcz60_4 : w57.cell? ⟨gb137, 4, none⟩ = some (.int .i64 0) := (bC_ BK137.out 4).trans rfl; have hcz60_5 : w57.cell? ⟨gb137, 5, none⟩ = some (.int .i64 0) := (bC_ BK137.out 5).trans rfl; have hfz60_0 := bF_ BK137.out 0; have hfz60_1 := bF_ BK137.out 1; have hfz60_2 := bF_ BK137.out 2; have hfz60_3 := bF_ BK137.out 3; have hfz60_4 := bF_ BK137.out 4; have hfz60_5 := bF_ BK137.out 5))
        have n0_ : Aside0 (((((((w57.setCell ⟨gb137, 0, none⟩ (.int .i64 (wrap64 (1 + t128)))).setCell ⟨gb137, 1, none⟩ (.int .i64 0)).setCell ⟨gb137, 2, none⟩ (.int .i64 0)).setCell ⟨gb137, 3, none⟩ (.int .i64 t131)).setCell ⟨gb137, 4, none⟩ (.int .i64 t134)).setCell ⟨gb137, 5, none⟩ (.int .i64 0)).heap[gb127]? = some (.cells #[.int .i64 0, .int .i64 0, .int .i64 0, .int .i64 0, .int .i64 0, .int .i64 0] 54 (0, 0))) := ⟨by (with_reducible repeat (first | refine blk_drewN ?_ _ | refine blk_drew ?_ | refine blk_alloc ?_ _)); refine blk_far ?_ NB127_137.out _; (with_reducible repeat (first | refine blk_drewN ?_ _ | refine blk_drew ?_ | refine blk_alloc ?_ _)); refine blk_far ?_ NB127_137.out _; (with_reducible repeat (first | refine blk_drewN ?_ _ | refine blk_drew ?_ | refine blk_alloc ?_ _)); refine blk_far ?_ NB127_137.out _; (with_reducible repeat (first | refine blk_drewN ?_ _ | refine blk_drew ?_ | refine blk_alloc ?_ _)); refine blk_far ?_ NB127_137.out _; (with_reducible repeat (first | refine blk_drewN ?_ _ | refine blk_drew ?_ | refine blk_alloc ?_ _)); refine blk_far ?_ NB127_137.out _; (with_reducible repeat (first | refine blk_drewN ?_ _ | refine blk_drew ?_ | refine blk_alloc ?_ _)); refine blk_far ?_ NB127_137.out _; (with_reducible repeat (first | refine blk_drewN ?_ _ | refine blk_drew ?_ | refine blk_alloc ?_ _)); exact BK127.out⟩
        have n1_ : Aside0 (((((((w57.setCell ⟨gb137, 0, none⟩ (.int .i64 (wrap64 (1 + t128)))).setCell ⟨gb137, 1, none⟩ (.int .i64 0)).setCell ⟨gb137, 2, none⟩ (.int .i64 0)).setCell ⟨gb137, 3, none⟩ (.int .i64 t131)).setCell ⟨gb137, 4, none⟩ (.int .i64 t134)).setCell ⟨gb137, 5, none⟩ (.int .i64 0)).heap[gb137]? = some (.cells #[.int .i64 (wrap64 (1 + t128)), .int .i64 0, .int .i64 0, .int .i64 t131, .int .i64 t134, .int .i64 0] 54 (0, 0))) := ⟨by (with_reducible repeat (first | refine blk_drewN ?_ _ | refine blk_drew ?_ | refine blk_alloc ?_ _)); refine blk_put (cs := #[.int .i64 (wrap64 (1 + t128)), .int .i64 0, .int .i64 0, .int .i64 t131, .int .i64 t134, .int .i64 0]) ?_ 5 _ rfl; (with_reducible repeat (first | refine blk_drewN ?_ _ | refine blk_drew ?_ | refine blk_alloc ?_ _)); refine blk_put (cs := #[.int .i64 (wrap64 (1 + t128)), .int .i64 0, .int .i64 0, .int .i64 t131, .int .i64 0, .int .i64 0]) ?_ 4 _ rfl; (with_reducible repeat (first | refine blk_drewN ?_ _ | refine blk_drew ?_ | refine blk_alloc ?_ _)); refine blk_put (cs := #[.int .i64 (wrap64 (1 + t128)), .int .i64 0, .int .i64 0, .int .i64 0, .int .i64 0, .int .i64 0]) ?_ 3 _ rfl; (with_reducible repeat (first | refine blk_drewN ?_ _ | refine blk_drew ?_ | refine blk_alloc ?_ _)); refine blk_put (cs := #[.int .i64 (wrap64 (1 + t128)), .int .i64 0, .int .i64 0, .int .i64 0, .int .i64 0, .int .i64 0]) ?_ 2 _ rfl; (with_reducible repeat (first | refine blk_drewN ?_ _ | refine blk_drew ?_ | refine blk_alloc ?_ _)); refine blk_put (cs := #[.int .i64 (wrap64 (1 + t128)), .int .i64 0, .int .i64 0, .int .i64 0, .int .i64 0, .int .i64 0]) ?_ 1 _ rfl; (with_reducible repeat (first | refine blk_drewN ?_ _ | refine blk_drew ?_ | refine blk_alloc ?_ _)); refine blk_put (cs := #[.int .i64 0, .int .i64 0, .int .i64 0, .int .i64 0, .int .i64 0, .int .i64 0]) ?_ 0 _ rfl; (with_reducible repeat (first | refine blk_drewN ?_ _ | refine blk_drew ?_ | refine blk_alloc ?_ _)); exact BK137.out⟩
        have n2_ : Aside0 (IsS87 w0 ((((((w57.setCell ⟨gb137, 0, none⟩ (.int .i64 (wrap64 (1 + t128)))).setCell ⟨gb137, 1, none⟩ (.int .i64 0)).setCell ⟨gb137, 2, none⟩ (.int .i64 0)).setCell ⟨gb137, 3, none⟩ (.int .i64 t131)).setCell ⟨gb137, 4, none⟩ (.int .i64 t134)).setCell ⟨gb137, 5, none⟩ (.int .i64 0)) g s0_0 t135 t136) := ⟨by repeat (first | (with_reducible first | exact HI0.out | apply IsS87.alloc | apply IsS87.drewN | apply IsS87.drew | apply IsS87.set_1 | apply IsS87.set_2 | refine IsS87.far ?_ NB0_127.out _ | refine IsS87.far ?_ NB0_137.out _) | exact HI0.out)⟩
        have n3_ : Aside0 (KeepBut w ((((((w57.setCell ⟨gb137, 0, none⟩ (.int .i64 (wrap64 (1 + t128)))).setCell ⟨gb137, 1, none⟩ (.int .i64 0)).setCell ⟨gb137, 2, none⟩ (.int .i64 0)).setCell ⟨gb137, 3, none⟩ (.int .i64 t131)).setCell ⟨gb137, 4, none⟩ (.int .i64 t134)).setCell ⟨gb137, 5, none⟩ (.int .i64 0)) g none) := ⟨by repeat (first | (with_reducible first | exact HK.out | apply KeepBut.set_ | apply keep_drewN | apply keep_drew | apply keep_alloc | refine keep_far ?_ GW127.out _ | refine keep_far ?_ GW137.out _) | exact HK.out)⟩
        have n4_ : Aside0 (Below w0.heap.size w0 ((((((w57.setCell ⟨gb137, 0, none⟩ (.int .i64 (wrap64 (1 + t128)))).setCell ⟨gb137, 1, none⟩ (.int .i64 0)).setCell ⟨gb137, 2, none⟩ (.int .i64 0)).setCell ⟨gb137, 3, none⟩ (.int .i64 t131)).setCell ⟨gb137, 4, none⟩ (.int .i64 t134)).setCell ⟨gb137, 5, none⟩ (.int .i64 0))) := ⟨by repeat (first | (with_reducible first | exact HB.out | apply bA_ | apply bN_ | apply bD_ | refine bS_ ?_ (IsS87.ge HI0.out) | refine bS_ ?_ GE127.out | refine bS_ ?_ GE137.out) | exact HB.out)⟩
        (try clear BK127)
        (try clear BK137)
        (try clear HI0)
        (try clear HK)
        (try clear HB)
        generalize ((((((w57.setCell ⟨gb137, 0, none⟩ (.int .i64 (wrap64 (1 + t128)))).setCell ⟨gb137, 1, none⟩ (.int .i64 0)).setCell ⟨gb137, 2, none⟩ (.int .i64 0)).setCell ⟨gb137, 3, none⟩ (.int .i64 t131)).setCell ⟨gb137, 4, none⟩ (.int .i64 t134)).setCell ⟨gb137, 5, none⟩ (.int .i64 0)) = w61 at n0_ n1_ n2_ n3_ n4_ ⊢
        have BK127 := n0_
        have BK137 := n1_
        have HI0 := n2_
        have HK := n3_
        have HB := n4_
        clear n0_ n1_ n2_ n3_ n4_
        have n0_ := Aside0.mk (blk_drew BK127.out)
        have n1_ := Aside0.mk (blk_drew BK137.out)
        have n2_ := Aside0.mk (IsS87.drew HI0.out)
        have n3_ := Aside0.mk (keep_drew HK.out)
        have n4_ := Aside0.mk (bD_ HB.out)
        clear BK127
        clear BK137
        clear HI0
        clear HK
        clear HB
        have BK127 := n0_
        have BK137 := n1_
        have HI0 := n2_
        have HK := n3_
        have HB := n4_
        clear n0_ n1_ n2_ n3_ n4_
        refine start_ (n := 7) (S := fun w' => w'.cell? ⟨gb137, 0, none⟩ = some (.int .i64 (wrap64 (1 + t128))) ∧ w'.cell? ⟨gb137, 1, none⟩ = some (.int .i64 0) ∧ w'.cell? ⟨gb137, 2, none⟩ = some (.int .i64 0) ∧ w'.cell? ⟨gb137, 3, none⟩ = some (.int .i64 t131) ∧ w'.cell? ⟨gb137, 4, none⟩ = some (.int .i64 t134) ∧ w'.cell? ⟨gb137, 5, none⟩ = some (.int .i64 0)) (ds := [6]) #[false, false, false, false, false, false, false] z101_19 rfl rfl ⟨(bC_ BK137.out 0).trans rfl, (bC_ BK137.out 1).trans rfl, (bC_ BK137.out 2).trans rfl, (bC_ BK137.out 3).trans rfl, (bC_ BK137.out 4).trans rfl, (bC_ BK137.out 5).trans rfl⟩ (fun hHeld => ?_)
        generalize w61.drew = w62 at BK127 BK137 HI0 HK HB hHeld ⊢
        refine pure_ (i := 0) (N := some 12) (v := ?_) (a' := ?_) #[true, false, false, false, false, false, false] rfl rfl z101_19 (fun _ _ _ h => h) (Or.inl ⟨by rfl, ?_⟩) ?_ ?_
        rotate_left
        · intro w'
          go_simp
          with_reducible rfl
        rotate_left
        · simp only [Act.put, List.setIfInBounds_toArray, List.set_cons_zero, List.set_cons_succ, i64_w, i32_w]
          rfl
        refine pure_ (i := 2) (N := some 14) (v := ?_) (a' := ?_) #[true, false, true, false, false, false, false] rfl rfl z101_19 (fun _ _ _ h => h) (Or.inl ⟨by rfl, ?_⟩) ?_ ?_
        rotate_left
        · intro w'
          go_simp
          with_reducible rfl
        rotate_left
        · simp only [Act.put, List.setIfInBounds_toArray, List.set_cons_zero, List.set_cons_succ, i64_w, i32_w]
          rfl
        refine take_ (i := 1) (N := some 13) (v := ?_) (a' := ?_) #[true, true, true, false, false, false, false] rfl rfl z101_19 (fun _ _ _ h => h) (Or.inl ⟨by rfl, ?_⟩) hHeld ?_ ?_
        rotate_left
        · rintro w' ⟨s0, s1, s2, s3, s4, s5⟩
          go_simp
          with_reducible rfl
        rotate_left
        · simp only [Act.put, List.setIfInBounds_toArray, List.set_cons_zero, List.set_cons_succ, i64_w, i32_w]
          rfl
        refine one_ (i := 3) (N := some 15) #[true, true, true, true, false, false, false] rfl rfl z101_19 (by decide) (fun K hK => ?_)
        refine goes_ Try.func85 z101_19 rfl #[.pointer (some ⟨g, 0, none⟩), .int .i64 30] (by rfl) rfl rfl z101_1 ?_
        with_reducible refine (spec_l1Below.calls g s0_0 t135 t136 30 t138 t139 t140 w0 _ ?side1 ?side2 A5.out).mono ?_
        (case side1 => repeat (first | (with_reducible first | exact HI0.out | apply IsS87.alloc | apply IsS87.drewN | apply IsS87.drew | apply IsS87.set_1 | apply IsS87.set_2 | refine IsS87.far ?_ NB0_127.out _ | refine IsS87.far ?_ NB0_137.out _) | exact HI0.out))
        (case side2 => repeat (first | (with_reducible first | exact HB.out | apply bA_ | apply bN_ | apply bD_ | refine bS_ ?_ (IsS87.ge HI0.out) | refine bS_ ?_ GE127.out | refine bS_ ?_ GE137.out) | exact HB.out))
        rintro e w63 ⟨rfl, hi, hb, hk⟩
        refine ⟨_, rfl, ?_⟩
        have n0_ := Aside0.mk (KeepBut.blk hk (g' := gb127) (o := .cells #[.int .i64 0, .int .i64 0, .int .i64 0, .int .i64 0, .int .i64 0, .int .i64 0] 54 (0, 0)) (pB101_ BK127.out) NB127_0.out (by simp))
        have n1_ := Aside0.mk (KeepBut.blk hk (g' := gb137) (o := .cells #[.int .i64 (wrap64 (1 + t128)), .int .i64 0, .int .i64 0, .int .i64 t131, .int .i64 t134, .int .i64 0] 54 (0, 0)) (pB101_ BK137.out) NB137_0.out (by simp))
        have n2_ := Aside0.mk (KeepBut.trans z101_2 hk (.inl rfl))
        have n3_ := Aside0.mk (hb)
        have n4_ := Aside0.mk (hi)
        clear BK127
        clear BK137
        clear HK
        clear HB
        clear HI0
        have BK127 := n0_
        have BK137 := n1_
        have HK := n2_
        have HB := n3_
        have HI0 := n4_
        clear n0_ n1_ n2_ n3_ n4_
        (try clear hb)
        (try clear hb2)
        (try clear hk)
        (try clear hi)
        refine hK.out _ _ ⟨(bC_ BK137.out 0).trans rfl, (bC_ BK137.out 1).trans rfl, (bC_ BK137.out 2).trans rfl, (bC_ BK137.out 3).trans rfl, (bC_ BK137.out 4).trans rfl, (bC_ BK137.out 5).trans rfl⟩ (fun hHeld => ?_)
        clear hK K
        refine norm_ (a' := ?_) ?_ ?_
        rotate_left
        · show Act.put _ (some 15) _ = _
          simp only [Act.put, List.setIfInBounds_toArray, List.set_cons_zero, List.set_cons_succ, i64_w, i32_w]
          rfl
        refine pure_ (i := 4) (N := some 16) (v := ?_) (a' := ?_) #[true, true, true, true, true, false, false] rfl rfl z101_19 (fun _ _ _ h => h) (Or.inl ⟨by rfl, ?_⟩) ?_ ?_
        rotate_left
        · intro w'
          go_simp
          with_reducible rfl
        rotate_left
        · simp only [Act.put, List.setIfInBounds_toArray, List.set_cons_zero, List.set_cons_succ, i64_w, i32_w]
          rfl
        refine pure_ (i := 5) (N := some 17) (v := ?_) (a' := ?_) #[true, true, true, true, true, true, false] rfl rfl z101_19 (fun _ _ _ h => h) (Or.inl ⟨by rfl, ?_⟩) ?_ ?_
        rotate_left
        · intro w'
          go_simp
          with_reducible rfl
        rotate_left
        · simp only [Act.put, List.setIfInBounds_toArray, List.set_cons_zero, List.set_cons_succ, i64_w, i32_w]
          rfl
        refine last_ (i := 6) (N := none) #[true, true, true, true, true, true, true] rfl rfl z101_19 (by decide) (fun K hK => ?_)
        have hs64 : w63.cell? ⟨gb137, 5, none⟩ = some (.int .i64 0) := (bC_ BK137.out 5).trans rfl
        have hfs64 := bF_ BK137.out 5
        have hns64_0 := NB127_137.out
        have hms64_0 := NB137_127.out
        refine skip_ (w1 := ?_) (by rfl) rfl ?_ ?_
        rotate_left
        · go_simp
          rfl
        refine hK.out _ _ ?_
        clear hK K
        refine done_ z101_19 ?_
        have hcz65_0 : w63.cell? ⟨gb137, 0, none⟩ = some (.int .i64 (wrap64 (1 + t128))) := (bC_ BK137.out 0).trans rfl
        have hcz65_1 : w63.cell? ⟨gb137, 1, none⟩ = some (.int .i64 0) := (bC_ BK137.out 1).trans rfl
        have hcz65_2 : w63.cell? ⟨gb137, 2, none⟩ = some (.int .i64 0) := (bC_ BK137.out 2).trans rfl
        have hcz65_3 : w63.cell? ⟨gb137, 3, none⟩ = some (.int .i64 t131) := (bC_ BK137.out 3).trans rfl
        have hcz65_4 : w63.cell? ⟨gb137, 4, none⟩ = some (.int .i64 t134) := (bC_ BK137.out 4).trans rfl
        have hcz65_5 : w63.cell? ⟨gb137, 5, none⟩ = some (.int .i64 0) := (bC_ BK137.out 5).trans rfl
        have hfz65_0 := bF_ BK137.out 0
        have hfz65_1 := bF_ BK137.out 1
        have hfz65_2 := bF_ BK137.out 2
        have hfz65_3 := bF_ BK137.out 3
        have hfz65_4 := bF_ BK137.out 4
        have hfz65_5 := bF_ BK137.out 5
        try go_wp2_with (first | ((with_reducible refine gate_callee (f := 117) rfl ?_); refine goesL_ (some 45) rfl rfl Try.func117 z101_19 rfl #[.pointer (some ⟨g, 0, none⟩), .int .i64 2] rfl z101_1 ?_; (with_reducible refine (spec_l5Name.calls g s0_0 t139 t140 2 t153 t154 t155 w0 _ ?side1 ?side2 A51.out).mono ?_); (case side1 => repeat (first | (with_reducible first | exact HI0.out | apply IsS87.alloc | apply IsS87.drewN | apply IsS87.drew | apply IsS87.set_1 | apply IsS87.set_2 | refine IsS87.far ?_ NB0_127.out _ | refine IsS87.far ?_ NB0_137.out _) | exact HI0.out)); (case side2 => repeat (first | (with_reducible first | exact HB.out | apply bA_ | apply bN_ | apply bD_ | refine bS_ ?_ (IsS87.ge HI0.out) | refine bS_ ?_ GE127.out | refine bS_ ?_ GE137.out) | exact HB.out)); rintro e w66 ⟨rfl, hi, hb, hk⟩; refine ⟨_, rfl, ?_⟩; have n0_ := Aside0.mk (KeepBut.blk hk (g' := gb127) (o := .cells #[.int .i64 0, .int .i64 0, .int .i64 0, .int .i64 0, .int .i64 0, .int .i64 0] 54 (0, 0)) z101_3 NB127_0.out (by simp)); have n1_ := Aside0.mk (KeepBut.blk hk (g' := gb137) (o := .cells #[.int .i64 (wrap64 (1 + t128)), .int .i64 0, .int .i64 0, .int .i64 t131, .int .i64 t134, .int .i64 (wrap64 (t134 + t138))] 54 (0, 0)) z101_6 NB137_0.out (by simp)); have n2_ := Aside0.mk (KeepBut.trans z101_2 hk (.inl rfl)); have n3_ := Aside0.mk (hb); have n4_ := Aside0.mk (hi); clear BK127; clear BK137; clear HK; clear HB; clear HI0; have BK127 := n0_; have BK137 := n1_; have HK := n2_; have HB := n3_; have HI0 := n4_; clear n0_ n1_ n2_ n3_ n4_; (try clear hb); (try clear hb2); (try clear hk); (try clear hi); have hcz67_0 : w66.cell? ⟨gb137, 0, none⟩ = some (.int .i64 (wrap64 (1 + t128))) := (bC_ BK137.out 0).trans rfl; have hcz67_1 : w66.cell? ⟨gb137, 1, none⟩ = some (.int .i64 0) := (bC_ BK137.out 1).trans rfl; have hcz67_2 : w66.cell? ⟨gb137, 2, none⟩ = some (.int .i64 0) := (bC_ BK137.out 2).trans rfl; have hcz67_3 : w66.cell? ⟨gb137, 3, none⟩ = some (.int .i64 t131) := (bC_ BK137.out 3).trans rfl; have hcz67_4 : w66.cell? ⟨gb137, 4, none⟩ = some (.int .i64 t134) := (bC_ BK137.out 4).trans rfl; have hcz67_5 : w66.cell? ⟨gb137, 5, none⟩ = some (.int .i64 (wrap64 (t134 + t138))) := (bC_ BK137.out 5).trans rfl; have hfz67_0 := bF_ BK137.out 0; have hfz67_1 := bF_ BK137.out 1; have hfz67_2 := bF_ BK137.out 2; have hfz67_3 := bF_ BK137.out 3; have hfz67_4 := bF_ BK137.out 4; have hfz67_5 := bF_ BK137.out 5) | ((with_reducible refine gate_callee (f := 85) rfl ?_); refine goesL_ (some 48) rfl rfl Try.func85 z101_19 rfl #[.pointer (some ⟨g, 0, none⟩), .int .i64 4] rfl z101_1 ?_; (with_reducible refine (spec_l1Below.calls g s0_0 t154 t155 4 t156 t157 t158 w0 _ ?side1 ?side2 A52.out).mono ?_); (case side1 => repeat (first | (with_reducible first | exact HI0.out | apply IsS87.alloc | apply IsS87.drewN | apply IsS87.drew | apply IsS87.set_1 | apply IsS87.set_2 | refine IsS87.far ?_ NB0_127.out _ | refine IsS87.far ?_ NB0_137.out _) | exact HI0.out)); (case side2 => repeat (first | (with_reducible first | exact HB.out | apply bA_ | apply bN_ | apply bD_ | refine bS_ ?_ (IsS87.ge HI0.out) | refine bS_ ?_ GE127.out | refine bS_ ?_ GE137.out) | exact HB.out)); rintro e w68 ⟨rfl, hi, hb, hk⟩; refine ⟨_, rfl, ?_⟩; have n0_ := Aside0.mk (KeepBut.blk hk (g' := gb127) (o := .cells #[.int .i64 0, .int .i64 0, .int .i64 0, .int .i64 0, .int .i64 0, .int .i64 0] 54 (0, 0)) z101_3 NB127_0.out (by simp)); have n1_ := Aside0.mk (KeepBut.blk hk (g' := gb137) (o := .cells #[.int .i64 (wrap64 (1 + t128)), .int .i64 t153, .int .i64 0, .int .i64 t131, .int .i64 t134, .int .i64 (wrap64 (t134 + t138))] 54 (0, 0)) z101_5 NB137_0.out (by simp)); have n2_ := Aside0.mk (KeepBut.trans z101_2 hk (.inl rfl)); have n3_ := Aside0.mk (hb); have n4_ := Aside0.mk (hi); clear BK127; clear BK137; clear HK; clear HB; clear HI0; have BK127 := n0_; have BK137 := n1_; have HK := n2_; have HB := n3_; have HI0 := n4_; clear n0_ n1_ n2_ n3_ n4_; (try clear hb); (try clear hb2); (try clear hk); (try clear hi); have hcz69_0 : w68.cell? ⟨gb137, 0, none⟩ = some (.int .i64 (wrap64 (1 + t128))) := (bC_ BK137.out 0).trans rfl; have hcz69_1 : w68.cell? ⟨gb137, 1, none⟩ = some (.int .i64 t153) := (bC_ BK137.out 1).trans rfl; have hcz69_2 : w68.cell? ⟨gb137, 2, none⟩ = some (.int .i64 0) := (bC_ BK137.out 2).trans rfl; have hcz69_3 : w68.cell? ⟨gb137, 3, none⟩ = some (.int .i64 t131) := (bC_ BK137.out 3).trans rfl; have hcz69_4 : w68.cell? ⟨gb137, 4, none⟩ = some (.int .i64 t134) := (bC_ BK137.out 4).trans rfl; have hcz69_5 : w68.cell? ⟨gb137, 5, none⟩ = some (.int .i64 (wrap64 (t134 + t138))) := (bC_ BK137.out 5).trans rfl; have hfz69_0 := bF_ BK137.out 0; have hfz69_1 := bF_ BK137.out 1; have hfz69_2 := bF_ BK137.out 2; have hfz69_3 := bF_ BK137.out 3; have hfz69_4 := bF_ BK137.out 4; have hfz69_5 := bF_ BK137.out 5; have hnb70 := NB127_0.out; have hnc70 := NB0_127.out; have hcz71_0 : w68.cell? ⟨gb127, 0, none⟩ = some (.int .i64 0) := (bC_ BK127.out 0).trans rfl; have hcz71_1 : w68.cell? ⟨gb127, 1, none⟩ = some (.int .i64 0) := (bC_ BK127.out 1).trans rfl; have hcz71_2 : w68.cell? ⟨gb127, 2, none⟩ = some (.int .i64 0) := (bC_ BK127.out 2).trans rfl; have hcz71_3 : w68.cell? ⟨gb127, 3, none⟩ = some (.int .i64 0) := (bC_ BK127.out 3).trans rfl; have hcz71_4 : w68.cell? ⟨gb127, 4, none⟩ = some (.int .i64 0) := (bC_ BK127.out 4).trans rfl; have hcz71_5 : w68.cell? ⟨gb127, 5, none⟩ = some (.int .i64 0) := (bC_ BK127.out 5).trans rfl; have hfz71_0 := bF_ BK127.out 0; have hfz71_1 := bF_ BK127.out 1; have hfz71_2 := bF_ BK127.out 2; have hfz71_3 := bF_ BK127.out 3; have hfz71_4 := bF_ BK127.out 4; have hfz71_5 := bF_ BK127.out 5))
        refine bodyPost_ret (results_cell_row rfl _ _ gb127 54 #[.int .i64 (wrap64 (1 + t128)), .int .i64 t153, .int .i64 t156, .int .i64 t131, .int .i64 t134, .int .i64 (wrap64 (t134 + t138))] (0, 0) _ rfl (by (with_reducible repeat (first | refine blk_drewN ?_ _ | refine blk_drew ?_ | refine blk_alloc ?_ _)); refine blk_put (cs := #[.int .i64 (wrap64 (1 + t128)), .int .i64 t153, .int .i64 t156, .int .i64 t131, .int .i64 t134, .int .i64 0]) ?_ 5 _ rfl; (with_reducible repeat (first | refine blk_drewN ?_ _ | refine blk_drew ?_ | refine blk_alloc ?_ _)); refine blk_put (cs := #[.int .i64 (wrap64 (1 + t128)), .int .i64 t153, .int .i64 t156, .int .i64 t131, .int .i64 0, .int .i64 0]) ?_ 4 _ rfl; (with_reducible repeat (first | refine blk_drewN ?_ _ | refine blk_drew ?_ | refine blk_alloc ?_ _)); refine blk_put (cs := #[.int .i64 (wrap64 (1 + t128)), .int .i64 t153, .int .i64 t156, .int .i64 0, .int .i64 0, .int .i64 0]) ?_ 3 _ rfl; (with_reducible repeat (first | refine blk_drewN ?_ _ | refine blk_drew ?_ | refine blk_alloc ?_ _)); refine blk_put (cs := #[.int .i64 (wrap64 (1 + t128)), .int .i64 t153, .int .i64 0, .int .i64 0, .int .i64 0, .int .i64 0]) ?_ 2 _ rfl; (with_reducible repeat (first | refine blk_drewN ?_ _ | refine blk_drew ?_ | refine blk_alloc ?_ _)); refine blk_put (cs := #[.int .i64 (wrap64 (1 + t128)), .int .i64 0, .int .i64 0, .int .i64 0, .int .i64 0, .int .i64 0]) ?_ 1 _ rfl; (with_reducible repeat (first | refine blk_drewN ?_ _ | refine blk_drew ?_ | refine blk_alloc ?_ _)); refine blk_put (cs := #[.int .i64 0, .int .i64 0, .int .i64 0, .int .i64 0, .int .i64 0, .int .i64 0]) ?_ 0 _ rfl; (with_reducible repeat (first | refine blk_drewN ?_ _ | refine blk_drew ?_ | refine blk_alloc ?_ _)); refine blk_far ?_ NB127_137.out _; (with_reducible repeat (first | refine blk_drewN ?_ _ | refine blk_drew ?_ | refine blk_alloc ?_ _)); exact BK127.out) Try.underlying54 rfl z101_19) rfl ?_
        exact ⟨by first | rfl | (simp [errW_none, errW_some] <;> rfl) | (simp [*, errW_none, errW_some] <;> rfl), by repeat (first | (with_reducible first | exact HI0.out | apply IsS87.alloc | apply IsS87.drewN | apply IsS87.drew | apply IsS87.set_1 | apply IsS87.set_2 | refine IsS87.far ?_ NB0_127.out _ | refine IsS87.far ?_ NB0_137.out _) | exact HI0.out), by repeat (first | (with_reducible first | exact HB.out | apply bA_ | apply bN_ | apply bD_ | refine bS_ ?_ (IsS87.ge HI0.out) | refine bS_ ?_ GE127.out | refine bS_ ?_ GE137.out) | exact HB.out), by repeat (first | (with_reducible first | exact HK.out | apply KeepBut.set_ | apply keep_drewN | apply keep_drew | apply keep_alloc | refine keep_far ?_ GW127.out _ | refine keep_far ?_ GW137.out _) | exact HK.out)⟩
      · rw [if_neg c50] at H
        have c50b0 : ((wrap64 (1 + t128)) == 3) = false := beq_eq_false_iff_ne.mpr c50
        have c50b1 : ((wrap64 (1 + t128)) != 3) = true := bne_iff_ne.mpr c50
        replace H := Option.bind_eq_some_iff.mp H
        obtain ⟨⟨t159, t160, t161⟩, A720, H⟩ := H
        replace H : ((spec_l1Below.f s0_0 t160 t161 4).bind fun bt162 => (some (wrap64 (1 + t128), t159, bt162.1, t131, t134, wrap64 (t134 + t138), bt162.2.1, bt162.2.2))) = some (r1, r2, r3, r4, r5, r6, r7, r8) := H
        have A72 := Aside0.mk A720
        clear A720
        replace H := Option.bind_eq_some_iff.mp H
        obtain ⟨⟨t162, t163, t164⟩, A730, H⟩ := H
        replace H : (some (wrap64 (1 + t128), t159, t162, t131, t134, wrap64 (t134 + t138), t163, t164)) = some (r1, r2, r3, r4, r5, r6, r7, r8) := H
        have A73 := Aside0.mk A730
        clear A730
        simp only [Option.some.injEq, Prod.mk.injEq] at H
        obtain ⟨rfl, rfl, rfl, rfl, rfl, rfl, rfl, rfl⟩ := H
        go_enter Try.func101, Try.ntmps101
        try go_wp2_with (first | ((with_reducible refine gate_dst (N := 2) rfl ?_); refine box_event ?hg (N := 2) ?hd (cs := #[.int .i64 0, .int .i64 0, .int .i64 0, .int .i64 0, .int .i64 0, .int .i64 0]) (t := 54) ?hr ?_; (case hd => rfl); (case hg => rfl); (case hr => first | (go_simp; done) | (go_simp; rfl)); intro gb127 hg w74 hbox hb; have n0_ := Aside0.mk (IsS87.below z101_16 hb); have n1_ := Aside0.mk (KeepBut.trans z101_4 (KeepBut.of_below hb g none) (.inl rfl)); have n2_ := Aside0.mk (below_step z101_15 hb); have n3_ := Aside0.mk (hbox); have n4_ := Aside0.mk ((z101_17 : w.heap.size ≤ gb127)); have n5_ := Aside0.mk ((Nat.le_trans HW0.out (z101_17 : w.heap.size ≤ gb127) : w0.heap.size ≤ gb127)); have n6_ := Aside0.mk ((z101_9 : g ≠ gb127)); have n7_ := Aside0.mk ((z101_10 : gb127 ≠ g)); clear HI0; clear HK; clear HB; have HI0 := n0_; have HK := n1_; have HB := n2_; have BK127 := n3_; have GW127 := n4_; have GE127 := n5_; have NB0_127 := n6_; have NB127_0 := n7_; clear n0_ n1_ n2_ n3_ n4_ n5_ n6_ n7_; clear hb hbox hg) | ((with_reducible refine gate_callee (f := 85) rfl ?_); refine goesL_ (some 5) rfl rfl Try.func85 z101_19 rfl #[.pointer (some ⟨g, 0, none⟩), .int .i64 4] rfl z101_1 ?_; (with_reducible refine (spec_l1Below.calls g s0_0 s0_1 s0_2 4 t128 t129 t130 w0 _ ?side1 ?side2 A2.out).mono ?_); (case side1 => repeat (first | (with_reducible first | exact HI0.out | apply IsS87.alloc | apply IsS87.drewN | apply IsS87.drew | apply IsS87.set_1 | apply IsS87.set_2 | refine IsS87.far ?_ NB0_127.out _) | exact HI0.out)); (case side2 => repeat (first | (with_reducible first | exact HB.out | apply bA_ | apply bN_ | apply bD_ | refine bS_ ?_ (IsS87.ge HI0.out) | refine bS_ ?_ GE127.out) | exact HB.out)); rintro e w75 ⟨rfl, hi, hb, hk⟩; refine ⟨_, rfl, ?_⟩; have n0_ := Aside0.mk (KeepBut.blk hk (g' := gb127) (o := .cells #[.int .i64 0, .int .i64 0, .int .i64 0, .int .i64 0, .int .i64 0, .int .i64 0] 54 (0, 0)) (pB101_ BK127.out) NB127_0.out (by simp)); have n1_ := Aside0.mk (KeepBut.trans z101_0 hk (.inl rfl)); have n2_ := Aside0.mk (hb); have n3_ := Aside0.mk (hi); clear BK127; clear HK; clear HB; clear HI0; have BK127 := n0_; have HK := n1_; have HB := n2_; have HI0 := n3_; clear n0_ n1_ n2_ n3_; (try clear hb); (try clear hb2); (try clear hk); (try clear hi)) | ((with_reducible refine gate_callee (f := 85) rfl ?_); refine goesL_ (some 8) rfl rfl Try.func85 z101_19 rfl #[.pointer (some ⟨g, 0, none⟩), .int .i64 3] rfl z101_1 ?_; (with_reducible refine (spec_l1Below.calls g s0_0 t129 t130 3 t131 t132 t133 w0 _ ?side1 ?side2 A3.out).mono ?_); (case side1 => repeat (first | (with_reducible first | exact HI0.out | apply IsS87.alloc | apply IsS87.drewN | apply IsS87.drew | apply IsS87.set_1 | apply IsS87.set_2 | refine IsS87.far ?_ NB0_127.out _) | exact HI0.out)); (case side2 => repeat (first | (with_reducible first | exact HB.out | apply bA_ | apply bN_ | apply bD_ | refine bS_ ?_ (IsS87.ge HI0.out) | refine bS_ ?_ GE127.out) | exact HB.out)); rintro e w76 ⟨rfl, hi, hb, hk⟩; refine ⟨_, rfl, ?_⟩; have n0_ := Aside0.mk (KeepBut.blk hk (g' := gb127) (o := .cells #[.int .i64 0, .int .i64 0, .int .i64 0, .int .i64 0, .int .i64 0, .int .i64 0] 54 (0, 0)) (pB101_ BK127.out) NB127_0.out (by simp)); have n1_ := Aside0.mk (KeepBut.trans z101_0 hk (.inl rfl)); have n2_ := Aside0.mk (hb); have n3_ := Aside0.mk (hi); clear BK127; clear HK; clear HB; clear HI0; have BK127 := n0_; have HK := n1_; have HB := n2_; have HI0 := n3_; clear n0_ n1_ n2_ n3_; (try clear hb); (try clear hb2); (try clear hk); (try clear hi)) | ((with_reducible refine gate_callee (f := 85) rfl ?_); refine goesL_ (some 10) rfl rfl Try.func85 z101_19 rfl #[.pointer (some ⟨g, 0, none⟩), .int .i64 20] rfl z101_1 ?_; (with_reducible refine (spec_l1Below.calls g s0_0 t132 t133 20 t134 t135 t136 w0 _ ?side1 ?side2 A4.out).mono ?_); (case side1 => repeat (first | (with_reducible first | exact HI0.out | apply IsS87.alloc | apply IsS87.drewN | apply IsS87.drew | apply IsS87.set_1 | apply IsS87.set_2 | refine IsS87.far ?_ NB0_127.out _) | exact HI0.out)); (case side2 => repeat (first | (with_reducible first | exact HB.out | apply bA_ | apply bN_ | apply bD_ | refine bS_ ?_ (IsS87.ge HI0.out) | refine bS_ ?_ GE127.out) | exact HB.out)); rintro e w77 ⟨rfl, hi, hb, hk⟩; refine ⟨_, rfl, ?_⟩; have n0_ := Aside0.mk (KeepBut.blk hk (g' := gb127) (o := .cells #[.int .i64 0, .int .i64 0, .int .i64 0, .int .i64 0, .int .i64 0, .int .i64 0] 54 (0, 0)) (pB101_ BK127.out) NB127_0.out (by simp)); have n1_ := Aside0.mk (KeepBut.trans z101_0 hk (.inl rfl)); have n2_ := Aside0.mk (hb); have n3_ := Aside0.mk (hi); clear BK127; clear HK; clear HB; clear HI0; have BK127 := n0_; have HK := n1_; have HB := n2_; have HI0 := n3_; clear n0_ n1_ n2_ n3_; (try clear hb); (try clear hb2); (try clear hk); (try clear hi)) | ((with_reducible refine gate_dst (N := 3) rfl ?_); refine box_event ?hg (N := 3) ?hd (cs := #[.int .i64 0, .int .i64 0, .int .i64 0, .int .i64 0, .int .i64 0, .int .i64 0]) (t := 54) ?hr ?_; (case hd => rfl); (case hg => rfl); (case hr => first | (go_simp; done) | (go_simp; rfl)); intro gb137 hg w78 hbox hb; have n0_ := Aside0.mk (IsS87.below z101_11 hb); have n1_ := Aside0.mk (blk_below (g := gb127) (o := .cells #[.int .i64 0, .int .i64 0, .int .i64 0, .int .i64 0, .int .i64 0, .int .i64 0] 54 (0, 0)) (pB101_ BK127.out) hb); have n2_ := Aside0.mk (KeepBut.trans z101_0 (KeepBut.of_below hb g none) (.inl rfl)); have n3_ := Aside0.mk (below_step z101_12 hb); have n4_ := Aside0.mk (hbox); have n5_ := Aside0.mk ((z101_18 : w.heap.size ≤ gb137)); have n6_ := Aside0.mk ((Nat.le_trans HW0.out (z101_18 : w.heap.size ≤ gb137) : w0.heap.size ≤ gb137)); have n7_ := Aside0.mk ((z101_13 : gb127 ≠ gb137)); have n8_ := Aside0.mk ((z101_14 : gb137 ≠ gb127)); have n9_ := Aside0.mk ((z101_7 : g ≠ gb137)); have n10_ := Aside0.mk ((z101_8 : gb137 ≠ g)); clear HI0; clear BK127; clear HK; clear HB; have HI0 := n0_; have BK127 := n1_; have HK := n2_; have HB := n3_; have BK137 := n4_; have GW137 := n5_; have GE137 := n6_; have NB127_137 := n7_; have NB137_127 := n8_; have NB0_137 := n9_; have NB137_0 := n10_; clear n0_ n1_ n2_ n3_ n4_ n5_ n6_ n7_ n8_ n9_ n10_; clear hb hbox hg; have hnb79 := NB137_127.out; have hnc79 := NB127_137.out; have hnb80 := NB137_0.out; have hnc80 := NB0_137.out; have hcz81_0 : w78.cell? ⟨gb137, 0, none⟩ = some (.int .i64 0) := (bC_ BK137.out 0).trans rfl; have hcz81_1 : w78.cell? ⟨gb137, 1, none⟩ = some (.int .i64 0) := (bC_ BK137.out 1).trans rfl; have hcz81_2 : w78.cell? ⟨gb137, 2, none⟩ = some (.int .i64 0) := (bC_ BK137.out 2).trans rfl; have hcz81_3 : w78.cell? ⟨gb137, 3, none⟩ = some (.int .i64 0) := (bC_ BK137.out 3).trans rfl; have hcz81_4 : w78.cell? ⟨gb137, 4, none⟩ = some (.int .i64 0) := (bC_ BK137.out 4).trans rfl; have hcz81_5 : w78.cell? ⟨gb137, 5, none⟩ = some (.int .i64 0) := (bC_ BK137.out 5).trans rfl; have hfz81_0 := bF_ BK137.out 0; have hfz81_1 := bF_ BK137.out 1; have hfz81_2 := bF_ BK137.out 2; have hfz81_3 := bF_ BK137.out 3; have hfz81_4 := bF_ BK137.out 4; have hfz81_5 := bF_ BK137.out 5))
        have n0_ : Aside0 (((((((w78.setCell ⟨gb137, 0, none⟩ (.int .i64 (wrap64 (1 + t128)))).setCell ⟨gb137, 1, none⟩ (.int .i64 0)).setCell ⟨gb137, 2, none⟩ (.int .i64 0)).setCell ⟨gb137, 3, none⟩ (.int .i64 t131)).setCell ⟨gb137, 4, none⟩ (.int .i64 t134)).setCell ⟨gb137, 5, none⟩ (.int .i64 0)).heap[gb127]? = some (.cells #[.int .i64 0, .int .i64 0, .int .i64 0, .int .i64 0, .int .i64 0, .int .i64 0] 54 (0, 0))) := ⟨by (with_reducible repeat (first | refine blk_drewN ?_ _ | refine blk_drew ?_ | refine blk_alloc ?_ _)); refine blk_far ?_ NB127_137.out _; (with_reducible repeat (first | refine blk_drewN ?_ _ | refine blk_drew ?_ | refine blk_alloc ?_ _)); refine blk_far ?_ NB127_137.out _; (with_reducible repeat (first | refine blk_drewN ?_ _ | refine blk_drew ?_ | refine blk_alloc ?_ _)); refine blk_far ?_ NB127_137.out _; (with_reducible repeat (first | refine blk_drewN ?_ _ | refine blk_drew ?_ | refine blk_alloc ?_ _)); refine blk_far ?_ NB127_137.out _; (with_reducible repeat (first | refine blk_drewN ?_ _ | refine blk_drew ?_ | refine blk_alloc ?_ _)); refine blk_far ?_ NB127_137.out _; (with_reducible repeat (first | refine blk_drewN ?_ _ | refine blk_drew ?_ | refine blk_alloc ?_ _)); refine blk_far ?_ NB127_137.out _; (with_reducible repeat (first | refine blk_drewN ?_ _ | refine blk_drew ?_ | refine blk_alloc ?_ _)); exact BK127.out⟩
        have n1_ : Aside0 (((((((w78.setCell ⟨gb137, 0, none⟩ (.int .i64 (wrap64 (1 + t128)))).setCell ⟨gb137, 1, none⟩ (.int .i64 0)).setCell ⟨gb137, 2, none⟩ (.int .i64 0)).setCell ⟨gb137, 3, none⟩ (.int .i64 t131)).setCell ⟨gb137, 4, none⟩ (.int .i64 t134)).setCell ⟨gb137, 5, none⟩ (.int .i64 0)).heap[gb137]? = some (.cells #[.int .i64 (wrap64 (1 + t128)), .int .i64 0, .int .i64 0, .int .i64 t131, .int .i64 t134, .int .i64 0] 54 (0, 0))) := ⟨by (with_reducible repeat (first | refine blk_drewN ?_ _ | refine blk_drew ?_ | refine blk_alloc ?_ _)); refine blk_put (cs := #[.int .i64 (wrap64 (1 + t128)), .int .i64 0, .int .i64 0, .int .i64 t131, .int .i64 t134, .int .i64 0]) ?_ 5 _ rfl; (with_reducible repeat (first | refine blk_drewN ?_ _ | refine blk_drew ?_ | refine blk_alloc ?_ _)); refine blk_put (cs := #[.int .i64 (wrap64 (1 + t128)), .int .i64 0, .int .i64 0, .int .i64 t131, .int .i64 0, .int .i64 0]) ?_ 4 _ rfl; (with_reducible repeat (first | refine blk_drewN ?_ _ | refine blk_drew ?_ | refine blk_alloc ?_ _)); refine blk_put (cs := #[.int .i64 (wrap64 (1 + t128)), .int .i64 0, .int .i64 0, .int .i64 0, .int .i64 0, .int .i64 0]) ?_ 3 _ rfl; (with_reducible repeat (first | refine blk_drewN ?_ _ | refine blk_drew ?_ | refine blk_alloc ?_ _)); refine blk_put (cs := #[.int .i64 (wrap64 (1 + t128)), .int .i64 0, .int .i64 0, .int .i64 0, .int .i64 0, .int .i64 0]) ?_ 2 _ rfl; (with_reducible repeat (first | refine blk_drewN ?_ _ | refine blk_drew ?_ | refine blk_alloc ?_ _)); refine blk_put (cs := #[.int .i64 (wrap64 (1 + t128)), .int .i64 0, .int .i64 0, .int .i64 0, .int .i64 0, .int .i64 0]) ?_ 1 _ rfl; (with_reducible repeat (first | refine blk_drewN ?_ _ | refine blk_drew ?_ | refine blk_alloc ?_ _)); refine blk_put (cs := #[.int .i64 0, .int .i64 0, .int .i64 0, .int .i64 0, .int .i64 0, .int .i64 0]) ?_ 0 _ rfl; (with_reducible repeat (first | refine blk_drewN ?_ _ | refine blk_drew ?_ | refine blk_alloc ?_ _)); exact BK137.out⟩
        have n2_ : Aside0 (IsS87 w0 ((((((w78.setCell ⟨gb137, 0, none⟩ (.int .i64 (wrap64 (1 + t128)))).setCell ⟨gb137, 1, none⟩ (.int .i64 0)).setCell ⟨gb137, 2, none⟩ (.int .i64 0)).setCell ⟨gb137, 3, none⟩ (.int .i64 t131)).setCell ⟨gb137, 4, none⟩ (.int .i64 t134)).setCell ⟨gb137, 5, none⟩ (.int .i64 0)) g s0_0 t135 t136) := ⟨by repeat (first | (with_reducible first | exact HI0.out | apply IsS87.alloc | apply IsS87.drewN | apply IsS87.drew | apply IsS87.set_1 | apply IsS87.set_2 | refine IsS87.far ?_ NB0_127.out _ | refine IsS87.far ?_ NB0_137.out _) | exact HI0.out)⟩
        have n3_ : Aside0 (KeepBut w ((((((w78.setCell ⟨gb137, 0, none⟩ (.int .i64 (wrap64 (1 + t128)))).setCell ⟨gb137, 1, none⟩ (.int .i64 0)).setCell ⟨gb137, 2, none⟩ (.int .i64 0)).setCell ⟨gb137, 3, none⟩ (.int .i64 t131)).setCell ⟨gb137, 4, none⟩ (.int .i64 t134)).setCell ⟨gb137, 5, none⟩ (.int .i64 0)) g none) := ⟨by repeat (first | (with_reducible first | exact HK.out | apply KeepBut.set_ | apply keep_drewN | apply keep_drew | apply keep_alloc | refine keep_far ?_ GW127.out _ | refine keep_far ?_ GW137.out _) | exact HK.out)⟩
        have n4_ : Aside0 (Below w0.heap.size w0 ((((((w78.setCell ⟨gb137, 0, none⟩ (.int .i64 (wrap64 (1 + t128)))).setCell ⟨gb137, 1, none⟩ (.int .i64 0)).setCell ⟨gb137, 2, none⟩ (.int .i64 0)).setCell ⟨gb137, 3, none⟩ (.int .i64 t131)).setCell ⟨gb137, 4, none⟩ (.int .i64 t134)).setCell ⟨gb137, 5, none⟩ (.int .i64 0))) := ⟨by repeat (first | (with_reducible first | exact HB.out | apply bA_ | apply bN_ | apply bD_ | refine bS_ ?_ (IsS87.ge HI0.out) | refine bS_ ?_ GE127.out | refine bS_ ?_ GE137.out) | exact HB.out)⟩
        (try clear BK127)
        (try clear BK137)
        (try clear HI0)
        (try clear HK)
        (try clear HB)
        generalize ((((((w78.setCell ⟨gb137, 0, none⟩ (.int .i64 (wrap64 (1 + t128)))).setCell ⟨gb137, 1, none⟩ (.int .i64 0)).setCell ⟨gb137, 2, none⟩ (.int .i64 0)).setCell ⟨gb137, 3, none⟩ (.int .i64 t131)).setCell ⟨gb137, 4, none⟩ (.int .i64 t134)).setCell ⟨gb137, 5, none⟩ (.int .i64 0)) = w82 at n0_ n1_ n2_ n3_ n4_ ⊢
        have BK127 := n0_
        have BK137 := n1_
        have HI0 := n2_
        have HK := n3_
        have HB := n4_
        clear n0_ n1_ n2_ n3_ n4_
        have n0_ := Aside0.mk (blk_drew BK127.out)
        have n1_ := Aside0.mk (blk_drew BK137.out)
        have n2_ := Aside0.mk (IsS87.drew HI0.out)
        have n3_ := Aside0.mk (keep_drew HK.out)
        have n4_ := Aside0.mk (bD_ HB.out)
        clear BK127
        clear BK137
        clear HI0
        clear HK
        clear HB
        have BK127 := n0_
        have BK137 := n1_
        have HI0 := n2_
        have HK := n3_
        have HB := n4_
        clear n0_ n1_ n2_ n3_ n4_
        refine start_ (n := 7) (S := fun w' => w'.cell? ⟨gb137, 0, none⟩ = some (.int .i64 (wrap64 (1 + t128))) ∧ w'.cell? ⟨gb137, 1, none⟩ = some (.int .i64 0) ∧ w'.cell? ⟨gb137, 2, none⟩ = some (.int .i64 0) ∧ w'.cell? ⟨gb137, 3, none⟩ = some (.int .i64 t131) ∧ w'.cell? ⟨gb137, 4, none⟩ = some (.int .i64 t134) ∧ w'.cell? ⟨gb137, 5, none⟩ = some (.int .i64 0)) (ds := [6]) #[false, false, false, false, false, false, false] z101_19 rfl rfl ⟨(bC_ BK137.out 0).trans rfl, (bC_ BK137.out 1).trans rfl, (bC_ BK137.out 2).trans rfl, (bC_ BK137.out 3).trans rfl, (bC_ BK137.out 4).trans rfl, (bC_ BK137.out 5).trans rfl⟩ (fun hHeld => ?_)
        generalize w82.drew = w83 at BK127 BK137 HI0 HK HB hHeld ⊢
        refine pure_ (i := 0) (N := some 12) (v := ?_) (a' := ?_) #[true, false, false, false, false, false, false] rfl rfl z101_19 (fun _ _ _ h => h) (Or.inl ⟨by rfl, ?_⟩) ?_ ?_
        rotate_left
        · intro w'
          go_simp
          with_reducible rfl
        rotate_left
        · simp only [Act.put, List.setIfInBounds_toArray, List.set_cons_zero, List.set_cons_succ, i64_w, i32_w]
          rfl
        refine pure_ (i := 2) (N := some 14) (v := ?_) (a' := ?_) #[true, false, true, false, false, false, false] rfl rfl z101_19 (fun _ _ _ h => h) (Or.inl ⟨by rfl, ?_⟩) ?_ ?_
        rotate_left
        · intro w'
          go_simp
          with_reducible rfl
        rotate_left
        · simp only [Act.put, List.setIfInBounds_toArray, List.set_cons_zero, List.set_cons_succ, i64_w, i32_w]
          rfl
        refine take_ (i := 1) (N := some 13) (v := ?_) (a' := ?_) #[true, true, true, false, false, false, false] rfl rfl z101_19 (fun _ _ _ h => h) (Or.inl ⟨by rfl, ?_⟩) hHeld ?_ ?_
        rotate_left
        · rintro w' ⟨s0, s1, s2, s3, s4, s5⟩
          go_simp
          with_reducible rfl
        rotate_left
        · simp only [Act.put, List.setIfInBounds_toArray, List.set_cons_zero, List.set_cons_succ, i64_w, i32_w]
          rfl
        refine one_ (i := 3) (N := some 15) #[true, true, true, true, false, false, false] rfl rfl z101_19 (by decide) (fun K hK => ?_)
        refine goes_ Try.func85 z101_19 rfl #[.pointer (some ⟨g, 0, none⟩), .int .i64 30] (by rfl) rfl rfl z101_1 ?_
        with_reducible refine (spec_l1Below.calls g s0_0 t135 t136 30 t138 t139 t140 w0 _ ?side1 ?side2 A5.out).mono ?_
        (case side1 => repeat (first | (with_reducible first | exact HI0.out | apply IsS87.alloc | apply IsS87.drewN | apply IsS87.drew | apply IsS87.set_1 | apply IsS87.set_2 | refine IsS87.far ?_ NB0_127.out _ | refine IsS87.far ?_ NB0_137.out _) | exact HI0.out))
        (case side2 => repeat (first | (with_reducible first | exact HB.out | apply bA_ | apply bN_ | apply bD_ | refine bS_ ?_ (IsS87.ge HI0.out) | refine bS_ ?_ GE127.out | refine bS_ ?_ GE137.out) | exact HB.out))
        rintro e w84 ⟨rfl, hi, hb, hk⟩
        refine ⟨_, rfl, ?_⟩
        have n0_ := Aside0.mk (KeepBut.blk hk (g' := gb127) (o := .cells #[.int .i64 0, .int .i64 0, .int .i64 0, .int .i64 0, .int .i64 0, .int .i64 0] 54 (0, 0)) (pB101_ BK127.out) NB127_0.out (by simp))
        have n1_ := Aside0.mk (KeepBut.blk hk (g' := gb137) (o := .cells #[.int .i64 (wrap64 (1 + t128)), .int .i64 0, .int .i64 0, .int .i64 t131, .int .i64 t134, .int .i64 0] 54 (0, 0)) (pB101_ BK137.out) NB137_0.out (by simp))
        have n2_ := Aside0.mk (KeepBut.trans z101_2 hk (.inl rfl))
        have n3_ := Aside0.mk (hb)
        have n4_ := Aside0.mk (hi)
        clear BK127
        clear BK137
        clear HK
        clear HB
        clear HI0
        have BK127 := n0_
        have BK137 := n1_
        have HK := n2_
        have HB := n3_
        have HI0 := n4_
        clear n0_ n1_ n2_ n3_ n4_
        (try clear hb)
        (try clear hb2)
        (try clear hk)
        (try clear hi)
        refine hK.out _ _ ⟨(bC_ BK137.out 0).trans rfl, (bC_ BK137.out 1).trans rfl, (bC_ BK137.out 2).trans rfl, (bC_ BK137.out 3).trans rfl, (bC_ BK137.out 4).trans rfl, (bC_ BK137.out 5).trans rfl⟩ (fun hHeld => ?_)
        clear hK K
        refine norm_ (a' := ?_) ?_ ?_
        rotate_left
        · show Act.put _ (some 15) _ = _
          simp only [Act.put, List.setIfInBounds_toArray, List.set_cons_zero, List.set_cons_succ, i64_w, i32_w]
          rfl
        refine pure_ (i := 4) (N := some 16) (v := ?_) (a' := ?_) #[true, true, true, true, true, false, false] rfl rfl z101_19 (fun _ _ _ h => h) (Or.inl ⟨by rfl, ?_⟩) ?_ ?_
        rotate_left
        · intro w'
          go_simp
          with_reducible rfl
        rotate_left
        · simp only [Act.put, List.setIfInBounds_toArray, List.set_cons_zero, List.set_cons_succ, i64_w, i32_w]
          rfl
        refine pure_ (i := 5) (N := some 17) (v := ?_) (a' := ?_) #[true, true, true, true, true, true, false] rfl rfl z101_19 (fun _ _ _ h => h) (Or.inl ⟨by rfl, ?_⟩) ?_ ?_
        rotate_left
        · intro w'
          go_simp
          with_reducible rfl
        rotate_left
        · simp only [Act.put, List.setIfInBounds_toArray, List.set_cons_zero, List.set_cons_succ, i64_w, i32_w]
          rfl
        refine last_ (i := 6) (N := none) #[true, true, true, true, true, true, true] rfl rfl z101_19 (by decide) (fun K hK => ?_)
        have hs85 : w84.cell? ⟨gb137, 5, none⟩ = some (.int .i64 0) := (bC_ BK137.out 5).trans rfl
        have hfs85 := bF_ BK137.out 5
        have hns85_0 := NB127_137.out
        have hms85_0 := NB137_127.out
        refine skip_ (w1 := ?_) (by rfl) rfl ?_ ?_
        rotate_left
        · go_simp
          rfl
        refine hK.out _ _ ?_
        clear hK K
        refine done_ z101_19 ?_
        have hcz86_0 : w84.cell? ⟨gb137, 0, none⟩ = some (.int .i64 (wrap64 (1 + t128))) := (bC_ BK137.out 0).trans rfl
        have hcz86_1 : w84.cell? ⟨gb137, 1, none⟩ = some (.int .i64 0) := (bC_ BK137.out 1).trans rfl
        have hcz86_2 : w84.cell? ⟨gb137, 2, none⟩ = some (.int .i64 0) := (bC_ BK137.out 2).trans rfl
        have hcz86_3 : w84.cell? ⟨gb137, 3, none⟩ = some (.int .i64 t131) := (bC_ BK137.out 3).trans rfl
        have hcz86_4 : w84.cell? ⟨gb137, 4, none⟩ = some (.int .i64 t134) := (bC_ BK137.out 4).trans rfl
        have hcz86_5 : w84.cell? ⟨gb137, 5, none⟩ = some (.int .i64 0) := (bC_ BK137.out 5).trans rfl
        have hfz86_0 := bF_ BK137.out 0
        have hfz86_1 := bF_ BK137.out 1
        have hfz86_2 := bF_ BK137.out 2
        have hfz86_3 := bF_ BK137.out 3
        have hfz86_4 := bF_ BK137.out 4
        have hfz86_5 := bF_ BK137.out 5
        try go_wp2_with (first | ((with_reducible refine gate_callee (f := 117) rfl ?_); refine goesL_ (some 21) rfl rfl Try.func117 z101_19 rfl #[.pointer (some ⟨g, 0, none⟩), .int .i64 3] rfl z101_1 ?_; (with_reducible refine (spec_l5Name.calls g s0_0 t139 t140 3 t159 t160 t161 w0 _ ?side1 ?side2 A72.out).mono ?_); (case side1 => repeat (first | (with_reducible first | exact HI0.out | apply IsS87.alloc | apply IsS87.drewN | apply IsS87.drew | apply IsS87.set_1 | apply IsS87.set_2 | refine IsS87.far ?_ NB0_127.out _ | refine IsS87.far ?_ NB0_137.out _) | exact HI0.out)); (case side2 => repeat (first | (with_reducible first | exact HB.out | apply bA_ | apply bN_ | apply bD_ | refine bS_ ?_ (IsS87.ge HI0.out) | refine bS_ ?_ GE127.out | refine bS_ ?_ GE137.out) | exact HB.out)); rintro e w87 ⟨rfl, hi, hb, hk⟩; refine ⟨_, rfl, ?_⟩; have n0_ := Aside0.mk (KeepBut.blk hk (g' := gb127) (o := .cells #[.int .i64 0, .int .i64 0, .int .i64 0, .int .i64 0, .int .i64 0, .int .i64 0] 54 (0, 0)) z101_3 NB127_0.out (by simp)); have n1_ := Aside0.mk (KeepBut.blk hk (g' := gb137) (o := .cells #[.int .i64 (wrap64 (1 + t128)), .int .i64 0, .int .i64 0, .int .i64 t131, .int .i64 t134, .int .i64 (wrap64 (t134 + t138))] 54 (0, 0)) z101_6 NB137_0.out (by simp)); have n2_ := Aside0.mk (KeepBut.trans z101_2 hk (.inl rfl)); have n3_ := Aside0.mk (hb); have n4_ := Aside0.mk (hi); clear BK127; clear BK137; clear HK; clear HB; clear HI0; have BK127 := n0_; have BK137 := n1_; have HK := n2_; have HB := n3_; have HI0 := n4_; clear n0_ n1_ n2_ n3_ n4_; (try clear hb); (try clear hb2); (try clear hk); (try clear hi); have hcz88_0 : w87.cell? ⟨gb137, 0, none⟩ = some (.int .i64 (wrap64 (1 + t128))) := (bC_ BK137.out 0).trans rfl; have hcz88_1 : w87.cell? ⟨gb137, 1, none⟩ = some (.int .i64 0) := (bC_ BK137.out 1).trans rfl; have hcz88_2 : w87.cell? ⟨gb137, 2, none⟩ = some (.int .i64 0) := (bC_ BK137.out 2).trans rfl; have hcz88_3 : w87.cell? ⟨gb137, 3, none⟩ = some (.int .i64 t131) := (bC_ BK137.out 3).trans rfl; have hcz88_4 : w87.cell? ⟨gb137, 4, none⟩ = some (.int .i64 t134) := (bC_ BK137.out 4).trans rfl; have hcz88_5 : w87.cell? ⟨gb137, 5, none⟩ = some (.int .i64 (wrap64 (t134 + t138))) := (bC_ BK137.out 5).trans rfl; have hfz88_0 := bF_ BK137.out 0; have hfz88_1 := bF_ BK137.out 1; have hfz88_2 := bF_ BK137.out 2; have hfz88_3 := bF_ BK137.out 3; have hfz88_4 := bF_ BK137.out 4; have hfz88_5 := bF_ BK137.out 5) | ((with_reducible refine gate_callee (f := 85) rfl ?_); refine goesL_ (some 24) rfl rfl Try.func85 z101_19 rfl #[.pointer (some ⟨g, 0, none⟩), .int .i64 4] rfl z101_1 ?_; (with_reducible refine (spec_l1Below.calls g s0_0 t160 t161 4 t162 t163 t164 w0 _ ?side1 ?side2 A73.out).mono ?_); (case side1 => repeat (first | (with_reducible first | exact HI0.out | apply IsS87.alloc | apply IsS87.drewN | apply IsS87.drew | apply IsS87.set_1 | apply IsS87.set_2 | refine IsS87.far ?_ NB0_127.out _ | refine IsS87.far ?_ NB0_137.out _) | exact HI0.out)); (case side2 => repeat (first | (with_reducible first | exact HB.out | apply bA_ | apply bN_ | apply bD_ | refine bS_ ?_ (IsS87.ge HI0.out) | refine bS_ ?_ GE127.out | refine bS_ ?_ GE137.out) | exact HB.out)); rintro e w89 ⟨rfl, hi, hb, hk⟩; refine ⟨_, rfl, ?_⟩; have n0_ := Aside0.mk (KeepBut.blk hk (g' := gb127) (o := .cells #[.int .i64 0, .int .i64 0, .int .i64 0, .int .i64 0, .int .i64 0, .int .i64 0] 54 (0, 0)) z101_3 NB127_0.out (by simp)); have n1_ := Aside0.mk (KeepBut.blk hk (g' := gb137) (o := .cells #[.int .i64 (wrap64 (1 + t128)), .int .i64 t159, .int .i64 0, .int .i64 t131, .int .i64 t134, .int .i64 (wrap64 (t134 + t138))] 54 (0, 0)) z101_5 NB137_0.out (by simp)); have n2_ := Aside0.mk (KeepBut.trans z101_2 hk (.inl rfl)); have n3_ := Aside0.mk (hb); have n4_ := Aside0.mk (hi); clear BK127; clear BK137; clear HK; clear HB; clear HI0; have BK127 := n0_; have BK137 := n1_; have HK := n2_; have HB := n3_; have HI0 := n4_; clear n0_ n1_ n2_ n3_ n4_; (try clear hb); (try clear hb2); (try clear hk); (try clear hi); have hcz90_0 : w89.cell? ⟨gb137, 0, none⟩ = some (.int .i64 (wrap64 (1 + t128))) := (bC_ BK137.out 0).trans rfl; have hcz90_1 : w89.cell? ⟨gb137, 1, none⟩ = some (.int .i64 t159) := (bC_ BK137.out 1).trans rfl; have hcz90_2 : w89.cell? ⟨gb137, 2, none⟩ = some (.int .i64 0) := (bC_ BK137.out 2).trans rfl; have hcz90_3 : w89.cell? ⟨gb137, 3, none⟩ = some (.int .i64 t131) := (bC_ BK137.out 3).trans rfl; have hcz90_4 : w89.cell? ⟨gb137, 4, none⟩ = some (.int .i64 t134) := (bC_ BK137.out 4).trans rfl; have hcz90_5 : w89.cell? ⟨gb137, 5, none⟩ = some (.int .i64 (wrap64 (t134 + t138))) := (bC_ BK137.out 5).trans rfl; have hfz90_0 := bF_ BK137.out 0; have hfz90_1 := bF_ BK137.out 1; have hfz90_2 := bF_ BK137.out 2; have hfz90_3 := bF_ BK137.out 3; have hfz90_4 := bF_ BK137.out 4; have hfz90_5 := bF_ BK137.out 5; have hnb91 := NB127_0.out; have hnc91 := NB0_127.out; have hcz92_0 : w89.cell? ⟨gb127, 0, none⟩ = some (.int .i64 0) := (bC_ BK127.out 0).trans rfl; have hcz92_1 : w89.cell? ⟨gb127, 1, none⟩ = some (.int .i64 0) := (bC_ BK127.out 1).trans rfl; have hcz92_2 : w89.cell? ⟨gb127, 2, none⟩ = some (.int .i64 0) := (bC_ BK127.out 2).trans rfl; have hcz92_3 : w89.cell? ⟨gb127, 3, none⟩ = some (.int .i64 0) := (bC_ BK127.out 3).trans rfl; have hcz92_4 : w89.cell? ⟨gb127, 4, none⟩ = some (.int .i64 0) := (bC_ BK127.out 4).trans rfl; have hcz92_5 : w89.cell? ⟨gb127, 5, none⟩ = some (.int .i64 0) := (bC_ BK127.out 5).trans rfl; have hfz92_0 := bF_ BK127.out 0; have hfz92_1 := bF_ BK127.out 1; have hfz92_2 := bF_ BK127.out 2; have hfz92_3 := bF_ BK127.out 3; have hfz92_4 := bF_ BK127.out 4; have hfz92_5 := bF_ BK127.out 5))
        refine bodyPost_ret (results_cell_row rfl _ _ gb127 54 #[.int .i64 (wrap64 (1 + t128)), .int .i64 t159, .int .i64 t162, .int .i64 t131, .int .i64 t134, .int .i64 (wrap64 (t134 + t138))] (0, 0) _ rfl (by (with_reducible repeat (first | refine blk_drewN ?_ _ | refine blk_drew ?_ | refine blk_alloc ?_ _)); refine blk_put (cs := #[.int .i64 (wrap64 (1 + t128)), .int .i64 t159, .int .i64 t162, .int .i64 t131, .int .i64 t134, .int .i64 0]) ?_ 5 _ rfl; (with_reducible repeat (first | refine blk_drewN ?_ _ | refine blk_drew ?_ | refine blk_alloc ?_ _)); refine blk_put (cs := #[.int .i64 (wrap64 (1 + t128)), .int .i64 t159, .int .i64 t162, .int .i64 t131, .int .i64 0, .int .i64 0]) ?_ 4 _ rfl; (with_reducible repeat (first | refine blk_drewN ?_ _ | refine blk_drew ?_ | refine blk_alloc ?_ _)); refine blk_put (cs := #[.int .i64 (wrap64 (1 + t128)), .int .i64 t159, .int .i64 t162, .int .i64 0, .int .i64 0, .int .i64 0]) ?_ 3 _ rfl; (with_reducible repeat (first | refine blk_drewN ?_ _ | refine blk_drew ?_ | refine blk_alloc ?_ _)); refine blk_put (cs := #[.int .i64 (wrap64 (1 + t128)), .int .i64 t159, .int .i64 0, .int .i64 0, .int .i64 0, .int .i64 0]) ?_ 2 _ rfl; (with_reducible repeat (first | refine blk_drewN ?_ _ | refine blk_drew ?_ | refine blk_alloc ?_ _)); refine blk_put (cs := #[.int .i64 (wrap64 (1 + t128)), .int .i64 0, .int .i64 0, .int .i64 0, .int .i64 0, .int .i64 0]) ?_ 1 _ rfl; (with_reducible repeat (first | refine blk_drewN ?_ _ | refine blk_drew ?_ | refine blk_alloc ?_ _)); refine blk_put (cs := #[.int .i64 0, .int .i64 0, .int .i64 0, .int .i64 0, .int .i64 0, .int .i64 0]) ?_ 0 _ rfl; (with_reducible repeat (first | refine blk_drewN ?_ _ | refine blk_drew ?_ | refine blk_alloc ?_ _)); refine blk_far ?_ NB127_137.out _; (with_reducible repeat (first | refine blk_drewN ?_ _ | refine blk_drew ?_ | refine blk_alloc ?_ _)); exact BK127.out) Try.underlying54 rfl z101_19) rfl ?_
        exact ⟨by first | rfl | (simp [errW_none, errW_some] <;> rfl) | (simp [*, errW_none, errW_some] <;> rfl), by repeat (first | (with_reducible first | exact HI0.out | apply IsS87.alloc | apply IsS87.drewN | apply IsS87.drew | apply IsS87.set_1 | apply IsS87.set_2 | refine IsS87.far ?_ NB0_127.out _ | refine IsS87.far ?_ NB0_137.out _) | exact HI0.out), by repeat (first | (with_reducible first | exact HB.out | apply bA_ | apply bN_ | apply bD_ | refine bS_ ?_ (IsS87.ge HI0.out) | refine bS_ ?_ GE127.out | refine bS_ ?_ GE137.out) | exact HB.out), by repeat (first | (with_reducible first | exact HK.out | apply KeepBut.set_ | apply keep_drewN | apply keep_drew | apply keep_alloc | refine keep_far ?_ GW127.out _ | refine keep_far ?_ GW137.out _) | exact HK.out)⟩

/-! ### spec_l1In: function 69 -/
def spec_l1In.f (a0 : Int) (a1 : Int) (a2 : Int) : Option (Bool) := if a0 ≥ a1 then (some (decide (a0 ≤ a2))) else (some false)
set_option maxHeartbeats 8000000 in
set_option maxRecDepth 100000 in
theorem spec_l1In.calls (a0 : Int) (a1 : Int) (a2 : Int) (r : Bool) (w : World) (h : spec_l1In.f a0 a1 a2 = some r) :
    Calls Try.prog 69 #[.int .i64 a0, .int .i64 a1, .int .i64 a2] w fun e w' => e = .returned (.bool r) ∧ Drawn0 w w' := by
  have H : (if a0 ≥ a1 then (some (decide (a0 ≤ a2))) else (some false)) = some r := h
  clear h
  by_cases c4 : a0 ≥ a1
  · rw [if_pos c4] at H
    have c4b0 : decide (a1 ≤ a0) = true := decide_eq_true c4
    clear c4
    obtain rfl := Option.some.inj H
    go_enter Try.func69, Try.ntmps69
    go_wp2
    go_ret
    exact ⟨by first | rfl | (simp; done) | (simp [*]; done), by repeat (first | exact Drawn0.refl _ | apply Drawn0.step)⟩
  · rw [if_neg c4] at H
    have c4b0 : decide (a1 ≤ a0) = false := decide_eq_false c4
    clear c4
    obtain rfl := Option.some.inj H
    go_enter Try.func69, Try.ntmps69
    go_wp2
    go_ret
    exact ⟨by first | rfl | (simp; done) | (simp [*]; done), by repeat (first | exact Drawn0.refl _ | apply Drawn0.step)⟩

/-! ### spec_IsTime: function 81 -/
def spec_IsTime.f (a0 : Int) : Option (Bool) := (spec_l1In.f a0 0 10000).bind fun t165 => (some t165)
set_option maxHeartbeats 8000000 in
set_option maxRecDepth 100000 in
theorem spec_IsTime.calls (a0 : Int) (r : Bool) (w : World) (h : spec_IsTime.f a0 = some r) :
    Calls Try.prog 81 #[.int .i64 a0] w fun e w' => e = .returned (.bool r) ∧ Drawn0 w w' := by
  have H : ((spec_l1In.f a0 0 10000).bind fun t165 => (some t165)) = some r := h
  clear h
  replace H := Option.bind_eq_some_iff.mp H
  obtain ⟨t165, A20, H⟩ := H
  replace H : (some t165) = some r := H
  have A2 := Aside0.mk A20
  clear A20
  obtain rfl := Option.some.inj H
  go_enter Try.func81, Try.ntmps81
  go_wp2_with (first | ((with_reducible refine gate_callee (f := 69) rfl ?_); refine goesL_ (some 4) rfl rfl Try.func69 (by kernel_rfl) rfl #[.int .i64 a0, .int .i64 0, .int .i64 10000] rfl (by (try simp only [List.map_toArray, List.map_cons, List.map_nil]); first | done | rfl | (simp only [List.length_drop, List.length_take]; rfl)) ?_; (with_reducible refine (spec_l1In.calls a0 0 10000 t165 _ A2.out).mono ?_); rintro e w' ⟨rfl, ⟨nd, rfl⟩⟩; refine ⟨_, rfl, ?_⟩))
  go_ret
  exact ⟨by first | rfl | (simp; done) | (simp [*]; done), by repeat (first | exact Drawn0.refl _ | apply Drawn0.step)⟩

/-! ### spec_IsName: function 122 -/
def spec_IsName.f (a0 : Int) : Option (Bool) := (spec_l1In.f a0 10 49).bind fun t166 => (some t166)
set_option maxHeartbeats 8000000 in
set_option maxRecDepth 100000 in
theorem spec_IsName.calls (a0 : Int) (r : Bool) (w : World) (h : spec_IsName.f a0 = some r) :
    Calls Try.prog 122 #[.int .i64 a0] w fun e w' => e = .returned (.bool r) ∧ Drawn0 w w' := by
  have H : ((spec_l1In.f a0 10 49).bind fun t166 => (some t166)) = some r := h
  clear h
  replace H := Option.bind_eq_some_iff.mp H
  obtain ⟨t166, A20, H⟩ := H
  replace H : (some t166) = some r := H
  have A2 := Aside0.mk A20
  clear A20
  obtain rfl := Option.some.inj H
  go_enter Try.func122, Try.ntmps122
  go_wp2_with (first | ((with_reducible refine gate_callee (f := 69) rfl ?_); refine goesL_ (some 4) rfl rfl Try.func69 (by kernel_rfl) rfl #[.int .i64 a0, .int .i64 10, .int .i64 49] rfl (by (try simp only [List.map_toArray, List.map_cons, List.map_nil]); first | done | rfl | (simp only [List.length_drop, List.length_take]; rfl)) ?_; (with_reducible refine (spec_l1In.calls a0 10 49 t166 _ A2.out).mono ?_); rintro e w' ⟨rfl, ⟨nd, rfl⟩⟩; refine ⟨_, rfl, ?_⟩))
  go_ret
  exact ⟨by first | rfl | (simp; done) | (simp [*]; done), by repeat (first | exact Drawn0.refl _ | apply Drawn0.step)⟩

/-! ### spec_HasKind: function 120 -/
def spec_HasKind.f (a0 : Int) (a1 : Int) : Option (Bool) := (spec_IsName.f a0).bind fun t167 => (if t167 = true then (some ((wrap64 (Int.tdiv a0 10)) == a1)) else (some false))
set_option maxHeartbeats 8000000 in
set_option maxRecDepth 100000 in
theorem spec_HasKind.calls (a0 : Int) (a1 : Int) (r : Bool) (w : World) (h : spec_HasKind.f a0 a1 = some r) :
    Calls Try.prog 120 #[.int .i64 a0, .int .i64 a1] w fun e w' => e = .returned (.bool r) ∧ Drawn0 w w' := by
  have H : ((spec_IsName.f a0).bind fun t167 => (if t167 = true then (some ((wrap64 (Int.tdiv a0 10)) == a1)) else (some false))) = some r := h
  clear h
  replace H := Option.bind_eq_some_iff.mp H
  obtain ⟨t167, A30, H⟩ := H
  replace H : (if t167 = true then (some ((wrap64 (Int.tdiv a0 10)) == a1)) else (some false)) = some r := H
  have A3 := Aside0.mk A30
  clear A30
  by_cases c4 : t167 = true
  · subst c4
    have H1 : (some ((wrap64 (Int.tdiv a0 10)) == a1)) = some r := by rw [if_pos rfl] at H; exact H
    clear H
    have H := H1
    clear H1
    obtain rfl := Option.some.inj H
    go_enter Try.func120, Try.ntmps120
    go_wp2_with (first | ((with_reducible refine gate_callee (f := 122) rfl ?_); refine goesL_ (some 6) rfl rfl Try.func122 (by kernel_rfl) rfl #[.int .i64 a0] rfl (by (try simp only [List.map_toArray, List.map_cons, List.map_nil]); first | done | rfl | (simp only [List.length_drop, List.length_take]; rfl)) ?_; (with_reducible refine (spec_IsName.calls a0 true _ A3.out).mono ?_); rintro e w' ⟨rfl, ⟨nd, rfl⟩⟩; refine ⟨_, rfl, ?_⟩))
    go_ret
    exact ⟨by first | rfl | (simp; done) | (simp [*]; done), by repeat (first | exact Drawn0.refl _ | apply Drawn0.step)⟩
  · replace c4 := Bool.eq_false_iff.mpr c4
    subst c4
    have H1 : (some false) = some r := by rw [if_neg (show ¬ (false = true) by decide)] at H; exact H
    clear H
    have H := H1
    clear H1
    obtain rfl := Option.some.inj H
    go_enter Try.func120, Try.ntmps120
    go_wp2_with (first | ((with_reducible refine gate_callee (f := 122) rfl ?_); refine goesL_ (some 6) rfl rfl Try.func122 (by kernel_rfl) rfl #[.int .i64 a0] rfl (by (try simp only [List.map_toArray, List.map_cons, List.map_nil]); first | done | rfl | (simp only [List.length_drop, List.length_take]; rfl)) ?_; (with_reducible refine (spec_IsName.calls a0 false _ A3.out).mono ?_); rintro e w' ⟨rfl, ⟨nd, rfl⟩⟩; refine ⟨_, rfl, ?_⟩))
    go_ret
    exact ⟨by first | rfl | (simp; done) | (simp [*]; done), by repeat (first | exact Drawn0.refl _ | apply Drawn0.step)⟩

end Go.Proofs.Ytlcmjdkbeckdnaa.XFnAgreement
