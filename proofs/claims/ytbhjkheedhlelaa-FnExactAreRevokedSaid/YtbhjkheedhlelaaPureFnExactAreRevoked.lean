/- FnExactAreRevoked: the program's AreRevoked answers what the reference's answers, for all lists. Conditions: none. -/
import Derived.Test.YtbhjkheedhlelaaLib
import Derived.Test.YtbhjkheedhlelaaXFnExactAreRevokedx4
namespace Go.Proofs.Ytbhjkheedhlelaa.Pure
open Go.RowKit Go.Proofs.Ytbhjkheedhlelaa.XFnExactAreRevoked Go.Proofs.YtbhjkheedhlelaaW.PrintWords
set_option linter.unusedVariables false
set_option linter.unusedSimpArgs false
open Go.Proofs.YtbhjkheedhlelaaLib
theorem in1 (x y z : Int) : spec_l1In.f x y z = some (decide (y ≤ x ∧ x ≤ z)) := by
  unfold spec_l1In.f
  by_cases h : x ≥ y
  · rw [if_pos h]; simp [show y ≤ x from h]
  · rw [if_neg h]; simp; omega
theorem in2 (x y z : Int) : impl_InRange.f x y z = some (decide (y ≤ x ∧ x ≤ z)) := by
  unfold impl_InRange.f
  by_cases h : y ≤ x
  · rw [if_pos h]; simp [h]
  · rw [if_neg h]; simp; omega
theorem rdT60 (l : List S60) (i : Nat) : rd_T60 l (i : Int) = l.getD i z60 := by
  unfold rd_T60
  rw [Int.toNat_natCast]
theorem rdT58 (l : List S58) (i : Nat) : rd_T58 l (i : Int) = l.getD i z58 := by
  unfold rd_T58
  rw [Int.toNat_natCast]
theorem szRevoked (l : List S60) (a : Int) (h0 : 0 ≤ a) (h1 : a ≤ 1048576) (hl : l.length ≤ maxLen) : laws_szRevokedS.f l a = some (if (l.length : Int) ≤ a then a - (l.length : Int) else -1) := by
  unfold maxLen at hl
  unfold laws_szRevokedS.f
  rw [wrap_in (by omega) (by omega)]
  by_cases h : (l.length : Int) ≤ a
  · rw [if_pos h, if_neg (by omega)]
  · rw [if_neg h, if_pos (by omega)]
def cvRevoked (x : S60) : S58 := ⟨x.f0, x.f1⟩
theorem toRevoked (l : List S60) (hl : l.length ≤ 1048576) (k : Nat) (hk : l.length < k) : laws_toRevokedS.f k l = some (l.map cvRevoked) := by
  unfold laws_toRevokedS.f
  rw [if_pos (by omega), if_pos (by omega), Int.toNat_natCast]
  refine (run (fun k s i => laws_toRevokedS.l0 k l s i) (put (fun i => (⟨(l.getD i z60).f0, (l.getD i z60).f1⟩ : S58)) (List.replicate l.length z58)) l.length 0 (l.map cvRevoked) ?_ ?_ k (by omega))
  · intro k i _ hi
    have hlen : (put (fun i => (⟨(l.getD i z60).f0, (l.getD i z60).f1⟩ : S58)) (List.replicate l.length z58) i).length = l.length := by rw [put_length _ _ _ (by simp; omega), List.length_replicate]
    simp only [laws_toRevokedS.l0, laws_toRevoked.f, Option.bind_some, rdT60]
    rw [if_pos (by omega), if_pos (by omega), if_pos (by omega), wrap_succ hi (by omega), Int.toNat_natCast, put_set (fun i => (⟨(l.getD i z60).f0, (l.getD i z60).f1⟩ : S58)) _ i (by simp; omega)]
  · intro k _
    simp only [laws_toRevokedS.l0]
    rw [if_neg (by omega), put_all _ _ (by simp), map_range_getD l z60 (fun x => (⟨x.f0, x.f1⟩ : S58))]
    rfl
theorem eqRevoked_self (l : List S58) (hl : l.length ≤ 1099511627776) (k : Nat) (hk : l.length < k) : laws_eqRevokedS.f k l l = some true := by
  unfold laws_eqRevokedS.f
  rw [if_pos rfl]
  refine run (fun k (_ : Unit) i => laws_eqRevokedS.l0 k l l i) (fun _ => ()) l.length 0 true ?_ ?_ k (by omega)
  · intro k i _ hi
    simp only [laws_eqRevokedS.l0, laws_eqRevoked.f, Option.bind_some, if_true]
    rw [if_pos (by omega), if_pos (by omega), if_pos (by omega), wrap_succ hi hl]
  · intro k _
    simp only [laws_eqRevokedS.l0]
    rw [if_neg (by omega)]
def badRevoked (l : List S58) (i : Nat) : Bool :=
  decide (1 ≤ (l.getD i z58).f0 ∧ (l.getD i z58).f0 ≤ 9999) && decide (0 ≤ (l.getD i z58).f1 ∧ (l.getD i z58).f1 ≤ 10000) && (decide (i = 0) || decide ((l.getD (i - 1) z58).f0 < (l.getD i z58).f0))
def areRevoked (l : List S58) : Bool := if (List.range l.length).all (badRevoked l) = true then decide ((l.length : Int) ≤ 40) else false
theorem areRevoked1 (l : List S58) (hl : l.length ≤ 1099511627776) (k : Nat) (hk : l.length < k) : spec_AreRevoked.f k l = some (areRevoked l) := by
  unfold spec_AreRevoked.f
  refine allLoop (fun k i => spec_AreRevoked.l0 k l i) l.length 0 (badRevoked l) false (decide ((l.length : Int) ≤ 40)) ?_ ?_ ?_ k (by omega)
  · intro k i _ hi hp
    simp only [badRevoked, Bool.and_eq_true, Bool.or_eq_true, decide_eq_true_eq] at hp
    obtain ⟨⟨hp1, hp2⟩, hp3⟩ := hp
    simp only [spec_AreRevoked.l0, in1, spec_IsTime.f, rdT58, Option.bind_some, decide_eq_true_eq]
    rw [if_pos (by omega), if_pos (by omega), if_pos hp1, if_pos hp2, wrap_succ hi hl]
    rcases Nat.eq_zero_or_pos i with h0 | h0
    · rw [if_neg (by omega)]
    · have hw : wrap64 ((i : Int) - 1) = ((i - 1 : Nat) : Int) := by unfold wrap64; omega
      rw [if_pos (by omega), hw, rdT58, if_pos (by omega), if_pos (by omega), if_neg (by omega)]
  · intro k i _ hi hp
    simp only [spec_AreRevoked.l0, in1, spec_IsTime.f, rdT58, Option.bind_some, decide_eq_true_eq]
    rw [if_pos (by omega), if_pos (by omega)]
    by_cases hp1 : 1 ≤ (l.getD i z58).f0 ∧ (l.getD i z58).f0 ≤ 9999
    · rw [if_pos hp1]
      by_cases hp2 : 0 ≤ (l.getD i z58).f1 ∧ (l.getD i z58).f1 ≤ 10000
      · rw [if_pos hp2]
        have h0 : 0 < i := by
          rcases Nat.eq_zero_or_pos i with h0 | h0
          · unfold badRevoked at hp
            rw [decide_eq_true hp1, decide_eq_true hp2, decide_eq_true h0] at hp
            simp at hp
          · exact h0
        have hw : wrap64 ((i : Int) - 1) = ((i - 1 : Nat) : Int) := by unfold wrap64; omega
        have hq : (l.getD i z58).f0 ≤ (l.getD (i - 1) z58).f0 := by
          simp only [badRevoked, hp1, hp2, and_self, decide_true, Bool.true_and, Bool.or_eq_false_iff, decide_eq_false_iff_not] at hp
          omega
        rw [if_pos (by omega), hw, rdT58, if_pos (by omega), if_pos (by omega), if_pos hq]
      · rw [if_neg hp2]
    · rw [if_neg hp1]
  · intro k _
    simp only [spec_AreRevoked.l0]
    rw [if_neg (by omega)]
theorem areRevoked2 (l : List S58) (hl : l.length ≤ 1099511627776) (k : Nat) (hk : l.length < k) : impl_AreRevoked.f k l = some (areRevoked l) := by
  unfold impl_AreRevoked.f
  refine allLoop (fun k i => impl_AreRevoked.l0 k l l (l.length : Int) i) l.length 0 (badRevoked l) false (decide ((l.length : Int) ≤ 40)) ?_ ?_ ?_ k (by omega)
  · intro k i _ hi hp
    simp only [badRevoked, Bool.and_eq_true, Bool.or_eq_true, decide_eq_true_eq] at hp
    obtain ⟨⟨hp1, hp2⟩, hp3⟩ := hp
    simp only [impl_AreRevoked.l0, in2, impl_IsTime.f, rdT58, Option.bind_some, decide_eq_true_eq]
    rw [if_pos (by omega), if_pos (by omega), if_pos (by omega), if_pos hp1, if_pos hp2, wrap_succ hi hl]
    rcases Nat.eq_zero_or_pos i with h0 | h0
    · rw [if_neg (by omega)]
    · have hw : wrap64 ((i : Int) - 1) = ((i - 1 : Nat) : Int) := by unfold wrap64; omega
      rw [if_pos (by omega), hw, rdT58, if_pos (by omega), if_pos (by omega), if_neg (by omega)]
  · intro k i _ hi hp
    simp only [impl_AreRevoked.l0, in2, impl_IsTime.f, rdT58, Option.bind_some, decide_eq_true_eq]
    rw [if_pos (by omega), if_pos (by omega), if_pos (by omega)]
    by_cases hp1 : 1 ≤ (l.getD i z58).f0 ∧ (l.getD i z58).f0 ≤ 9999
    · rw [if_pos hp1]
      by_cases hp2 : 0 ≤ (l.getD i z58).f1 ∧ (l.getD i z58).f1 ≤ 10000
      · rw [if_pos hp2]
        have h0 : 0 < i := by
          rcases Nat.eq_zero_or_pos i with h0 | h0
          · unfold badRevoked at hp
            rw [decide_eq_true hp1, decide_eq_true hp2, decide_eq_true h0] at hp
            simp at hp
          · exact h0
        have hw : wrap64 ((i : Int) - 1) = ((i - 1 : Nat) : Int) := by unfold wrap64; omega
        have hq : (l.getD i z58).f0 ≤ (l.getD (i - 1) z58).f0 := by
          simp only [badRevoked, hp1, hp2, and_self, decide_true, Bool.true_and, Bool.or_eq_false_iff, decide_eq_false_iff_not] at hp
          omega
        rw [if_pos (by omega), hw, rdT58, if_pos (by omega), if_pos (by omega), if_pos hq]
      · rw [if_neg hp2]
    · rw [if_neg hp1]
  · intro k _
    simp only [impl_AreRevoked.l0]
    rw [if_neg (by omega)]
theorem FnExactAreRevoked : laws_FnExactAreRevoked.Pure := by
  intro l hw
  suffices h : ∀ k, 1048577 < k → laws_FnExactAreRevoked.f k l = some true from ⟨1048578, h _ (by omega)⟩
  intro k hk
  unfold laws_FnExactAreRevoked.f
  rw [szRevoked l 1048576 (by omega) (by omega) hw.1]
  simp only [Option.bind_some]
  by_cases h : (l.length : Int) ≤ 1048576
  · rw [if_pos h, if_neg (by omega), toRevoked l (by omega) k (by omega)]
    have hl : (l.map cvRevoked).length = l.length := List.length_map ..
    simp only [Option.bind_some, areRevoked1 (l.map cvRevoked) (by omega) k (by omega), areRevoked2 (l.map cvRevoked) (by omega) k (by omega), eqRevoked_self (l.map cvRevoked) (by omega) k (by omega)]
    simp
  · rw [if_neg h, if_pos (by omega)]
end Go.Proofs.Ytbhjkheedhlelaa.Pure
