/- FnExactIsPrefixLog: the program's IsPrefixLog answers what the reference's answers, for all logs. Conditions: none. -/
import Derived.Test.YtbhjkheedhlelaaLib
import Derived.Test.YtbhjkheedhlelaaXFnExactIsPrefixLogx2
namespace Go.Proofs.Ytbhjkheedhlelaa.Pure
open Go.RowKit Go.Proofs.Ytbhjkheedhlelaa.XFnExactIsPrefixLog Go.Proofs.YtbhjkheedhlelaaW.PrintWords
set_option linter.unusedVariables false
set_option linter.unusedSimpArgs false
open Go.Proofs.YtbhjkheedhlelaaLib
theorem toIntS (l : List Int) (hl : l.length ≤ 1099511627776) (k : Nat) (hk : l.length < k) : laws_toIntS.f k l = some l := by
  unfold laws_toIntS.f
  rw [if_pos (by omega), if_pos (by omega), Int.toNat_natCast]
  refine (run (fun k s i => laws_toIntS.l0 k l s i) (put (fun i => l.getD i 0) (List.replicate l.length 0)) l.length 0 l ?_ ?_ k (by omega))
  · intro k i _ hi
    have hlen : (put (fun i => l.getD i 0) (List.replicate l.length 0) i).length = l.length := by rw [put_length _ _ _ (by simp; omega), List.length_replicate]
    simp only [laws_toIntS.l0]
    rw [if_pos (by omega), if_pos (by omega), if_pos (by omega), wrap_succ hi hl, rd_nat, Int.toNat_natCast, put_set (fun i => l.getD i 0) _ i (by simp; omega)]
  · intro k _
    simp only [laws_toIntS.l0]
    rw [if_neg (by omega), put_all _ _ (by simp), map_range_getD']
theorem eqIntS_self (l : List Int) (hl : l.length ≤ 1099511627776) (k : Nat) (hk : l.length < k) : laws_eqIntS.f k l l = some true := by
  unfold laws_eqIntS.f
  rw [if_pos rfl]
  refine run (fun k (_ : Unit) i => laws_eqIntS.l0 k l l i) (fun _ => ()) l.length 0 true ?_ ?_ k (by omega)
  · intro k i _ hi
    simp only [laws_eqIntS.l0]
    rw [if_pos (by omega), if_pos (by omega), if_pos (by omega), if_pos trivial, wrap_succ hi hl]
  · intro k _
    simp only [laws_eqIntS.l0]
    rw [if_neg (by omega)]
def same (a b : List Int) : Bool := (List.range a.length).all fun i => a.getD i 0 == b.getD i 0
theorem eq1 (a b : List Int) (hl : a.length ≤ 1099511627776) (hab : a.length = b.length) (k : Nat) (hk : a.length < k) : spec_EqualInts.f k a b = some (same a b) := by
  unfold spec_EqualInts.f
  rw [if_pos (by omega)]
  rw [allLoop (fun k i => spec_EqualInts.l0 k a b i) a.length 0 (fun i => a.getD i 0 == b.getD i 0) false true ?_ ?_ ?_ k (by omega)]
  · unfold same
    cases (List.range a.length).all fun i => a.getD i 0 == b.getD i 0 <;> rfl
  · intro k i _ hi hp
    simp only [spec_EqualInts.l0]
    rw [if_pos (by omega), if_pos (by omega), if_pos (by omega), if_pos (by rw [rd_nat, rd_nat]; simpa using hp), wrap_succ hi hl]
  · intro k i _ hi hp
    simp only [spec_EqualInts.l0]
    rw [if_pos (by omega), if_pos (by omega), if_pos (by omega), if_neg (by rw [rd_nat, rd_nat]; simpa using hp)]
  · intro k _
    simp only [spec_EqualInts.l0]
    rw [if_neg (by omega)]
theorem eq2 (a b : List Int) (hl : a.length ≤ 1099511627776) (hab : a.length = b.length) (k : Nat) (hk : a.length < k) : slices_Equal_int_int.f k a b = some (same a b) := by
  unfold slices_Equal_int_int.f
  rw [if_pos (by omega)]
  rw [allLoop (fun k i => slices_Equal_int_int.l0 k a b (a.length : Int) i) a.length 0 (fun i => a.getD i 0 == b.getD i 0) false true ?_ ?_ ?_ k (by omega)]
  · unfold same
    cases (List.range a.length).all fun i => a.getD i 0 == b.getD i 0 <;> rfl
  · intro k i _ hi hp
    simp only [slices_Equal_int_int.l0]
    rw [if_pos (by omega), if_pos (by omega), if_pos (by omega), if_pos (by omega), if_pos (by rw [rd_nat, rd_nat]; simpa using hp), wrap_succ hi hl]
  · intro k i _ hi hp
    simp only [slices_Equal_int_int.l0]
    rw [if_pos (by omega), if_pos (by omega), if_pos (by omega), if_pos (by omega), if_neg (by rw [rd_nat, rd_nat]; simpa using hp)]
  · intro k _
    simp only [slices_Equal_int_int.l0]
    rw [if_neg (by omega)]
theorem FnExactIsPrefixLog : laws_FnExactIsPrefixLog.Pure := by
  intro a b ha hb
  suffices h : ∀ k, 1048577 < k → laws_FnExactIsPrefixLog.f k a b = some true from ⟨1048578, h _ (by omega)⟩
  intro k hk
  unfold laws_FnExactIsPrefixLog.f
  by_cases h1 : (a.length : Int) > 1048576
  · rw [if_pos h1]
  rw [if_neg h1]
  by_cases h2 : (b.length : Int) > 1048576
  · rw [if_pos h2]
  rw [if_neg h2, toIntS a (by omega) k (by omega)]
  simp only [Option.bind_some, toIntS b (by omega) k (by omega), eqIntS_self a (by omega) k (by omega), eqIntS_self b (by omega) k (by omega), spec_IsPrefixLog.f, impl_IsPrefixLog.f, if_true]
  by_cases h3 : (a.length : Int) ≤ (b.length : Int)
  · have hl : (b.take ((a.length : Int)).toNat).length = a.length := by rw [List.length_take]; omega
    simp only [if_pos h3, if_pos (show (0 : Int) ≤ (a.length : Int) by omega), eq1 a _ (by omega) hl.symm k (by omega), eq2 a _ (by omega) hl.symm k (by omega), Option.bind_some]
    simp
  · simp only [if_neg h3, Option.bind_some]
    simp
end Go.Proofs.Ytbhjkheedhlelaa.Pure
