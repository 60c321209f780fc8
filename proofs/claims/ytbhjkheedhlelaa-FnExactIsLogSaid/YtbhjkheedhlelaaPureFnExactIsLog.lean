/- FnExactIsLog: the program's IsLog answers what the reference's answers, for all lists. Conditions: none. -/
import Derived.Test.YtbhjkheedhlelaaLib
import Derived.Test.YtbhjkheedhlelaaXFnExactIsLogx1
namespace Go.Proofs.Ytbhjkheedhlelaa.Pure
open Go.RowKit Go.Proofs.Ytbhjkheedhlelaa.XFnExactIsLog Go.Proofs.YtbhjkheedhlelaaW.PrintWords
set_option linter.unusedVariables false
set_option linter.unusedSimpArgs false
open Go.Proofs.YtbhjkheedhlelaaLib
theorem in1 (x y z : Int) : spec_l1In.f x y z = some (decide (y ≤ x ∧ x ≤ z)) := by
  unfold spec_l1In.f
  by_cases h : x ≥ y
  · rw [if_pos h]; simp [show y ≤ x from h]
  · rw [if_neg h]; simp; omega
theorem toIntS (l : List Int) (hl : l.length ≤ 1099511627776) (k : Nat) (hk : l.length < k) : laws_toIntS.f k l = some l := by
  unfold laws_toIntS.f
  rw [if_pos (by omega), if_pos (by omega), Int.toNat_natCast]
  refine (run (fun k s i => laws_toIntS.l0 k l s i) (put (fun i => l.getD i 0) (List.replicate l.length 0)) l.length 0 l ?_ ?_ k (by omega))
  · intro k i _ hi
    have hlen : (put (fun i => l.getD i 0) (List.replicate l.length 0) i).length = l.length := by rw [put_length _ _ _ (by simp; omega), List.length_replicate]
    simp only [laws_toIntS.l0]
    rw [if_pos (by omega), if_pos (by omega), if_pos (by omega), wrap_succ hi hl, rd_nat, Int.toNat_natCast, put_set (fun i => l.getD i 0) _ i (by simp; omega)]
  · intro k _
    simp only [laws_toIntS.l0]
    rw [if_neg (by omega), put_all _ _ (by simp), map_range_getD']
theorem eqIntS_self (l : List Int) (hl : l.length ≤ 1099511627776) (k : Nat) (hk : l.length < k) : laws_eqIntS.f k l l = some true := by
  unfold laws_eqIntS.f
  rw [if_pos rfl]
  refine run (fun k (_ : Unit) i => laws_eqIntS.l0 k l l i) (fun _ => ()) l.length 0 true ?_ ?_ k (by omega)
  · intro k i _ hi
    simp only [laws_eqIntS.l0]
    rw [if_pos (by omega), if_pos (by omega), if_pos (by omega), if_pos trivial, wrap_succ hi hl]
  · intro k _
    simp only [laws_eqIntS.l0]
    rw [if_neg (by omega)]
def isLog (l : List Int) : Bool := if (List.range l.length).all (fun i => decide (0 ≤ l.getD i 0 ∧ l.getD i 0 ≤ 99)) = true then decide ((l.length : Int) ≤ 8) else false
theorem numbers_idx (lo hi : Int) (l : List Int) : (!decide (0 ≤ impl_areNumbers.idx (impl_areNumbers.out lo hi) l)) = (List.range l.length).all (fun i => decide (lo ≤ l.getD i 0 ∧ l.getD i 0 ≤ hi)) := by
  unfold impl_areNumbers.idx
  cases hf : (List.range l.length).find? fun i => impl_areNumbers.out lo hi (l.getD i 0) with
  | none =>
    rw [List.find?_eq_none] at hf
    show (!decide (0 ≤ (-1 : Int))) = _
    rw [show (!decide (0 ≤ (-1 : Int))) = true from rfl, eq_comm, List.all_eq_true]
    intro i hi
    have := hf i hi
    unfold impl_areNumbers.out at this
    simpa using this
  | some i =>
    rw [List.find?_range_eq_some] at hf
    show (!decide (0 ≤ (i : Int))) = _
    rw [show (!decide (0 ≤ (i : Int))) = false by simp, eq_comm, ← Bool.not_eq_true, List.all_eq_true]
    intro h
    have h1 := h i hf.2.1
    have h2 := hf.1
    unfold impl_areNumbers.out at h2
    rw [h1] at h2
    cases h2
theorem isLog1 (l : List Int) (hl : l.length ≤ 1099511627776) (k : Nat) (hk : l.length < k) : spec_IsLog.f k l = some (isLog l) := by
  unfold spec_IsLog.f
  refine allLoop (fun k i => spec_IsLog.l0 k l i) l.length 0 (fun i => decide (0 ≤ l.getD i 0 ∧ l.getD i 0 ≤ 99)) false (decide ((l.length : Int) ≤ 8)) ?_ ?_ ?_ k (by omega)
  · intro k i _ hi hp
    simp only [spec_IsLog.l0, in1, rd_nat, Option.bind_some]
    rw [if_pos (by omega), if_pos (by omega), if_pos hp, wrap_succ hi hl]
  · intro k i _ hi hp
    simp only [spec_IsLog.l0, in1, rd_nat, Option.bind_some]
    rw [if_pos (by omega), if_pos (by omega), if_neg (by simpa using hp)]
  · intro k _
    simp only [spec_IsLog.l0]
    rw [if_neg (by omega)]
theorem isLog2 (l : List Int) : impl_IsLog.f l = some (isLog l) := by
  unfold impl_IsLog.f impl_areNumbers.f
  rw [numbers_idx]
  unfold isLog
  by_cases h : (l.length : Int) ≤ 8
  · rw [if_pos h, Option.bind_some, decide_eq_true h]
    cases (List.range l.length).all fun i => decide (0 ≤ l.getD i 0 ∧ l.getD i 0 ≤ 99) <;> rfl
  · rw [if_neg h, decide_eq_false h]
    cases (List.range l.length).all fun i => decide (0 ≤ l.getD i 0 ∧ l.getD i 0 ≤ 99) <;> rfl
theorem FnExactIsLog : laws_FnExactIsLog.Pure := by
  intro a ha
  suffices h : ∀ k, 1048590 < k → laws_FnExactIsLog.f k a = some true from ⟨1048591, h _ (by omega)⟩
  intro k hk
  unfold laws_FnExactIsLog.f
  by_cases h1 : (a.length : Int) > 1048576
  · rw [if_pos h1]
  rw [if_neg h1, toIntS a (by omega) k (by omega)]
  simp only [Option.bind_some, eqIntS_self a (by omega) k (by omega), isLog1 a (by omega) k (by omega), isLog2]
  simp
end Go.Proofs.Ytbhjkheedhlelaa.Pure
