/- FnExactRegisterOf: the program's RegisterOf answers what the reference's answers, for all logs. Conditions: none. -/
import Derived.Test.YtbhjkheedhlelaaLib
import Derived.Test.YtbhjkheedhlelaaXFnExactRegisterOfx2
namespace Go.Proofs.Ytbhjkheedhlelaa.Pure
open Go.RowKit Go.Proofs.Ytbhjkheedhlelaa.XFnExactRegisterOf Go.Proofs.YtbhjkheedhlelaaW.PrintWords
set_option linter.unusedVariables false
set_option linter.unusedSimpArgs false
open Go.Proofs.YtbhjkheedhlelaaLib
theorem in1 (x y z : Int) : spec_l1In.f x y z = some (decide (y ≤ x ∧ x ≤ z)) := by
  unfold spec_l1In.f
  by_cases h : x ≥ y
  · rw [if_pos h]; simp [show y ≤ x from h]
  · rw [if_neg h]; simp; omega
theorem in2 (x y z : Int) : impl_InRange.f x y z = some (decide (y ≤ x ∧ x ≤ z)) := by
  unfold impl_InRange.f
  by_cases h : y ≤ x
  · rw [if_pos h]; simp [h]
  · rw [if_neg h]; simp; omega
def md (v : Int) : Int := Int.tmod (wrap64 (Int.tmod v 2147483647 + 2147483647)) 2147483647
def hstep (d v : Int) : Int := Int.tmod (wrap64 ((wrap64 ((wrap64 (d * 1000003)) + md v)) + 13)) 2147483647
def hash (l : List Int) : Int := l.foldl hstep 11
theorem mod1 (v : Int) : spec_Mod.f v 2147483647 = some (md v) := by
  simp [spec_Mod.f, in1, md]
theorem mod2 (v : Int) : impl_Mod.f v 2147483647 = some (md v) := by
  simp [impl_Mod.f, in2, md]
theorem hash1 (l : List Int) (hl : l.length ≤ 1099511627776) (k : Nat) (hk : l.length < k) : spec_Hash.f k l = some (hash l) := by
  unfold spec_Hash.f
  refine run (fun k s i => spec_Hash.l0 k l s i) (fun i => (l.take i).foldl hstep 11) l.length 0 (hash l) ?_ ?_ k (by omega)
  · intro k i _ hi
    simp only [spec_Hash.l0]
    rw [if_pos (by omega), if_pos (by omega), mod1, Option.bind_some, wrap_succ hi hl, rd_nat, foldl_take hstep 11 l i hi 0]
    rfl
  · intro k _
    simp only [spec_Hash.l0]
    rw [if_neg (by omega), List.take_length]
    rfl
theorem hash2 (l : List Int) (hl : l.length ≤ 1099511627776) (k : Nat) (hk : l.length < k) : impl_Hash.f k l = some (hash l) := by
  unfold impl_Hash.f
  refine run (fun k s i => impl_Hash.l0 k s l (l.length : Int) i) (fun i => (l.take i).foldl hstep 11) l.length 0 (hash l) ?_ ?_ k (by omega)
  · intro k i _ hi
    simp only [impl_Hash.l0]
    rw [if_pos (by omega), if_pos (by omega), if_pos (by omega), mod2, Option.bind_some, wrap_succ hi hl, rd_nat, foldl_take hstep 11 l i hi 0]
    rfl
  · intro k _
    simp only [impl_Hash.l0]
    rw [if_neg (by omega), List.take_length]
    rfl
theorem toIntS (l : List Int) (hl : l.length ≤ 1099511627776) (k : Nat) (hk : l.length < k) : laws_toIntS.f k l = some l := by
  unfold laws_toIntS.f
  rw [if_pos (by omega), if_pos (by omega), Int.toNat_natCast]
  refine (run (fun k s i => laws_toIntS.l0 k l s i) (put (fun i => l.getD i 0) (List.replicate l.length 0)) l.length 0 l ?_ ?_ k (by omega))
  · intro k i _ hi
    have hlen : (put (fun i => l.getD i 0) (List.replicate l.length 0) i).length = l.length := by rw [put_length _ _ _ (by simp; omega), List.length_replicate]
    simp only [laws_toIntS.l0]
    rw [if_pos (by omega), if_pos (by omega), if_pos (by omega), wrap_succ hi hl, rd_nat, Int.toNat_natCast, put_set (fun i => l.getD i 0) _ i (by simp; omega)]
  · intro k _
    simp only [laws_toIntS.l0]
    rw [if_neg (by omega), put_all _ _ (by simp), map_range_getD']
theorem eqIntS_self (l : List Int) (hl : l.length ≤ 1099511627776) (k : Nat) (hk : l.length < k) : laws_eqIntS.f k l l = some true := by
  unfold laws_eqIntS.f
  rw [if_pos rfl]
  refine run (fun k (_ : Unit) i => laws_eqIntS.l0 k l l i) (fun _ => ()) l.length 0 true ?_ ?_ k (by omega)
  · intro k i _ hi
    simp only [laws_eqIntS.l0]
    rw [if_pos (by omega), if_pos (by omega), if_pos (by omega), if_pos trivial, wrap_succ hi hl]
  · intro k _
    simp only [laws_eqIntS.l0]
    rw [if_neg (by omega)]
def register (l : List Int) : Int := l.foldl (fun r m => hash [r, m]) 0
theorem extend1 (r m : Int) (k : Nat) (hk : 5 ≤ k) : spec_ExtendRegister.f k r m = some (hash [r, m]) := by
  simp only [spec_ExtendRegister.f, hash1 [r, m] (by simp) k (by simp; omega), Option.bind_some]
theorem extend2 (r m : Int) (k : Nat) (hk : 5 ≤ k) : impl_ExtendRegister.f k r m = some (hash [r, m]) := by
  simp only [impl_ExtendRegister.f, hash2 [r, m] (by simp) k (by simp; omega), Option.bind_some]
theorem register1 (l : List Int) (hl : l.length ≤ 1099511627776) (k : Nat) (hk : l.length + 5 < k) : spec_RegisterOf.f k l = some (register l) := by
  unfold spec_RegisterOf.f
  refine run (fun k s i => spec_RegisterOf.l0 k l s i) (fun i => (l.take i).foldl (fun r m => hash [r, m]) 0) l.length 5 (register l) ?_ ?_ k (by omega)
  · intro k i hB hi
    simp only [spec_RegisterOf.l0]
    rw [if_pos (by omega), if_pos (by omega), extend1 _ _ k hB, Option.bind_some, wrap_succ hi hl, rd_nat, foldl_take (fun r m => hash [r, m]) 0 l i hi 0]
  · intro k _
    simp only [spec_RegisterOf.l0]
    rw [if_neg (by omega), List.take_length]
    rfl
theorem register2 (l : List Int) (hl : l.length ≤ 1099511627776) (k : Nat) (hk : l.length + 5 < k) : impl_RegisterOf.f k l = some (register l) := by
  unfold impl_RegisterOf.f
  refine run (fun k s i => impl_RegisterOf.l0 k s l (l.length : Int) i) (fun i => (l.take i).foldl (fun r m => hash [r, m]) 0) l.length 5 (register l) ?_ ?_ k (by omega)
  · intro k i hB hi
    simp only [impl_RegisterOf.l0]
    rw [if_pos (by omega), if_pos (by omega), if_pos (by omega), extend2 _ _ k hB, Option.bind_some, wrap_succ hi hl, rd_nat, foldl_take (fun r m => hash [r, m]) 0 l i hi 0]
  · intro k _
    simp only [impl_RegisterOf.l0]
    rw [if_neg (by omega), List.take_length]
    rfl
theorem FnExactRegisterOf : laws_FnExactRegisterOf.Pure := by
  intro a ha
  suffices h : ∀ k, 1048590 < k → laws_FnExactRegisterOf.f k a = some true from ⟨1048591, h _ (by omega)⟩
  intro k hk
  unfold laws_FnExactRegisterOf.f
  by_cases h1 : (a.length : Int) > 1048576
  · rw [if_pos h1]
  rw [if_neg h1, toIntS a (by omega) k (by omega)]
  simp only [Option.bind_some, eqIntS_self a (by omega) k (by omega), register1 a (by omega) k (by omega), register2 a (by omega) k (by omega), if_true]
end Go.Proofs.Ytbhjkheedhlelaa.Pure
