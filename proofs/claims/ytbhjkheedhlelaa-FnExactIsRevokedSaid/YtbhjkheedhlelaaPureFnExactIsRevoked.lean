/- FnExactIsRevoked: the program's IsRevoked answers what the reference's answers, for all arguments. Conditions: none. -/
import Derived.Test.YtbhjkheedhlelaaLib
import Derived.Test.YtbhjkheedhlelaaXFnExactIsRevokedx2
namespace Go.Proofs.Ytbhjkheedhlelaa.Pure
open Go.RowKit Go.Proofs.Ytbhjkheedhlelaa.XFnExactIsRevoked Go.Proofs.YtbhjkheedhlelaaW.PrintWords
set_option linter.unusedVariables false
set_option linter.unusedSimpArgs false
open Go.Proofs.YtbhjkheedhlelaaLib
theorem in2 (x y z : Int) : impl_InRange.f x y z = some (decide (y ≤ x ∧ x ≤ z)) := by
  unfold impl_InRange.f
  by_cases h : y ≤ x
  · rw [if_pos h]; simp [h]
  · rw [if_neg h]; simp; omega
theorem rdT60 (l : List S60) (i : Nat) : rd_T60 l (i : Int) = l.getD i z60 := by
  unfold rd_T60
  rw [Int.toNat_natCast]
theorem rdT58 (l : List S58) (i : Nat) : rd_T58 l (i : Int) = l.getD i z58 := by
  unfold rd_T58
  rw [Int.toNat_natCast]
theorem szRevoked (l : List S60) (a : Int) (h0 : 0 ≤ a) (h1 : a ≤ 1048576) (hl : l.length ≤ maxLen) : laws_szRevokedS.f l a = some (if (l.length : Int) ≤ a then a - (l.length : Int) else -1) := by
  unfold maxLen at hl
  unfold laws_szRevokedS.f
  rw [wrap_in (by omega) (by omega)]
  by_cases h : (l.length : Int) ≤ a
  · rw [if_pos h, if_neg (by omega)]
  · rw [if_neg h, if_pos (by omega)]
def cvRevoked (x : S60) : S58 := ⟨x.f0, x.f1⟩
theorem toRevoked (l : List S60) (hl : l.length ≤ 1048576) (k : Nat) (hk : l.length < k) : laws_toRevokedS.f k l = some (l.map cvRevoked) := by
  unfold laws_toRevokedS.f
  rw [if_pos (by omega), if_pos (by omega), Int.toNat_natCast]
  refine (run (fun k s i => laws_toRevokedS.l0 k l s i) (put (fun i => (⟨(l.getD i z60).f0, (l.getD i z60).f1⟩ : S58)) (List.replicate l.length z58)) l.length 0 (l.map cvRevoked) ?_ ?_ k (by omega))
  · intro k i _ hi
    have hlen : (put (fun i => (⟨(l.getD i z60).f0, (l.getD i z60).f1⟩ : S58)) (List.replicate l.length z58) i).length = l.length := by rw [put_length _ _ _ (by simp; omega), List.length_replicate]
    simp only [laws_toRevokedS.l0, laws_toRevoked.f, Option.bind_some, rdT60]
    rw [if_pos (by omega), if_pos (by omega), if_pos (by omega), wrap_succ hi (by omega), Int.toNat_natCast, put_set (fun i => (⟨(l.getD i z60).f0, (l.getD i z60).f1⟩ : S58)) _ i (by simp; omega)]
  · intro k _
    simp only [laws_toRevokedS.l0]
    rw [if_neg (by omega), put_all _ _ (by simp), map_range_getD l z60 (fun x => (⟨x.f0, x.f1⟩ : S58))]
    rfl
theorem eqRevoked_self (l : List S58) (hl : l.length ≤ 1099511627776) (k : Nat) (hk : l.length < k) : laws_eqRevokedS.f k l l = some true := by
  unfold laws_eqRevokedS.f
  rw [if_pos rfl]
  refine run (fun k (_ : Unit) i => laws_eqRevokedS.l0 k l l i) (fun _ => ()) l.length 0 true ?_ ?_ k (by omega)
  · intro k i _ hi
    simp only [laws_eqRevokedS.l0, laws_eqRevoked.f, Option.bind_some, if_true]
    rw [if_pos (by omega), if_pos (by omega), if_pos (by omega), wrap_succ hi hl]
  · intro k _
    simp only [laws_eqRevokedS.l0]
    rw [if_neg (by omega)]
def revokedAt (l : List S58) (s : Int) : Int := ((List.range l.length).find? fun i => (l.getD i z58).f0 == s).elim (-1) fun i => (l.getD i z58).f1
theorem revokedAt1 (l : List S58) (s : Int) (hl : l.length ≤ 1099511627776) (k : Nat) (hk : l.length < k) : spec_RevokedAt.f k l s = some (revokedAt l s) := by
  unfold spec_RevokedAt.f
  refine findLoop (fun k i => spec_RevokedAt.l0 k l s i) l.length 0 (fun i => (l.getD i z58).f0 == s) (fun i => (l.getD i z58).f1) (-1) ?_ ?_ ?_ k (by omega)
  · intro k i _ hi hp
    simp only [spec_RevokedAt.l0, rdT58]
    rw [if_pos (by omega), if_pos (by omega), if_neg (by simpa using hp), wrap_succ hi hl]
  · intro k i _ hi hp
    simp only [spec_RevokedAt.l0, rdT58]
    rw [if_pos (by omega), if_pos (by omega), if_pos (by simpa using hp)]
  · intro k _
    simp only [spec_RevokedAt.l0]
    rw [if_neg (by omega)]
theorem revokedAt2 (l : List S58) (s : Int) : impl_RevokedAt.f l s = some (revokedAt l s) := by
  unfold impl_RevokedAt.f impl_RevokedAt.idx revokedAt
  rw [show impl_RevokedAt.out s = fun x => x.f0 == s from rfl]
  cases (List.range l.length).find? fun i => (l.getD i z58).f0 == s with
  | none => rfl
  | some i =>
    show some (if (i : Int) < 0 then -1 else (rd_T58 l (i : Int)).f1) = some (l.getD i z58).f1
    rw [if_neg (by omega), rdT58]
theorem FnExactIsRevoked : laws_FnExactIsRevoked.Pure := by
  intro l s t hw _ _
  suffices h : ∀ k, 1048577 < k → laws_FnExactIsRevoked.f k l s t = some true from ⟨1048578, h _ (by omega)⟩
  intro k hk
  unfold laws_FnExactIsRevoked.f
  rw [szRevoked l 1048576 (by omega) (by omega) hw.1]
  simp only [Option.bind_some]
  by_cases h : (l.length : Int) ≤ 1048576
  · rw [if_pos h, if_neg (by omega), toRevoked l (by omega) k (by omega)]
    have hl : (l.map cvRevoked).length = l.length := List.length_map ..
    simp only [Option.bind_some, spec_IsRevoked.f, impl_IsRevoked.f, in2, revokedAt1 (l.map cvRevoked) s (by omega) k (by omega), revokedAt2, eqRevoked_self (l.map cvRevoked) (by omega) k (by omega)]
    generalize revokedAt (l.map cvRevoked) s = r
    by_cases hr : r ≥ 0
    · simp [if_pos hr, show (0 : Int) ≤ r from hr]
    · simp [if_neg hr, show ¬ (0 : Int) ≤ r from hr]
  · rw [if_neg h, if_pos (by omega)]
end Go.Proofs.Ytbhjkheedhlelaa.Pure
