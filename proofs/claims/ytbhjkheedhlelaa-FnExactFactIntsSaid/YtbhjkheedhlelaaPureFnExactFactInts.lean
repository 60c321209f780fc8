/- FnExactFactInts: the program's FactInts answers what the reference's answers, for every fact; and what it returns is new memory. Conditions: none. -/
import Derived.Test.YtbhjkheedhlelaaLib
import Derived.Test.YtbhjkheedhlelaaXFnExactFactIntsx1
namespace Go.Proofs.Ytbhjkheedhlelaa.Pure
open Go.RowKit Go.Proofs.Ytbhjkheedhlelaa.XFnExactFactInts Go.Proofs.YtbhjkheedhlelaaW.PrintWords
set_option linter.unusedVariables false
set_option linter.unusedSimpArgs false
open Go.Proofs.YtbhjkheedhlelaaLib
theorem eqIntS_self (l : List Int) (hl : l.length ≤ 1099511627776) (k : Nat) (hk : l.length < k) : laws_eqIntS.f k l l = some true := by
  unfold laws_eqIntS.f
  rw [if_pos rfl]
  refine run (fun k (_ : Unit) i => laws_eqIntS.l0 k l l i) (fun _ => ()) l.length 0 true ?_ ?_ k (by omega)
  · intro k i _ hi
    simp only [laws_eqIntS.l0]
    rw [if_pos (by omega), if_pos (by omega), if_pos (by omega), if_pos trivial, wrap_succ hi hl]
  · intro k _
    simp only [laws_eqIntS.l0]
    rw [if_neg (by omega)]
def markedInt (a : Int) (n : Nat) : List Int := (List.range n).map (fun i : Nat => (a + (i : Int)))
theorem markInt (l : List Int) (hl : l.length ≤ 1099511627776) (a : Int) (ha : 0 ≤ a) (ha2 : a ≤ 1099511627776) (k : Nat) (hk : l.length < k) : laws_markIntS.f k l a = some (a + (l.length : Int), markedInt a l.length) := by
  unfold laws_markIntS.f
  have h := run (fun k (s : List Int × Int) i => laws_markIntS.l0 k s.1 s.2 i) (fun i => (put (fun i : Nat => (a + (i : Int))) l i, (a + (i : Int)))) l.length 0 (a + (l.length : Int), markedInt a l.length) ?_ ?_ k (by omega)
  · simpa [put_zero] using h
  · intro k i _ hi
    have hlen : (put (fun i : Nat => (a + (i : Int))) l i).length = l.length := put_length _ _ _ (by omega)
    have hlt : i < (put (fun i : Nat => (a + (i : Int))) l i).length := by omega
    have w0 : wrap64 ((a + (i : Int)) + 1) = (a + (i : Int)) + 1 := wrap_in (by omega) (by omega)
    have wn : (a + (i : Int)) + 1 = a + ((i + 1 : Nat) : Int) := by omega
    simp only [laws_markIntS.l0, Option.bind_some, Int.toNat_natCast]
    rw [if_pos (by omega), if_pos (by omega), wrap_succ hi hl]
    simp only [w0]
    rw [wn, put_set (fun i : Nat => (a + (i : Int))) l i (by omega)]
  · intro k _
    simp only [laws_markIntS.l0]
    rw [if_neg (by rw [put_length _ _ _ (Nat.le_refl _)]; omega), put_all _ _ rfl]
    rfl
theorem heldInt (n : Nat) (hl : n ≤ 1099511627776) (a : Int) (ha : 0 ≤ a) (ha2 : a ≤ 1099511627776) (k : Nat) (hk : n < k) : laws_heldIntS.f k (markedInt a n) a = some (a + (n : Int)) := by
  have hn : (markedInt a n).length = n := by simp [markedInt]
  unfold laws_heldIntS.f
  have h := run (fun k s i => laws_heldIntS.l0 k (markedInt a n) s i) (fun i => (a + (i : Int))) n 0 (a + (n : Int)) ?_ ?_ k (by omega)
  · simpa using h
  · intro k i _ hi
    have hg : (markedInt a n).getD i 0 = (fun i : Nat => (a + (i : Int))) i := getD_map_range (fun i : Nat => (a + (i : Int))) n i hi 0
    have w0 : wrap64 ((a + (i : Int)) + 1) = (a + (i : Int)) + 1 := wrap_in (by omega) (by omega)
    have wn : (a + (i : Int)) + 1 = a + ((i + 1 : Nat) : Int) := by omega
    simp only [laws_heldIntS.l0, rd_nat, hg]
    simp only [w0, if_true]
    rw [if_pos (by omega), if_pos (by omega), wrap_succ hi hl, wn]
  · intro k _
    simp only [laws_heldIntS.l0]
    rw [if_neg (by omega)]
theorem FnExactFactInts : laws_FnExactFactInts.Pure := by
  intro a b c d e f _ _ _ _ _ _
  suffices h : ∀ k, 10 < k → laws_FnExactFactInts.f k a b c d e f = some true from ⟨11, h _ (by omega)⟩
  intro k hk
  have hl : [a, b, c, d, e, f].length = 6 := rfl
  have h1 := eqIntS_self [a, b, c, d, e, f] (by rw [hl]; omega) k (by rw [hl]; omega)
  have h2 := markInt [a, b, c, d, e, f] (by rw [hl]; omega) 1 (by omega) (by omega) k (by rw [hl]; omega)
  have h3 := heldInt 6 (by omega) 1 (by omega) (by omega) k (by omega)
  rw [hl] at h2
  simp only [laws_FnExactFactInts.f, laws_toFact.f, spec_FactInts.f, impl_FactInts.f, Option.bind_some, h1, h2, h3, if_true]
  rfl
end Go.Proofs.Ytbhjkheedhlelaa.Pure
