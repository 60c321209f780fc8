/- FnExactIssueCert: the program's IssueCert answers what the reference's answers, for all arguments. Conditions: none. -/
import Derived.Test.YtabpgiebhgkfhaaLib
import Derived.Test.YtabpgiebhgkfhaaXFnExactIssueCertx2
namespace Go.Proofs.Ytabpgiebhgkfhaa.Pure
open Go.RowKit Go.Proofs.Ytabpgiebhgkfhaa.XFnExactIssueCert Go.Proofs.YtabpgiebhgkfhaaW.PrintWords
set_option linter.unusedVariables false
set_option linter.unusedSimpArgs false
open Go.Proofs.YtabpgiebhgkfhaaLib
theorem in1 (x y z : Int) : spec_l1In.f x y z = some (decide (y ≤ x ∧ x ≤ z)) := by
  unfold spec_l1In.f
  by_cases h : x ≥ y
  · rw [if_pos h]; simp [show y ≤ x from h]
  · rw [if_neg h]; simp; omega
theorem in2 (x y z : Int) : impl_InRange.f x y z = some (decide (y ≤ x ∧ x ≤ z)) := by
  unfold impl_InRange.f
  by_cases h : y ≤ x
  · rw [if_pos h]; simp [h]
  · rw [if_neg h]; simp; omega
def md (v : Int) : Int := Int.tmod (wrap64 (Int.tmod v 2147483647 + 2147483647)) 2147483647
def hstep (d v : Int) : Int := Int.tmod (wrap64 ((wrap64 ((wrap64 (d * 1000003)) + md v)) + 13)) 2147483647
def hash (l : List Int) : Int := l.foldl hstep 11
theorem mod1 (v : Int) : spec_Mod.f v 2147483647 = some (md v) := by
  simp [spec_Mod.f, in1, md]
theorem mod2 (v : Int) : impl_Mod.f v 2147483647 = some (md v) := by
  simp [impl_Mod.f, in2, md]
theorem hash1 (l : List Int) (hl : l.length ≤ 1099511627776) (k : Nat) (hk : l.length < k) : spec_Hash.f k l = some (hash l) := by
  unfold spec_Hash.f
  refine run (fun k s i => spec_Hash.l0 k l s i) (fun i => (l.take i).foldl hstep 11) l.length 0 (hash l) ?_ ?_ k (by omega)
  · intro k i _ hi
    simp only [spec_Hash.l0]
    rw [if_pos (by omega), if_pos (by omega), mod1, Option.bind_some, wrap_succ hi hl, rd_nat, foldl_take hstep 11 l i hi 0]
    rfl
  · intro k _
    simp only [spec_Hash.l0]
    rw [if_neg (by omega), List.take_length]
    rfl
theorem hash2 (l : List Int) (hl : l.length ≤ 1099511627776) (k : Nat) (hk : l.length < k) : impl_Hash.f k l = some (hash l) := by
  unfold impl_Hash.f
  refine run (fun k s i => impl_Hash.l0 k s l (l.length : Int) i) (fun i => (l.take i).foldl hstep 11) l.length 0 (hash l) ?_ ?_ k (by omega)
  · intro k i _ hi
    simp only [impl_Hash.l0]
    rw [if_pos (by omega), if_pos (by omega), if_pos (by omega), mod2, Option.bind_some, wrap_succ hi hl, rd_nat, foldl_take hstep 11 l i hi 0]
    rfl
  · intro k _
    simp only [impl_Hash.l0]
    rw [if_neg (by omega), List.take_length]
    rfl
theorem rdL (L : List (List Int)) (i : Nat) : rd_L1 L (i : Int) = L.getD i [] := by
  unfold rd_L1
  rw [Int.toNat_natCast]
theorem grow0 (n : Nat) (h : n ≤ 1099511627776) : slices_Grow_int_int.f [] (n : Int) = some [] := by
  unfold slices_Grow_int_int.f
  rw [if_pos ⟨rfl, by omega, by omega⟩]
theorem concat (L : List (List Int)) (hl : L.length ≤ 1048576) (ht : L.flatten.length ≤ 1099511627776) (k : Nat) (hk : 2 * L.length + 2 < k) : slices_Concat_int_int.f k L = some L.flatten := by
  unfold slices_Concat_int_int.f
  refine run (fun k s i => slices_Concat_int_int.l0 k L s L (L.length : Int) i) (fun i => ((L.take i).flatten.length : Int)) L.length (L.length + 1) L.flatten ?_ ?_ k (by omega)
  · intro k i _ hi
    have h1 := flatten_take L i hi
    have h2 := flatten_take_le L (i + 1)
    have h3 : ((L.take (i + 1)).flatten.length : Int) = ((L.take i).flatten.length : Int) + ((L.getD i []).length : Int) := by rw [h1, List.length_append]; omega
    have hw : wrap64 (((L.take i).flatten.length : Int) + ((L.getD i []).length : Int)) = ((L.take (i + 1)).flatten.length : Int) := by rw [h3]; exact wrap_in (by omega) (by omega)
    simp only [slices_Concat_int_int.l0, rdL]
    rw [if_pos (by omega), if_pos (by omega), if_pos (by omega), hw, if_neg (by omega), wrap_succ hi (by omega)]
  · intro k hk
    simp only [slices_Concat_int_int.l0]
    rw [if_neg (by omega), List.take_length, grow0 _ ht, Option.bind_some]
    refine run (fun k s i => slices_Concat_int_int.l1 k s L (L.length : Int) i) (fun i => (L.take i).flatten) L.length 0 L.flatten ?_ ?_ k (by omega)
    · intro k i _ hi
      have h1 := flatten_take L i hi
      have h2 := flatten_take_le L (i + 1)
      rw [h1, List.length_append] at h2
      simp only [slices_Concat_int_int.l1, rdL]
      rw [if_pos (by omega), if_pos (by omega), if_pos (by omega), if_pos (by omega), ← h1, wrap_succ hi (by omega)]
    · intro k _
      simp only [slices_Concat_int_int.l1]
      rw [if_neg (by omega), List.take_length]
def keyed (a : Int) (l : List Int) : Int := hash ([a] ++ l ++ [a])
theorem keyed1 (a : Int) (l : List Int) (hl : l.length ≤ 1048576) (k : Nat) (hk : l.length + 5 < k) : spec_KeyedHash.f k a l = some (keyed a l) := by
  unfold spec_KeyedHash.f
  rw [Option.bind_some, if_pos (by simp; omega), Option.bind_some, if_pos (by simp; omega), hash1 _ (by simp; omega) k (by simp; omega)]
  rfl
theorem keyed2 (a : Int) (l : List Int) (hl : l.length ≤ 1048576) (k : Nat) (hk : l.length + 20 < k) : impl_KeyedHash.f k a l = some (keyed a l) := by
  unfold impl_KeyedHash.f
  have hf : [[a], l, [a]].flatten = [a] ++ l ++ [a] := by simp
  rw [concat [[a], l, [a]] (by simp) (by rw [hf]; simp; omega) k (by simp; omega), Option.bind_some, hf, hash2 _ (by simp; omega) k (by simp; omega)]
  rfl
def timeOk (t : Int) : Bool := decide (0 ≤ t ∧ t ≤ 10000)
theorem time1 (t : Int) : spec_IsTime.f t = some (timeOk t) := by
  simp only [spec_IsTime.f, in1, Option.bind_some]
  rfl
theorem time2 (t : Int) : impl_IsTime.f t = some (timeOk t) := by
  simp only [impl_IsTime.f, in2, Option.bind_some]
  rfl
def isCert (a b c d e : Int) : Bool := decide (1 ≤ a ∧ a ≤ 9999) && (decide (10 ≤ b ∧ b ≤ 49) && (decide (1 ≤ c ∧ c ≤ 2147483646) && (timeOk d && (timeOk e && decide (0 ≤ e - d ∧ e - d ≤ 50)))))
theorem cert1 (a b c d e f : Int) : spec_IsCert.f a b c d e f = some (isCert a b c d e) := by
  simp only [spec_IsCert.f, spec_IsName.f, spec_IsValidKey.f, time1, in1, Option.bind_some]
  unfold isCert
  cases decide (1 ≤ a ∧ a ≤ 9999)
  · rfl
  cases decide (10 ≤ b ∧ b ≤ 49)
  · rfl
  cases decide (1 ≤ c ∧ c ≤ 2147483646)
  · rfl
  by_cases h1 : timeOk d = true
  · by_cases h2 : timeOk e = true
    · have g1 := of_decide_eq_true (show decide (0 ≤ d ∧ d ≤ 10000) = true from h1)
      have g2 := of_decide_eq_true (show decide (0 ≤ e ∧ e ≤ 10000) = true from h2)
      rw [wrap_in (by omega) (by omega), h1, h2]
      simp only [if_true, Bool.true_and]
      by_cases h : d ≤ e
      · rw [if_pos h]; congr 1; rw [decide_eq_decide]; omega
      · rw [if_neg h, decide_eq_false (by omega)]
    · rw [h1, Bool.eq_false_iff.2 h2]; rfl
  · rw [Bool.eq_false_iff.2 h1]; rfl
theorem cert2 (a b c d e f : Int) : impl_IsCert.f a b c d e f = some (isCert a b c d e) := by
  simp only [impl_IsCert.f, impl_IsName.f, impl_IsValidKey.f, time2, in2, Option.bind_some, ite_and]
  unfold isCert
  by_cases h1 : timeOk d = true
  · by_cases h2 : timeOk e = true
    · have g1 := of_decide_eq_true (show decide (0 ≤ d ∧ d ≤ 10000) = true from h1)
      have g2 := of_decide_eq_true (show decide (0 ≤ e ∧ e ≤ 10000) = true from h2)
      rw [wrap_in (by omega) (by omega)]
    · rw [Bool.eq_false_iff.2 h2]; simp
  · rw [Bool.eq_false_iff.2 h1]; simp
def markOf (s a b c d e : Int) : Int := keyed s [a, b, c, d, e]
theorem mark1 (s a b c d e f : Int) (k : Nat) (hk : 40 < k) : spec_MarkCert.f k s a b c d e f = some (a, b, c, d, e, markOf s a b c d e) := by
  simp only [spec_MarkCert.f, keyed1 s [a, b, c, d, e] (by simp) k (by simp; omega), Option.bind_some]
  rfl
theorem mark2 (s a b c d e f : Int) (k : Nat) (hk : 40 < k) : impl_MarkCert.f k s a b c d e f = some (a, b, c, d, e, markOf s a b c d e) := by
  simp only [impl_MarkCert.f, keyed2 s [a, b, c, d, e] (by simp) k (by simp; omega), Option.bind_some]
  rfl
def endOf (a s : Int) : Int := if timeOk a = true then (if timeOk s = true then (if a + s < 10000 then a + s else 10000) else 0) else 0
theorem endOf1 (a s : Int) : spec_EndOf.f a s = some (endOf a s) := by
  simp only [spec_EndOf.f, time1, Option.bind_some]
  unfold endOf
  by_cases h1 : timeOk a = true
  · rw [if_pos h1, if_pos h1]
    by_cases h2 : timeOk s = true
    · rw [if_pos h2, if_pos h2]
      unfold timeOk at h1 h2
      have g1 := of_decide_eq_true h1
      have g2 := of_decide_eq_true h2
      rw [wrap_in (by omega) (by omega)]
      unfold spec_Min.f
      by_cases h : a + s < 10000
      · rw [if_pos h, if_pos h]; rfl
      · rw [if_neg h, if_neg h]; rfl
    · rw [if_neg h2, if_neg h2]
  · rw [if_neg h1, if_neg h1]
theorem endOf2 (a s : Int) : impl_EndOf.f a s = some (endOf a s) := by
  simp only [impl_EndOf.f, time2, in2, Option.bind_some]
  unfold endOf
  by_cases h1 : timeOk a = true
  · rw [if_pos h1, if_pos h1]
    by_cases h2 : timeOk s = true
    · rw [if_pos h2, if_pos (by unfold timeOk at h2; exact h2)]
      unfold timeOk at h1 h2
      have g1 := of_decide_eq_true h1
      have g2 := of_decide_eq_true h2
      rw [wrap_in (by omega) (by omega)]
      unfold mn
      by_cases h : a + s < 10000
      · rw [if_neg (by omega), if_pos h]
      · rw [if_neg h]
        split
        · rfl
        · congr 1; omega
    · rw [if_neg h2, if_neg (by unfold timeOk at h2; exact h2)]
  · rw [if_neg h1, if_neg h1]
theorem FnExactIssueCert : laws_FnExactIssueCert.Pure := by
  intro s a b c d e _ _ _ _ _ _
  refine ⟨50, ?_⟩
  simp only [laws_FnExactIssueCert.f, spec_IssueCert.f, impl_IssueCert.f, endOf1, endOf2, mark1 s a b c d (endOf d e) 0 50 (by omega), mark2 s a b c d (endOf d e) 0 50 (by omega), cert1, cert2, spec_IsValidKey.f, impl_IsValidKey.f, in1, in2, Option.bind_some]
  cases decide (1 ≤ s ∧ s ≤ 2147483646)
  · simp [laws_eqCert.f]
  cases isCert a b c d (endOf d e)
  · by_cases h : e < 0 <;> simp [h, laws_eqCert.f]
  · by_cases h : e < 0 <;> simp [h, laws_eqCert.f]
end Go.Proofs.Ytabpgiebhgkfhaa.Pure
