/- FnMeasurements: what is said of quotes and logs holds for all bytes. Conditions: none. -/
import Derived.Test.YtlmhemcpkmjkiaaLib
import Derived.Test.YtlmhemcpkmjkiaaXFnMeasurementsx5
namespace Go.Proofs.Ytlmhemcpkmjkiaa.Pure
open Go.RowKit Go.Proofs.Ytlmhemcpkmjkiaa.XFnMeasurements Go.Proofs.YtlmhemcpkmjkiaaW.PrintWords
set_option linter.unusedVariables false
set_option linter.unusedSimpArgs false
open Go.Proofs.YtlmhemcpkmjkiaaLib
theorem in2 (x y z : Int) : impl_InRange.f x y z = some (decide (y ≤ x ∧ x ≤ z)) := by
  unfold impl_InRange.f
  by_cases h : y ≤ x
  · rw [if_pos h]; simp [h]
  · rw [if_neg h]; simp; omega
def md (v : Int) : Int := Int.tmod (wrap64 (Int.tmod v 2147483647 + 2147483647)) 2147483647
def hstep (d v : Int) : Int := Int.tmod (wrap64 ((wrap64 ((wrap64 (d * 1000003)) + md v)) + 13)) 2147483647
def hash (l : List Int) : Int := l.foldl hstep 11
theorem mod2 (v : Int) : impl_Mod.f v 2147483647 = some (md v) := by
  simp [impl_Mod.f, in2, md]
theorem hash2 (l : List Int) (hl : l.length ≤ 1099511627776) (k : Nat) (hk : l.length < k) : impl_Hash.f k l = some (hash l) := by
  unfold impl_Hash.f
  refine run (fun k s i => impl_Hash.l0 k s l (l.length : Int) i) (fun i => (l.take i).foldl hstep 11) l.length 0 (hash l) ?_ ?_ k (by omega)
  · intro k i _ hi
    simp only [impl_Hash.l0]
    rw [if_pos (by omega), if_pos (by omega), if_pos (by omega), mod2, Option.bind_some, wrap_succ hi hl, rd_nat, foldl_take hstep 11 l i hi 0]
    rfl
  · intro k _
    simp only [impl_Hash.l0]
    rw [if_neg (by omega), List.take_length]
    rfl
def register (l : List Int) : Int := l.foldl (fun r m => hash [r, m]) 0
theorem extend2 (r m : Int) (k : Nat) (hk : 5 ≤ k) : impl_ExtendRegister.f k r m = some (hash [r, m]) := by
  simp only [impl_ExtendRegister.f, hash2 [r, m] (by simp) k (by simp; omega), Option.bind_some]
theorem register2 (l : List Int) (hl : l.length ≤ 1099511627776) (k : Nat) (hk : l.length + 5 < k) : impl_RegisterOf.f k l = some (register l) := by
  unfold impl_RegisterOf.f
  refine run (fun k s i => impl_RegisterOf.l0 k s l (l.length : Int) i) (fun i => (l.take i).foldl (fun r m => hash [r, m]) 0) l.length 5 (register l) ?_ ?_ k (by omega)
  · intro k i hB hi
    simp only [impl_RegisterOf.l0]
    rw [if_pos (by omega), if_pos (by omega), if_pos (by omega), extend2 _ _ k hB, Option.bind_some, wrap_succ hi hl, rd_nat, foldl_take (fun r m => hash [r, m]) 0 l i hi 0]
  · intro k _
    simp only [impl_RegisterOf.l0]
    rw [if_neg (by omega), List.take_length]
    rfl
theorem rdL (L : List (List Int)) (i : Nat) : rd_L1 L (i : Int) = L.getD i [] := by
  unfold rd_L1
  rw [Int.toNat_natCast]
theorem grow0 (n : Nat) (h : n ≤ 1099511627776) : slices_Grow_int_int.f [] (n : Int) = some [] := by
  unfold slices_Grow_int_int.f
  rw [if_pos ⟨rfl, by omega, by omega⟩]
theorem concat (L : List (List Int)) (hl : L.length ≤ 1048576) (ht : L.flatten.length ≤ 1099511627776) (k : Nat) (hk : 2 * L.length + 2 < k) : slices_Concat_int_int.f k L = some L.flatten := by
  unfold slices_Concat_int_int.f
  refine run (fun k s i => slices_Concat_int_int.l0 k L s L (L.length : Int) i) (fun i => ((L.take i).flatten.length : Int)) L.length (L.length + 1) L.flatten ?_ ?_ k (by omega)
  · intro k i _ hi
    have h1 := flatten_take L i hi
    have h2 := flatten_take_le L (i + 1)
    have h3 : ((L.take (i + 1)).flatten.length : Int) = ((L.take i).flatten.length : Int) + ((L.getD i []).length : Int) := by rw [h1, List.length_append]; omega
    have hw : wrap64 (((L.take i).flatten.length : Int) + ((L.getD i []).length : Int)) = ((L.take (i + 1)).flatten.length : Int) := by rw [h3]; exact wrap_in (by omega) (by omega)
    simp only [slices_Concat_int_int.l0, rdL]
    rw [if_pos (by omega), if_pos (by omega), if_pos (by omega), hw, if_neg (by omega), wrap_succ hi (by omega)]
  · intro k hk
    simp only [slices_Concat_int_int.l0]
    rw [if_neg (by omega), List.take_length, grow0 _ ht, Option.bind_some]
    refine run (fun k s i => slices_Concat_int_int.l1 k s L (L.length : Int) i) (fun i => (L.take i).flatten) L.length 0 L.flatten ?_ ?_ k (by omega)
    · intro k i _ hi
      have h1 := flatten_take L i hi
      have h2 := flatten_take_le L (i + 1)
      rw [h1, List.length_append] at h2
      simp only [slices_Concat_int_int.l1, rdL]
      rw [if_pos (by omega), if_pos (by omega), if_pos (by omega), if_pos (by omega), ← h1, wrap_succ hi (by omega)]
    · intro k _
      simp only [slices_Concat_int_int.l1]
      rw [if_neg (by omega), List.take_length]
def keyed (a : Int) (l : List Int) : Int := hash ([a] ++ l ++ [a])
theorem keyed2 (a : Int) (l : List Int) (hl : l.length ≤ 1048576) (k : Nat) (hk : l.length + 20 < k) : impl_KeyedHash.f k a l = some (keyed a l) := by
  unfold impl_KeyedHash.f
  have hf : [[a], l, [a]].flatten = [a] ++ l ++ [a] := by simp
  rw [concat [[a], l, [a]] (by simp) (by rw [hf]; simp; omega) k (by simp; omega), Option.bind_some, hf, hash2 _ (by simp; omega) k (by simp; omega)]
  rfl
def isLog (l : List Int) : Bool := if (List.range l.length).all (fun i => decide (0 ≤ l.getD i 0 ∧ l.getD i 0 ≤ 99)) = true then decide ((l.length : Int) ≤ 8) else false
theorem numbers_idx (lo hi : Int) (l : List Int) : (!decide (0 ≤ impl_areNumbers.idx (impl_areNumbers.out lo hi) l)) = (List.range l.length).all (fun i => decide (lo ≤ l.getD i 0 ∧ l.getD i 0 ≤ hi)) := by
  unfold impl_areNumbers.idx
  cases hf : (List.range l.length).find? fun i => impl_areNumbers.out lo hi (l.getD i 0) with
  | none =>
    rw [List.find?_eq_none] at hf
    show (!decide (0 ≤ (-1 : Int))) = _
    rw [show (!decide (0 ≤ (-1 : Int))) = true from rfl, eq_comm, List.all_eq_true]
    intro i hi
    have := hf i hi
    unfold impl_areNumbers.out at this
    simpa using this
  | some i =>
    rw [List.find?_range_eq_some] at hf
    show (!decide (0 ≤ (i : Int))) = _
    rw [show (!decide (0 ≤ (i : Int))) = false by simp, eq_comm, ← Bool.not_eq_true, List.all_eq_true]
    intro h
    have h1 := h i hf.2.1
    have h2 := hf.1
    unfold impl_areNumbers.out at h2
    rw [h1] at h2
    cases h2
theorem isLog2 (l : List Int) : impl_IsLog.f l = some (isLog l) := by
  unfold impl_IsLog.f impl_areNumbers.f
  rw [numbers_idx]
  unfold isLog
  by_cases h : (l.length : Int) ≤ 8
  · rw [if_pos h, Option.bind_some, decide_eq_true h]
    cases (List.range l.length).all fun i => decide (0 ≤ l.getD i 0 ∧ l.getD i 0 ≤ 99) <;> rfl
  · rw [if_neg h, decide_eq_false h]
    cases (List.range l.length).all fun i => decide (0 ≤ l.getD i 0 ∧ l.getD i 0 ≤ 99) <;> rfl
def timeOk (t : Int) : Bool := decide (0 ≤ t ∧ t ≤ 10000)
theorem time2 (t : Int) : impl_IsTime.f t = some (timeOk t) := by
  simp only [impl_IsTime.f, in2, Option.bind_some]
  rfl
def kindOk (m : Int) : Bool := decide (10 ≤ m ∧ m ≤ 49) && (wrap64 (Int.tdiv m 10) == 2)
theorem qkind2 (m : Int) : impl_HasKind.f m 2 = some (kindOk m) := by
  simp only [impl_HasKind.f, impl_KindOf.f, impl_IsName.f, in2, Option.bind_some]
  unfold kindOk
  by_cases h : 10 ≤ m ∧ m ≤ 49
  · simp only [decide_eq_true h, if_true, Option.bind_some, Bool.true_and]
  · simp only [decide_eq_false h, Bool.false_and]
    rfl
def quoteOk (s m : Int) (l : List Int) (t : Int) : Bool := decide (1 ≤ s ∧ s ≤ 2147483646) && (kindOk m && (isLog l && timeOk t))
def quote (s m : Int) (l : List Int) (n t : Int) : Int × Int × Int × Int × Int × Bool := if quoteOk s m l t = true then (m, register l, n, t, keyed s [m, register l, n, t], true) else (0, 0, 0, 0, 0, false)
theorem quote2 (s m : Int) (l : List Int) (n t : Int) (hl : l.length ≤ 1048576) (k : Nat) (hk : 4194304 < k) : impl_MakeQuote.f k s m l n t = some (quote s m l n t) := by
  obtain ⟨k, rfl⟩ : ∃ j, k = j + 1 := ⟨k - 1, by omega⟩
  simp only [impl_MakeQuote.f, impl_IsValidKey.f, in2, qkind2, time2, isLog2, impl_MakeQuote.j0, register2 l (by omega) k (by omega), keyed2 s [m, register l, n, t] (by simp) k (by simp; omega), Option.bind_some]
  unfold quote quoteOk
  cases decide (1 ≤ s ∧ s ≤ 2147483646)
  · rfl
  cases kindOk m
  · rfl
  cases isLog l
  · rfl
  cases timeOk t <;> rfl
def ageOf (a b : Int) : Int := if timeOk a = true then if timeOk b = true then if a > b then -1 else wrap64 (b - a) else -1 else -1
theorem age2 (a b : Int) : impl_AgeOf.f a b = some (ageOf a b) := by
  simp only [impl_AgeOf.f, time2, Option.bind_some]
  unfold ageOf
  split
  · split
    · split <;> rfl
    · rfl
  · rfl
theorem age_cases (a b : Int) : ageOf a b = -1 ∨ 0 ≤ ageOf a b := by
  unfold ageOf
  split
  · rename_i h1
    split
    · rename_i h2
      split
      · exact .inl rfl
      · have g1 := of_decide_eq_true (show decide (0 ≤ a ∧ a ≤ 10000) = true from h1)
        have g2 := of_decide_eq_true (show decide (0 ≤ b ∧ b ≤ 10000) = true from h2)
        rw [wrap_in (by omega) (by omega)]
        right
        omega
    · exact .inl rfl
  · exact .inl rfl
def fresh (a b g : Int) : Bool := decide (0 ≤ ageOf a b) && decide (ageOf a b ≤ g)
theorem fresh2 (a b g : Int) : impl_IsFresh.f a b g = some (fresh a b g) := by
  simp only [impl_IsFresh.f, age2, Option.bind_some]
  unfold fresh
  rcases age_cases a b with h | h
  · rw [if_pos h, decide_eq_false (by omega), Bool.false_and]
  · rw [if_neg (by omega), decide_eq_true h, Bool.true_and]
def checkQuote (s a b c d e : Int) (l : List Int) (n t g : Int) : Bool := (quote s a l n d).2.2.2.2.2 && (((quote s a l n d).1 == a && ((quote s a l n d).2.1 == b && ((quote s a l n d).2.2.1 == c && ((quote s a l n d).2.2.2.1 == d && ((quote s a l n d).2.2.2.2.1 == e))))) && fresh d t g)
theorem checkQuote2 (s a b c d e : Int) (l : List Int) (n t g : Int) (hl : l.length ≤ 1048576) (k : Nat) (hk : 4194304 < k) : impl_CheckQuote.f k s a b c d e l n t g = some (checkQuote s a b c d e l n t g) := by
  simp only [impl_CheckQuote.f, quote2 s a l n d hl k hk, fresh2, Option.bind_some, ite_and]
  rfl
theorem md_eq (v : Int) : md v = v % 2147483647 := by
  unfold md
  have h1 : -2147483647 < Int.tmod v 2147483647 := Int.lt_tmod_of_pos v (by omega)
  have h2 : Int.tmod v 2147483647 < 2147483647 := Int.tmod_lt_of_pos v (by omega)
  rw [wrap_in (by omega) (by omega), Int.tmod_eq_emod_of_nonneg (by omega)]
  have h3 := Int.mul_tdiv_add_tmod v 2147483647
  omega
theorem hstep_eq (d v : Int) (h0 : 0 ≤ d) (h1 : d < 2147483647) : hstep d v = (d * 1000003 + v + 13) % 2147483647 := by
  unfold hstep
  have g := md_eq v
  have g0 : 0 ≤ md v := by rw [g]; exact Int.emod_nonneg v (by omega)
  have g1 : md v < 2147483647 := by rw [g]; exact Int.emod_lt_of_pos v (by omega)
  rw [wrap_in (x := d * 1000003) (by omega) (by omega), wrap_in (x := d * 1000003 + md v) (by omega) (by omega), wrap_in (by omega) (by omega), Int.tmod_eq_emod_of_nonneg (by omega), g]
  omega
theorem hstep_in (d v : Int) (h0 : 0 ≤ d) (h1 : d < 2147483647) : 0 ≤ hstep d v ∧ hstep d v < 2147483647 := by
  rw [hstep_eq d v h0 h1]
  omega
theorem mul_zero_of (z : Int) (h : z * 1000003 % 2147483647 = 0) (g1 : -2147483647 < z) (g2 : z < 2147483647) : z = 0 := by
  have h5 : (z * 1000003 * 1523789695) % 2147483647 = 0 := by
    rw [Int.mul_emod, h, Int.zero_mul, Int.zero_emod]
  rw [Int.mul_assoc, show (1000003 * 1523789695 : Int) = 1 + 709572 * 2147483647 by decide, Int.mul_add, Int.mul_one, ← Int.mul_assoc, Int.add_mul_emod_self_right] at h5
  omega
theorem hstep_inj (d e v : Int) (h0 : 0 ≤ d) (h1 : d < 2147483647) (h2 : 0 ≤ e) (h3 : e < 2147483647) (h : hstep d v = hstep e v) : d = e := by
  rw [hstep_eq d v h0 h1, hstep_eq e v h2 h3] at h
  have h3' := Int.emod_eq_emod_iff_emod_sub_eq_zero.1 h
  rw [show d * 1000003 + v + 13 - (e * 1000003 + v + 13) = (d - e) * 1000003 by rw [Int.sub_mul]; omega] at h3'
  clear h
  have g1 : -2147483647 < d - e := by clear h3'; omega
  have g2 : d - e < 2147483647 := by clear h3'; omega
  have g : d - e = 0 := by
    generalize d - e = z at h3' g1 g2 ⊢
    exact mul_zero_of z h3' g1 g2
  clear h3' g1 g2
  omega
theorem hash_cons_ne (l : List Int) : ∀ d e : Int, 0 ≤ d → d < 2147483647 → 0 ≤ e → e < 2147483647 → l.foldl hstep d = l.foldl hstep e → d = e := by
  induction l with
  | nil => intro d e _ _ _ _ h; exact h
  | cons v l ih =>
    intro d e h0 h1 h2 h3 h
    have g1 := hstep_in d v h0 h1
    have g2 := hstep_in e v h2 h3
    exact hstep_inj d e v h0 h1 h2 h3 (ih _ _ g1.1 g1.2 g2.1 g2.2 h)
theorem keyed_first (s a b : Int) (l : List Int) (h : keyed s (a :: l) = keyed s (b :: l)) : a % 2147483647 = b % 2147483647 := by
  unfold keyed hash at h
  simp only [List.cons_append, List.nil_append, List.foldl_cons] at h
  have g := hstep_in 11 s (by omega) (by omega)
  have g1 := hstep_in _ a g.1 g.2
  have g2 := hstep_in _ b g.1 g.2
  have e := hash_cons_ne (l ++ [s]) _ _ g1.1 g1.2 g2.1 g2.2 h
  rw [hstep_eq _ a g.1 g.2, hstep_eq _ b g.1 g.2] at e
  omega
theorem hash2_in (r m : Int) : 0 ≤ hash [r, m] ∧ hash [r, m] < 2147483647 := by
  show 0 ≤ hstep (hstep 11 r) m ∧ hstep (hstep 11 r) m < 2147483647
  have g := hstep_in 11 r (by omega) (by omega)
  exact hstep_in _ m g.1 g.2
theorem hash2_right (r m n : Int) (h : hash [r, m] = hash [r, n]) : m % 2147483647 = n % 2147483647 := by
  have h' : hstep (hstep 11 r) m = hstep (hstep 11 r) n := h
  have g := hstep_in 11 r (by omega) (by omega)
  rw [hstep_eq _ m g.1 g.2, hstep_eq _ n g.1 g.2] at h'
  omega
theorem hash2_left (r s m : Int) (h0 : 0 ≤ r) (h1 : r < 2147483647) (h2 : 0 ≤ s) (h3 : s < 2147483647) (h : hash [r, m] = hash [s, m]) : r = s := by
  have h' : hstep (hstep 11 r) m = hstep (hstep 11 s) m := h
  have g := hstep_in 11 r (by omega) (by omega)
  have g' := hstep_in 11 s (by omega) (by omega)
  have e := hstep_inj _ _ m g.1 g.2 g'.1 g'.2 h'
  clear h h' g g'
  rw [hstep_eq 11 r (by omega) (by omega), hstep_eq 11 s (by omega) (by omega)] at e
  omega
theorem fold_in (l : List Int) : ∀ r : Int, 0 ≤ r → r < 2147483647 → 0 ≤ l.foldl (fun r m => hash [r, m]) r ∧ l.foldl (fun r m => hash [r, m]) r < 2147483647 := by
  induction l with
  | nil => intro r h0 h1; exact ⟨h0, h1⟩
  | cons m l ih =>
    intro r _ _
    have g := hash2_in r m
    exact ih _ g.1 g.2
theorem fold_inj (l : List Int) : ∀ r s : Int, 0 ≤ r → r < 2147483647 → 0 ≤ s → s < 2147483647 → l.foldl (fun r m => hash [r, m]) r = l.foldl (fun r m => hash [r, m]) s → r = s := by
  induction l with
  | nil => intro r s _ _ _ _ h; exact h
  | cons m l ih =>
    intro r s h0 h1 h2 h3 h
    have g := hash2_in r m
    have g' := hash2_in s m
    exact hash2_left r s m h0 h1 h2 h3 (ih _ _ g.1 g.2 g'.1 g'.2 h)
theorem registerNe (l : List Int) (i : Nat) (hi : i < l.length) (v : Int) (h0 : 0 ≤ l.getD i 0) (h1 : l.getD i 0 ≤ 99) (h2 : 0 ≤ v) (h3 : v ≤ 99) (hv : v ≠ l.getD i 0) : register (l.set i v) ≠ register l := by
  intro h
  have e1 : l = l.take i ++ l.getD i 0 :: l.drop (i + 1) := by
    rw [getD_get l i 0 hi, ← List.drop_eq_getElem_cons hi, List.take_append_drop]
  have e2 : l.set i v = l.take i ++ v :: l.drop (i + 1) := by rw [List.set_eq_take_append_cons_drop, if_pos hi]
  unfold register at h
  rw [e2] at h
  conv at h => rhs; rw [e1]
  rw [List.foldl_append, List.foldl_append, List.foldl_cons, List.foldl_cons] at h
  generalize (l.take i).foldl (fun r m => hash [r, m]) 0 = r at h
  have g := hash2_in r v
  have g' := hash2_in r (l.getD i 0)
  have e := hash2_right r _ _ (fold_inj _ _ _ g.1 g.2 g'.1 g'.2 h)
  omega
def same (a b : List Int) : Bool := (List.range a.length).all fun i => a.getD i 0 == b.getD i 0
theorem same_eq (a b : List Int) (hab : a.length = b.length) : same a b = true ↔ a = b := by
  unfold same
  rw [List.all_eq_true]
  constructor
  · intro h
    apply List.ext_getElem hab
    intro i h1 h2
    have := h i (List.mem_range.2 h1)
    rw [getD_get a i 0 h1, getD_get b i 0 h2] at this
    simpa using this
  · rintro rfl i _
    simp
theorem equal2 (a b : List Int) (hl : a.length ≤ 1099511627776) (hab : a.length = b.length) (k : Nat) (hk : a.length < k) : slices_Equal_int_int.f k a b = some (same a b) := by
  unfold slices_Equal_int_int.f
  rw [if_pos (by omega)]
  rw [allLoop (fun k i => slices_Equal_int_int.l0 k a b (a.length : Int) i) a.length 0 (fun i => a.getD i 0 == b.getD i 0) false true ?_ ?_ ?_ k (by omega)]
  · unfold same
    cases (List.range a.length).all fun i => a.getD i 0 == b.getD i 0 <;> rfl
  · intro k i _ hi hp
    simp only [slices_Equal_int_int.l0]
    rw [if_pos (by omega), if_pos (by omega), if_pos (by omega), if_pos (by omega), if_pos (by rw [rd_nat, rd_nat]; simpa using hp), wrap_succ hi hl]
  · intro k i _ hi hp
    simp only [slices_Equal_int_int.l0]
    rw [if_pos (by omega), if_pos (by omega), if_pos (by omega), if_pos (by omega), if_neg (by rw [rd_nat, rd_nat]; simpa using hp)]
  · intro k _
    simp only [slices_Equal_int_int.l0]
    rw [if_neg (by omega)]
theorem sameInts (a b : List Int) (hl : a.length ≤ 1099511627776) (hab : a.length = b.length) (k : Nat) (hk : a.length < k) : laws_sameInts.f k a b = some (same a b) := by
  unfold laws_sameInts.f
  rw [if_pos (by omega)]
  rw [allLoop (fun k i => laws_sameInts.l0 k a b i) a.length 0 (fun i => a.getD i 0 == b.getD i 0) false true ?_ ?_ ?_ k (by omega)]
  · unfold same
    cases (List.range a.length).all fun i => a.getD i 0 == b.getD i 0 <;> rfl
  · intro k i _ hi hp
    simp only [laws_sameInts.l0]
    rw [if_pos (by omega), if_pos (by omega), if_pos (by omega), if_pos (by rw [rd_nat, rd_nat]; simpa using hp), wrap_succ hi hl]
  · intro k i _ hi hp
    simp only [laws_sameInts.l0]
    rw [if_pos (by omega), if_pos (by omega), if_pos (by omega), if_neg (by rw [rd_nat, rd_nat]; simpa using hp)]
  · intro k _
    simp only [laws_sameInts.l0]
    rw [if_neg (by omega)]
theorem and255 (x : Int) : 0 ≤ Go.bits .and .i64 x 255 ∧ Go.bits .and .i64 x 255 ≤ 255 := by
  unfold Go.bits
  simp only
  have h : (BitVec.ofInt IntKind.i64.bits x &&& BitVec.ofInt IntKind.i64.bits 255).toNat ≤ 255 := by
    rw [BitVec.toNat_and]
    exact Nat.le_trans Nat.and_le_right (by decide)
  rw [IntKind.wrap_i64]
  omega
/-- What a draw gives: something, and the place is still one of the list. -/
def Drawn {α : Type} (l : List Int) (r : Option (α × Int × Int)) (Q : α → Prop) : Prop := ∃ v i h, r = some (v, i, h) ∧ Q v ∧ 0 ≤ i ∧ i ≤ (l.length : Int)
theorem dByte (l : List Int) (hl : l.length ≤ 1048576) (i h : Int) (h0 : 0 ≤ i) (h1 : i ≤ (l.length : Int)) : Drawn l (spec_l1Byte.f l i h) fun v => 0 ≤ v ∧ v ≤ 255 := by
  unfold spec_l1Byte.f
  by_cases c : i < (l.length : Int)
  · rw [if_pos c, if_pos h0, wrap_in (x := i + 1) (by omega) (by omega)]
    exact ⟨_, _, _, rfl, and255 _, by omega, by omega⟩
  · rw [if_neg c]
    exact ⟨_, _, _, rfl, and255 _, by omega, by omega⟩
theorem dBelow (l : List Int) (hl : l.length ≤ 1048576) (i h : Int) (h0 : 0 ≤ i) (h1 : i ≤ (l.length : Int)) (n : Int) (hn : 0 < n) : Drawn l (spec_l1Below.f l i h n) fun v => 0 ≤ v ∧ v < n := by
  unfold spec_l1Below.f
  rw [if_neg (by omega)]
  by_cases c : n ≤ 256
  · rw [if_pos c]
    obtain ⟨v, i1, s1, e, ⟨g0, _⟩, p0, p1⟩ := dByte l hl i h h0 h1
    rw [e, Option.bind_some, if_neg (by omega)]
    exact ⟨_, _, _, rfl, ⟨Int.tmod_nonneg _ g0, Int.tmod_lt_of_pos _ hn⟩, p0, p1⟩
  · rw [if_neg c]
    obtain ⟨v, i1, s1, e, ⟨g0, g1⟩, p0, p1⟩ := dByte l hl i h h0 h1
    obtain ⟨v2, i2, s2, e2, ⟨g2, g3⟩, p2, p3⟩ := dByte l hl i1 s1 p0 p1
    obtain ⟨v3, i3, s3, e3, ⟨g4, g5⟩, p4, p5⟩ := dByte l hl i2 s2 p2 p3
    simp only [e, e2, e3, Option.bind_some]
    rw [if_neg (by omega), wrap_in (x := v * 65536) (by omega) (by omega), wrap_in (x := v2 * 256) (by omega) (by omega), wrap_in (x := v * 65536 + v2 * 256) (by omega) (by omega), wrap_in (by omega) (by omega)]
    exact ⟨_, _, _, rfl, ⟨Int.tmod_nonneg _ (by omega), Int.tmod_lt_of_pos _ hn⟩, p4, p5⟩
theorem dOnce (l : List Int) (hl : l.length ≤ 1048576) (i h : Int) (h0 : 0 ≤ i) (h1 : i ≤ (l.length : Int)) (n : Int) (hn : 0 < n) : Drawn l (spec_l1Once.f l i h n) fun _ => True := by
  unfold spec_l1Once.f
  obtain ⟨v, i1, s1, e, _, p0, p1⟩ := dBelow l hl i h h0 h1 n hn
  rw [e, Option.bind_some]
  exact ⟨_, _, _, rfl, trivial, p0, p1⟩
theorem dInt (l : List Int) (hl : l.length ≤ 1048576) (i h : Int) (h0 : 0 ≤ i) (h1 : i ≤ (l.length : Int)) (c : List Int) (hc : 0 < c.length) : Drawn l (spec_l1Int.f l i h c) fun v => v ∈ c := by
  unfold spec_l1Int.f
  obtain ⟨v, i1, s1, e, ⟨g0, g1⟩, p0, p1⟩ := dBelow l hl i h h0 h1 (c.length : Int) (by omega)
  rw [e, Option.bind_some, if_pos g0, if_pos g1]
  refine ⟨_, _, _, rfl, ?_, p0, p1⟩
  unfold rd
  exact getD_mem c _ 0 (by omega)
def seedOf (l : List Int) : Nat → Int
  | 0 => wrap64 (193017 + (l.length : Int))
  | i + 1 => Go.bits .and .i64 (wrap64 ((wrap64 ((wrap64 (seedOf l i * 137)) + (wrap64 (l.getD i 0)))) + 11)) 1073741823
theorem new1 (l : List Int) (hl : l.length ≤ 1048576) (k : Nat) (hk : 1048577 < k) : spec_l1New.f k l = some (l, 0, seedOf l (min l.length 4000)) := by
  unfold spec_l1New.f
  refine run (fun k s i => spec_l1New.l0 k l s i) (seedOf l) (min l.length 4000) 0 _ ?_ ?_ k (by omega)
  · intro k i _ hi
    simp only [spec_l1New.l0, rd_nat]
    rw [if_pos (by omega), if_pos (by omega), if_pos (by omega), wrap_succ hi (by omega)]
    rfl
  · intro k _
    simp only [spec_l1New.l0]
    by_cases c : l.length < 4000
    · rw [Nat.min_eq_left (by omega), if_neg (by omega)]
    · rw [Nat.min_eq_right (by omega)]
      split
      · rw [if_neg (by omega)]
      · rfl
theorem dName (l : List Int) (hl : l.length ≤ 1048576) (i h : Int) (h0 : 0 ≤ i) (h1 : i ≤ (l.length : Int)) (a : Int) : Drawn l (spec_l5Name.f l i h a) fun _ => True := by
  unfold spec_l5Name.f
  obtain ⟨v, i1, s1, e, _, p0, p1⟩ := dBelow l hl i h h0 h1 3 (by omega)
  rw [e, Option.bind_some]
  exact ⟨_, _, _, rfl, trivial, p0, p1⟩
theorem dAny (l : List Int) (hl : l.length ≤ 1048576) (i h : Int) (h0 : 0 ≤ i) (h1 : i ≤ (l.length : Int)) : Drawn l (spec_l5Any.f l i h) fun _ => True := by
  unfold spec_l5Any.f
  obtain ⟨v, i1, s1, e, _, p0, p1⟩ := dOnce l hl i h h0 h1 6 (by omega)
  rw [e, Option.bind_some]
  by_cases c : v = true
  · rw [if_pos c]
    obtain ⟨v2, i2, s2, e2, _, p2, p3⟩ := dInt l hl i1 s1 p0 p1 [(-1), 9, 10, 49, 50, 19] (by simp)
    simp only [e2, Option.bind_some]
    exact ⟨_, _, _, rfl, trivial, p2, p3⟩
  · rw [if_neg c]
    obtain ⟨v2, i2, s2, e2, _, p2, p3⟩ := dBelow l hl i1 s1 p0 p1 4 (by omega)
    simp only [e2, Option.bind_some]
    obtain ⟨v3, i3, s3, e3, _, p4, p5⟩ := dName l hl i2 s2 p2 p3 (wrap64 (1 + v2))
    simp only [e3, Option.bind_some]
    exact ⟨_, _, _, rfl, trivial, p4, p5⟩
theorem dTime (l : List Int) (hl : l.length ≤ 1048576) (i h : Int) (h0 : 0 ≤ i) (h1 : i ≤ (l.length : Int)) : Drawn l (spec_l4Time.f l i h) fun _ => True := by
  unfold spec_l4Time.f
  obtain ⟨v, i1, s1, e, _, p0, p1⟩ := dOnce l hl i h h0 h1 8 (by omega)
  rw [e, Option.bind_some]
  by_cases c : v = true
  · rw [if_pos c]
    obtain ⟨v2, i2, s2, e2, _, p2, p3⟩ := dInt l hl i1 s1 p0 p1 [(-1), 0, 10000, 10001, 9223372036854775807, (-9223372036854775808)] (by simp)
    simp only [e2, Option.bind_some]
    exact ⟨_, _, _, rfl, trivial, p2, p3⟩
  · rw [if_neg c]
    obtain ⟨v2, i2, s2, e2, _, p2, p3⟩ := dBelow l hl i1 s1 p0 p1 40 (by omega)
    simp only [e2, Option.bind_some]
    exact ⟨_, _, _, rfl, trivial, p2, p3⟩
theorem log_loop (l : List Int) (hl : l.length ≤ 1048576) (d : Nat) : ∀ (out : List Int) (k : Nat) (i h : Int), 0 ≤ i → i ≤ (l.length : Int) → out.length + d ≤ 1000 → d < k → Drawn l (spec_l12Log.l0 k out (d : Int) l i h) fun v => v.length = out.length + d := by
  induction d with
  | zero =>
    intro out k i h h0 h1 _ hk
    obtain ⟨k, rfl⟩ : ∃ m, k = m + 1 := ⟨k - 1, by omega⟩
    simp only [spec_l12Log.l0]
    rw [if_neg (by omega)]
    exact ⟨_, _, _, rfl, rfl, h0, h1⟩
  | succ d ih =>
    intro out k i h h0 h1 ho hk
    obtain ⟨k, rfl⟩ : ∃ m, k = m + 1 := ⟨k - 1, by omega⟩
    simp only [spec_l12Log.l0]
    rw [if_pos (by omega)]
    obtain ⟨v, i, h, e, _, h0, h1⟩ := dBelow l hl i h h0 h1 6 (by omega)
    simp only [e, Option.bind_some]
    rw [if_pos (by omega), wrap_in (by omega) (by omega), show ((d + 1 : Nat) : Int) - 1 = (d : Int) by omega]
    obtain ⟨v2, i2, s2, e2, q, g0, g1⟩ := ih (out ++ [v]) k i h h0 h1 (by rw [List.length_append]; simp; omega) (by omega)
    have hq : v2.length = out.length + (d + 1) := by rw [q, List.length_append]; simp; omega
    exact ⟨v2, i2, s2, e2, hq, g0, g1⟩
theorem dLog (l : List Int) (hl : l.length ≤ 1048576) (i h : Int) (h0 : 0 ≤ i) (h1 : i ≤ (l.length : Int)) (k : Nat) (hk : 10 < k) : Drawn l (spec_l12Log.f k l i h) fun v => v.length ≤ 4 := by
  unfold spec_l12Log.f
  obtain ⟨v, i, h, e, ⟨g0, g1⟩, h0, h1⟩ := dBelow l hl i h h0 h1 5 (by omega)
  simp only [e, Option.bind_some]
  obtain ⟨n, rfl⟩ : ∃ n : Nat, v = (n : Int) := ⟨v.toNat, by omega⟩
  obtain ⟨v2, i2, s2, e2, q, p0, p1⟩ := log_loop l hl n [] k i h h0 h1 (by simp; omega) (by omega)
  have hq : v2.length ≤ 4 := by rw [q]; simp; omega
  exact ⟨v2, i2, s2, e2, hq, p0, p1⟩
theorem dMakeQuote (l : List Int) (hl : l.length ≤ 1048576) (k : Nat) (hk : 1048577 < k) : ∃ s m lg n t, spec_DrawMakeQuote.f k l = some (s, m, lg, n, t) ∧ lg.length ≤ 4 := by
  unfold spec_DrawMakeQuote.f
  rw [new1 l hl k hk, Option.bind_some]
  obtain ⟨v, i, h, e, _, h0, h1⟩ := dInt l hl 0 (seedOf l (min l.length 4000)) (by omega) (by omega) [200, 200, 0] (by simp)
  simp only [e, Option.bind_some]
  clear e
  obtain ⟨v2, i, h, e, _, h0, h1⟩ := dName l hl i h h0 h1 2
  simp only [e, Option.bind_some]
  clear e
  obtain ⟨v3, i, h, e, _, h0, h1⟩ := dOnce l hl i h h0 h1 6 (by omega)
  simp only [e, Option.bind_some]
  clear e
  by_cases c : v3 = true
  · rw [if_pos c]
    obtain ⟨v4, i, h, e, _, h0, h1⟩ := dAny l hl i h h0 h1
    simp only [e, Option.bind_some]
    clear e
    obtain ⟨v5, i, h, e, q, h0, h1⟩ := dLog l hl i h h0 h1 k (by omega)
    simp only [e, Option.bind_some]
    clear e
    obtain ⟨v6, i, h, e, _, h0, h1⟩ := dBelow l hl i h h0 h1 99 (by omega)
    simp only [e, Option.bind_some]
    clear e
    obtain ⟨v7, i, h, e, _, h0, h1⟩ := dTime l hl i h h0 h1
    simp only [e, Option.bind_some]
    exact ⟨_, _, _, _, _, rfl, q⟩
  · rw [if_neg c]
    obtain ⟨v5, i, h, e, q, h0, h1⟩ := dLog l hl i h h0 h1 k (by omega)
    simp only [e, Option.bind_some]
    clear e
    obtain ⟨v6, i, h, e, _, h0, h1⟩ := dBelow l hl i h h0 h1 99 (by omega)
    simp only [e, Option.bind_some]
    clear e
    obtain ⟨v7, i, h, e, _, h0, h1⟩ := dTime l hl i h h0 h1
    simp only [e, Option.bind_some]
    exact ⟨_, _, _, _, _, rfl, q⟩
theorem dPrefix (l : List Int) (hl : l.length ≤ 1048576) (k : Nat) (hk : 1048577 < k) : ∃ a b, spec_DrawIsPrefixLog.f k l = some (a, b) ∧ a.length ≤ 8 ∧ b.length ≤ 8 := by
  unfold spec_DrawIsPrefixLog.f
  rw [new1 l hl k hk, Option.bind_some]
  obtain ⟨a, i, h, e, qa, h0, h1⟩ := dLog l hl 0 (seedOf l (min l.length 4000)) (by omega) (by omega) k (by omega)
  simp only [e, Option.bind_some]
  clear e
  obtain ⟨v, i, h, e, _, h0, h1⟩ := dOnce l hl i h h0 h1 2 (by omega)
  simp only [e, Option.bind_some]
  clear e
  by_cases c : v = true
  · rw [if_pos c, if_pos (by simp; omega)]
    obtain ⟨b, i, h, e, qb, h0, h1⟩ := dLog l hl i h h0 h1 k (by omega)
    simp only [e, Option.bind_some]
    rw [if_pos (by simp; omega)]
    exact ⟨_, _, rfl, by omega, by simp; omega⟩
  · rw [if_neg c]
    obtain ⟨b, i, h, e, qb, h0, h1⟩ := dLog l hl i h h0 h1 k (by omega)
    simp only [e, Option.bind_some]
    exact ⟨_, _, rfl, by omega, by omega⟩
theorem extends_loop (b : List Int) (hb : b.length ≤ 8) (d : Nat) : ∀ i k, i + d = b.length → d + 100 < k → laws_FnMeasurements.l1 k b (register (b.take i)) (i : Int) = some true := by
  induction d with
  | zero =>
    intro i k hi hk
    obtain ⟨k, rfl⟩ : ∃ m, k = m + 1 := ⟨k - 1, by omega⟩
    simp only [laws_FnMeasurements.l1]
    rw [if_neg (by omega), register2 b (by omega) k (by omega), Option.bind_some, List.take_of_length_le (by omega)]
    simp
  | succ d ih =>
    intro i k hi hk
    obtain ⟨k, rfl⟩ : ∃ m, k = m + 1 := ⟨k - 1, by omega⟩
    simp only [laws_FnMeasurements.l1, rd_nat]
    rw [if_pos (by omega), if_pos (by omega), extend2 _ _ k (by omega), Option.bind_some, wrap_succ (show i < b.length by omega) (by omega)]
    have e : hash [register (b.take i), b.getD i 0] = register (b.take (i + 1)) := by
      unfold register
      rw [foldl_take (fun r m => hash [r, m]) 0 b i (by omega) 0]
    rw [e]
    exact ih (i + 1) k (by omega) (by omega)
theorem prefixPart (l : List Int) (hl : l.length ≤ 1048576) (k : Nat) (hk : 1048600 < k) : laws_FnMeasurements.j2 k l = some true := by
  obtain ⟨k, rfl⟩ : ∃ m, k = m + 1 := ⟨k - 1, by omega⟩
  obtain ⟨a, b, e, ha, hb⟩ := dPrefix l hl k (by omega)
  simp only [laws_FnMeasurements.j2, e, Option.bind_some, impl_IsPrefixLog.f]
  by_cases h : (a.length : Int) ≤ (b.length : Int)
  · have hn : a.length ≤ b.length := by omega
    have ht : (b.take a.length).length = a.length := by rw [List.length_take]; omega
    rw [if_pos h, if_pos (by omega), Int.toNat_natCast, equal2 a _ (by omega) ht.symm k (by omega), Option.bind_some, Option.bind_some]
    by_cases g : same a (b.take a.length) = true
    · have g' := (same_eq a _ ht.symm).1 g
      rw [if_pos g, register2 a (by omega) k (by omega), Option.bind_some]
      have x := extends_loop b hb (b.length - a.length) a.length k (by omega) (by omega)
      rw [← g'] at x
      exact x
    · rw [if_neg g, if_neg (by omega), if_pos (by omega), if_pos h, sameInts a _ (by omega) ht.symm k (by omega), Option.bind_some, Bool.eq_false_iff.2 g]
      rfl
  · rw [if_neg h, Option.bind_some, if_neg (by simp), if_pos (by omega)]
theorem other_false (s m : Int) (lg lg' : List Int) (n n' t : Int) (h : quoteOk s m lg t = true) (hne : register lg' ≠ register lg ∨ n' ≠ n) : checkQuote s (quote s m lg n t).1 (quote s m lg n t).2.1 (quote s m lg n t).2.2.1 (quote s m lg n t).2.2.2.1 (quote s m lg n t).2.2.2.2.1 lg' n' t 0 = false := by
  have hq : quote s m lg n t = (m, register lg, n, t, keyed s [m, register lg, n, t], true) := if_pos h
  rw [hq]
  unfold checkQuote
  by_cases c : quoteOk s m lg' t = true
  · have hq' : quote s m lg' n' t = (m, register lg', n', t, keyed s [m, register lg', n', t], true) := if_pos c
    rw [hq']
    rcases hne with x | x
    · simp [x]
    · simp [x]
  · have hq' : quote s m lg' n' t = (0, 0, 0, 0, 0, false) := if_neg c
    rw [hq']
    rfl
theorem own_true (s m : Int) (lg : List Int) (n t : Int) (h : quoteOk s m lg t = true) : checkQuote s (quote s m lg n t).1 (quote s m lg n t).2.1 (quote s m lg n t).2.2.1 (quote s m lg n t).2.2.2.1 (quote s m lg n t).2.2.2.2.1 lg n t 0 = true := by
  have hq : quote s m lg n t = (m, register lg, n, t, keyed s [m, register lg, n, t], true) := if_pos h
  have ht : timeOk t = true := by
    unfold quoteOk at h
    simp only [Bool.and_eq_true] at h
    exact h.2.2.2
  have hf : fresh t t 0 = true := by
    unfold fresh ageOf
    rw [if_pos ht, if_pos ht, if_neg (by omega), Int.sub_self, wrap_in (by omega) (by omega)]
    rfl
  unfold checkQuote
  rw [hq]
  simp only [hq, hf]
  simp
theorem otherLoop (l : List Int) (hl : l.length ≤ 1048576) (s m : Int) (lg : List Int) (hlg : lg.length ≤ 4) (n t : Int) (h : quoteOk s m lg t = true) (d : Nat) : ∀ i k, i + d = lg.length → d + 4194400 < k → laws_FnMeasurements.l0 k l s lg n t (i : Int) (quote s m lg n t).1 (quote s m lg n t).2.1 (quote s m lg n t).2.2.1 (quote s m lg n t).2.2.2.1 (quote s m lg n t).2.2.2.2.1 = some true := by
  induction d with
  | zero =>
    intro i k hi hk
    obtain ⟨k, rfl⟩ : ∃ m, k = m + 1 := ⟨k - 1, by omega⟩
    simp only [laws_FnMeasurements.l0]
    rw [if_neg (by omega)]
    exact prefixPart l hl k (by omega)
  | succ d ih =>
    intro i k hi hk
    obtain ⟨k, rfl⟩ : ∃ m, k = m + 1 := ⟨k - 1, by omega⟩
    have hlt : i < lg.length := by omega
    have hv : 0 ≤ lg.getD i 0 ∧ lg.getD i 0 ≤ 99 := by
      have h' := h
      unfold quoteOk isLog at h'
      simp only [Bool.and_eq_true] at h'
      have g := h'.2.2.1
      split at g
      · rename_i ga
        rw [List.all_eq_true] at ga
        exact of_decide_eq_true (ga i (List.mem_range.2 hlt))
      · cases g
    have hm : Int.tmod (wrap64 (lg.getD i 0 + 1)) 100 = (lg.getD i 0 + 1) % 100 := by
      rw [wrap_in (by omega) (by omega), Int.tmod_eq_emod_of_nonneg (by omega)]
    have hne : register (lg.set i ((lg.getD i 0 + 1) % 100)) ≠ register lg := registerNe lg i hlt _ hv.1 hv.2 (by omega) (by omega) (by omega)
    simp only [laws_FnMeasurements.l0, Option.bind_some, List.nil_append, rd_nat, Int.toNat_natCast, List.length_nil, Nat.zero_add]
    have hsl : (lg.set i ((lg.getD i 0 + 1) % 100)).length = lg.length := List.length_set
    rw [if_pos (by omega), if_pos (by omega), if_pos (by omega), if_pos (by omega), hm, checkQuote2 _ _ _ _ _ _ _ n t 0 (by omega) k (by omega), Option.bind_some, other_false s m lg _ n n t h (.inl hne), if_neg (by simp), register2 _ (by omega) k (by omega), Option.bind_some, register2 lg (by omega) k (by omega), Option.bind_some, if_neg hne, wrap_succ hlt (by omega)]
    exact ih (i + 1) k (by omega) (by omega)
theorem FnMeasurements : laws_FnMeasurements.Pure := by
  intro l _
  suffices h : ∀ k, 4195000 < k → laws_FnMeasurements.f k l = some true from ⟨4195001, h _ (by omega)⟩
  intro k hk
  unfold laws_FnMeasurements.f laws_big.f
  rw [Option.bind_some]
  by_cases hl : (l.length : Int) > 1048576
  · rw [if_pos (decide_eq_true hl)]
  rw [if_neg (by rw [decide_eq_true_eq]; exact hl)]
  obtain ⟨s, m, lg, n, t, e, hlg⟩ := dMakeQuote l (by omega) k (by omega)
  rw [e, Option.bind_some]
  simp only [quote2 s m lg n t (by omega) k (by omega), Option.bind_some]
  by_cases h : quoteOk s m lg t = true
  · have hok : (quote s m lg n t).2.2.2.2.2 = true := by rw [quote, if_pos h]
    obtain ⟨k, rfl⟩ : ∃ m, k = m + 1 := ⟨k - 1, by omega⟩
    have hw : wrap64 (n + 1) ≠ n := by unfold wrap64; omega
    rw [if_pos hok, checkQuote2 _ _ _ _ _ _ _ n t 0 (by omega) (k + 1) (by omega), Option.bind_some, own_true s m lg n t h, if_pos rfl, checkQuote2 _ _ _ _ _ _ _ _ t 0 (by omega) (k + 1) (by omega), Option.bind_some, other_false s m lg lg n _ t h (.inr hw)]
    simp only [laws_FnMeasurements.j0]
    rw [if_neg (by simp)]
    exact otherLoop l (by omega) s m lg hlg n t h lg.length 0 k (by omega) (by omega)
  · have hok : (quote s m lg n t).2.2.2.2.2 = false := by rw [quote, if_neg h]
    rw [hok, if_neg (by simp)]
    exact prefixPart l (by omega) k (by omega)
end Go.Proofs.Ytlmhemcpkmjkiaa.Pure
