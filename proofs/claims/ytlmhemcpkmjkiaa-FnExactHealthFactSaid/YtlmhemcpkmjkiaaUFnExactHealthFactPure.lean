/- FnExactHealthFact: the program's HealthFact answers what the reference's answers, for all arguments. Conditions: none. -/
import Derived.Test.YtlmhemcpkmjkiaaUFnExactHealthFactLib
import Derived.Test.YtlmhemcpkmjkiaaUFnExactHealthFactx12
namespace Go.Proofs.Ytlmhemcpkmjkiaa.Pure
open Go.RowKit Go.Proofs.Ytlmhemcpkmjkiaa.XFnExactHealthFact Go.Proofs.YtlmhemcpkmjkiaaW.PrintWords
set_option linter.unusedVariables false
set_option linter.unusedSimpArgs false
open Go.Proofs.YtlmhemcpkmjkiaaLib
theorem szInt (l : List Int) (a : Int) (h0 : 0 ≤ a) (h1 : a ≤ 1048576) (hl : l.length ≤ maxLen) : laws_szIntS.f l a = some (if (l.length : Int) ≤ a then a - (l.length : Int) else -1) := by
  unfold maxLen at hl
  unfold laws_szIntS.f
  rw [wrap_in (by omega) (by omega)]
  by_cases h : (l.length : Int) ≤ a
  · rw [if_pos h, if_neg (by omega)]
  · rw [if_neg h, if_pos (by omega)]
theorem toIntS (l : List Int) (hl : l.length ≤ 1099511627776) (k : Nat) (hk : l.length < k) : laws_toIntS.f k l = some l := by
  unfold laws_toIntS.f
  rw [if_pos (by omega), if_pos (by omega), Int.toNat_natCast]
  refine (run (fun k s i => laws_toIntS.l0 k l s i) (put (fun i => l.getD i 0) (List.replicate l.length 0)) l.length 0 l ?_ ?_ k (by omega))
  · intro k i _ hi
    have hlen : (put (fun i => l.getD i 0) (List.replicate l.length 0) i).length = l.length := by rw [put_length _ _ _ (by simp; omega), List.length_replicate]
    simp only [laws_toIntS.l0]
    rw [if_pos (by omega), if_pos (by omega), if_pos (by omega), wrap_succ hi hl, rd_nat, Int.toNat_natCast, put_set (fun i => l.getD i 0) _ i (by simp; omega)]
  · intro k _
    simp only [laws_toIntS.l0]
    rw [if_neg (by omega), put_all _ _ (by simp), map_range_getD']
theorem eqIntS_self (l : List Int) (hl : l.length ≤ 1099511627776) (k : Nat) (hk : l.length < k) : laws_eqIntS.f k l l = some true := by
  unfold laws_eqIntS.f
  rw [if_pos rfl]
  refine run (fun k (_ : Unit) i => laws_eqIntS.l0 k l l i) (fun _ => ()) l.length 0 true ?_ ?_ k (by omega)
  · intro k i _ hi
    simp only [laws_eqIntS.l0]
    rw [if_pos (by omega), if_pos (by omega), if_pos (by omega), if_pos trivial, wrap_succ hi hl]
  · intro k _
    simp only [laws_eqIntS.l0]
    rw [if_neg (by omega)]
theorem toAllowed (a : Int) (p q s : List Int) (h1 : p.length ≤ 1048576) (h2 : q.length ≤ 1048576) (h3 : s.length ≤ 1048576) (k : Nat) (hk : 1048576 < k) : laws_toAllowed.f k a p q s = some (a, p, q, s) := by
  simp only [laws_toAllowed.f, toIntS p (by omega) k (by omega), toIntS q (by omega) k (by omega), toIntS s (by omega) k (by omega), Option.bind_some]
theorem eqAllowed_self (a : Int) (p q s : List Int) (h1 : p.length ≤ 1048576) (h2 : q.length ≤ 1048576) (h3 : s.length ≤ 1048576) (k : Nat) (hk : 1048576 < k) : laws_eqAllowed.f k a p q s a p q s = some true := by
  simp only [laws_eqAllowed.f, eqIntS_self p (by omega) k (by omega), eqIntS_self q (by omega) k (by omega), eqIntS_self s (by omega) k (by omega), Option.bind_some, if_true]
theorem szAllowed (a : Int) (p q s : List Int) (n : Int) (h0 : 0 ≤ n) (hn : n ≤ 1048576) (h1 : p.length ≤ maxLen) (h2 : q.length ≤ maxLen) (h3 : s.length ≤ maxLen) : ∃ r, laws_szAllowed.f a p q s n = some r ∧ (r < 0 ∨ (0 ≤ r ∧ r ≤ 1048576 ∧ p.length ≤ 1048576 ∧ q.length ≤ 1048576 ∧ s.length ≤ 1048576)) := by
  unfold laws_szAllowed.f
  rw [szInt p n h0 hn h1, Option.bind_some]
  by_cases c1 : (p.length : Int) ≤ n
  · rw [if_pos c1, if_neg (by omega), szInt q _ (by omega) (by omega) h2, Option.bind_some]
    by_cases c2 : (q.length : Int) ≤ n - (p.length : Int)
    · rw [if_pos c2, if_neg (by omega), szInt s _ (by omega) (by omega) h3, Option.bind_some]
      by_cases c3 : (s.length : Int) ≤ n - (p.length : Int) - (q.length : Int)
      · rw [if_pos c3, if_neg (by omega)]
        exact ⟨_, rfl, Or.inr ⟨by omega, by omega, by omega, by omega, by omega⟩⟩
      · rw [if_neg c3, if_pos (by omega)]
        exact ⟨_, rfl, Or.inl (by omega)⟩
    · rw [if_neg c2, if_pos (by omega)]
      exact ⟨_, rfl, Or.inl (by omega)⟩
  · rw [if_neg c1, if_pos (by omega)]
    exact ⟨_, rfl, Or.inl (by omega)⟩
theorem in1 (x y z : Int) : spec_l1In.f x y z = some (decide (y ≤ x ∧ x ≤ z)) := by
  unfold spec_l1In.f
  by_cases h : x ≥ y
  · rw [if_pos h]; simp [show y ≤ x from h]
  · rw [if_neg h]; simp; omega
theorem in2 (x y z : Int) : impl_InRange.f x y z = some (decide (y ≤ x ∧ x ≤ z)) := by
  unfold impl_InRange.f
  by_cases h : y ≤ x
  · rw [if_pos h]; simp [h]
  · rw [if_neg h]; simp; omega
def md (v : Int) : Int := Int.tmod (wrap64 (Int.tmod v 2147483647 + 2147483647)) 2147483647
def hstep (d v : Int) : Int := Int.tmod (wrap64 ((wrap64 ((wrap64 (d * 1000003)) + md v)) + 13)) 2147483647
def hash (l : List Int) : Int := l.foldl hstep 11
theorem mod1 (v : Int) : spec_Mod.f v 2147483647 = some (md v) := by
  simp [spec_Mod.f, in1, md]
theorem mod2 (v : Int) : impl_Mod.f v 2147483647 = some (md v) := by
  simp [impl_Mod.f, in2, md]
theorem hash1 (l : List Int) (hl : l.length ≤ 1099511627776) (k : Nat) (hk : l.length < k) : spec_Hash.f k l = some (hash l) := by
  unfold spec_Hash.f
  refine run (fun k s i => spec_Hash.l0 k l s i) (fun i => (l.take i).foldl hstep 11) l.length 0 (hash l) ?_ ?_ k (by omega)
  · intro k i _ hi
    simp only [spec_Hash.l0]
    rw [if_pos (by omega), if_pos (by omega), mod1, Option.bind_some, wrap_succ hi hl, rd_nat, foldl_take hstep 11 l i hi 0]
    rfl
  · intro k _
    simp only [spec_Hash.l0]
    rw [if_neg (by omega), List.take_length]
    rfl
theorem hash2 (l : List Int) (hl : l.length ≤ 1099511627776) (k : Nat) (hk : l.length < k) : impl_Hash.f k l = some (hash l) := by
  unfold impl_Hash.f
  refine run (fun k s i => impl_Hash.l0 k s l (l.length : Int) i) (fun i => (l.take i).foldl hstep 11) l.length 0 (hash l) ?_ ?_ k (by omega)
  · intro k i _ hi
    simp only [impl_Hash.l0]
    rw [if_pos (by omega), if_pos (by omega), if_pos (by omega), mod2, Option.bind_some, wrap_succ hi hl, rd_nat, foldl_take hstep 11 l i hi 0]
    rfl
  · intro k _
    simp only [impl_Hash.l0]
    rw [if_neg (by omega), List.take_length]
    rfl
def register (l : List Int) : Int := l.foldl (fun r m => hash [r, m]) 0
theorem extend1 (r m : Int) (k : Nat) (hk : 5 ≤ k) : spec_ExtendRegister.f k r m = some (hash [r, m]) := by
  simp only [spec_ExtendRegister.f, hash1 [r, m] (by simp) k (by simp; omega), Option.bind_some]
theorem extend2 (r m : Int) (k : Nat) (hk : 5 ≤ k) : impl_ExtendRegister.f k r m = some (hash [r, m]) := by
  simp only [impl_ExtendRegister.f, hash2 [r, m] (by simp) k (by simp; omega), Option.bind_some]
theorem register1 (l : List Int) (hl : l.length ≤ 1099511627776) (k : Nat) (hk : l.length + 5 < k) : spec_RegisterOf.f k l = some (register l) := by
  unfold spec_RegisterOf.f
  refine run (fun k s i => spec_RegisterOf.l0 k l s i) (fun i => (l.take i).foldl (fun r m => hash [r, m]) 0) l.length 5 (register l) ?_ ?_ k (by omega)
  · intro k i hB hi
    simp only [spec_RegisterOf.l0]
    rw [if_pos (by omega), if_pos (by omega), extend1 _ _ k hB, Option.bind_some, wrap_succ hi hl, rd_nat, foldl_take (fun r m => hash [r, m]) 0 l i hi 0]
  · intro k _
    simp only [spec_RegisterOf.l0]
    rw [if_neg (by omega), List.take_length]
    rfl
theorem register2 (l : List Int) (hl : l.length ≤ 1099511627776) (k : Nat) (hk : l.length + 5 < k) : impl_RegisterOf.f k l = some (register l) := by
  unfold impl_RegisterOf.f
  refine run (fun k s i => impl_RegisterOf.l0 k s l (l.length : Int) i) (fun i => (l.take i).foldl (fun r m => hash [r, m]) 0) l.length 5 (register l) ?_ ?_ k (by omega)
  · intro k i hB hi
    simp only [impl_RegisterOf.l0]
    rw [if_pos (by omega), if_pos (by omega), if_pos (by omega), extend2 _ _ k hB, Option.bind_some, wrap_succ hi hl, rd_nat, foldl_take (fun r m => hash [r, m]) 0 l i hi 0]
  · intro k _
    simp only [impl_RegisterOf.l0]
    rw [if_neg (by omega), List.take_length]
    rfl
theorem rdL (L : List (List Int)) (i : Nat) : rd_L1 L (i : Int) = L.getD i [] := by
  unfold rd_L1
  rw [Int.toNat_natCast]
theorem grow0 (n : Nat) (h : n ≤ 1099511627776) : slices_Grow_int_int.f [] (n : Int) = some [] := by
  unfold slices_Grow_int_int.f
  rw [if_pos ⟨rfl, by omega, by omega⟩]
theorem concat (L : List (List Int)) (hl : L.length ≤ 1048576) (ht : L.flatten.length ≤ 1099511627776) (k : Nat) (hk : 2 * L.length + 2 < k) : slices_Concat_int_int.f k L = some L.flatten := by
  unfold slices_Concat_int_int.f
  refine run (fun k s i => slices_Concat_int_int.l0 k L s L (L.length : Int) i) (fun i => ((L.take i).flatten.length : Int)) L.length (L.length + 1) L.flatten ?_ ?_ k (by omega)
  · intro k i _ hi
    have h1 := flatten_take L i hi
    have h2 := flatten_take_le L (i + 1)
    have h3 : ((L.take (i + 1)).flatten.length : Int) = ((L.take i).flatten.length : Int) + ((L.getD i []).length : Int) := by rw [h1, List.length_append]; omega
    have hw : wrap64 (((L.take i).flatten.length : Int) + ((L.getD i []).length : Int)) = ((L.take (i + 1)).flatten.length : Int) := by rw [h3]; exact wrap_in (by omega) (by omega)
    simp only [slices_Concat_int_int.l0, rdL]
    rw [if_pos (by omega), if_pos (by omega), if_pos (by omega), hw, if_neg (by omega), wrap_succ hi (by omega)]
  · intro k hk
    simp only [slices_Concat_int_int.l0]
    rw [if_neg (by omega), List.take_length, grow0 _ ht, Option.bind_some]
    refine run (fun k s i => slices_Concat_int_int.l1 k s L (L.length : Int) i) (fun i => (L.take i).flatten) L.length 0 L.flatten ?_ ?_ k (by omega)
    · intro k i _ hi
      have h1 := flatten_take L i hi
      have h2 := flatten_take_le L (i + 1)
      rw [h1, List.length_append] at h2
      simp only [slices_Concat_int_int.l1, rdL]
      rw [if_pos (by omega), if_pos (by omega), if_pos (by omega), if_pos (by omega), ← h1, wrap_succ hi (by omega)]
    · intro k _
      simp only [slices_Concat_int_int.l1]
      rw [if_neg (by omega), List.take_length]
def keyed (a : Int) (l : List Int) : Int := hash ([a] ++ l ++ [a])
theorem keyed1 (a : Int) (l : List Int) (hl : l.length ≤ 1048576) (k : Nat) (hk : l.length + 5 < k) : spec_KeyedHash.f k a l = some (keyed a l) := by
  unfold spec_KeyedHash.f
  rw [Option.bind_some, if_pos (by simp; omega), Option.bind_some, if_pos (by simp; omega), hash1 _ (by simp; omega) k (by simp; omega)]
  rfl
theorem keyed2 (a : Int) (l : List Int) (hl : l.length ≤ 1048576) (k : Nat) (hk : l.length + 20 < k) : impl_KeyedHash.f k a l = some (keyed a l) := by
  unfold impl_KeyedHash.f
  have hf : [[a], l, [a]].flatten = [a] ++ l ++ [a] := by simp
  rw [concat [[a], l, [a]] (by simp) (by rw [hf]; simp; omega) k (by simp; omega), Option.bind_some, hf, hash2 _ (by simp; omega) k (by simp; omega)]
  rfl
def isLog (l : List Int) : Bool := if (List.range l.length).all (fun i => decide (0 ≤ l.getD i 0 ∧ l.getD i 0 ≤ 99)) = true then decide ((l.length : Int) ≤ 8) else false
theorem numbers_idx (lo hi : Int) (l : List Int) : (!decide (0 ≤ impl_areNumbers.idx (impl_areNumbers.out lo hi) l)) = (List.range l.length).all (fun i => decide (lo ≤ l.getD i 0 ∧ l.getD i 0 ≤ hi)) := by
  unfold impl_areNumbers.idx
  cases hf : (List.range l.length).find? fun i => impl_areNumbers.out lo hi (l.getD i 0) with
  | none =>
    rw [List.find?_eq_none] at hf
    show (!decide (0 ≤ (-1 : Int))) = _
    rw [show (!decide (0 ≤ (-1 : Int))) = true from rfl, eq_comm, List.all_eq_true]
    intro i hi
    have := hf i hi
    unfold impl_areNumbers.out at this
    simpa using this
  | some i =>
    rw [List.find?_range_eq_some] at hf
    show (!decide (0 ≤ (i : Int))) = _
    rw [show (!decide (0 ≤ (i : Int))) = false by simp, eq_comm, ← Bool.not_eq_true, List.all_eq_true]
    intro h
    have h1 := h i hf.2.1
    have h2 := hf.1
    unfold impl_areNumbers.out at h2
    rw [h1] at h2
    cases h2
theorem isLog1 (l : List Int) (hl : l.length ≤ 1099511627776) (k : Nat) (hk : l.length < k) : spec_IsLog.f k l = some (isLog l) := by
  unfold spec_IsLog.f
  refine allLoop (fun k i => spec_IsLog.l0 k l i) l.length 0 (fun i => decide (0 ≤ l.getD i 0 ∧ l.getD i 0 ≤ 99)) false (decide ((l.length : Int) ≤ 8)) ?_ ?_ ?_ k (by omega)
  · intro k i _ hi hp
    simp only [spec_IsLog.l0, in1, rd_nat, Option.bind_some]
    rw [if_pos (by omega), if_pos (by omega), if_pos hp, wrap_succ hi hl]
  · intro k i _ hi hp
    simp only [spec_IsLog.l0, in1, rd_nat, Option.bind_some]
    rw [if_pos (by omega), if_pos (by omega), if_neg (by simpa using hp)]
  · intro k _
    simp only [spec_IsLog.l0]
    rw [if_neg (by omega)]
theorem isLog2 (l : List Int) : impl_IsLog.f l = some (isLog l) := by
  unfold impl_IsLog.f impl_areNumbers.f
  rw [numbers_idx]
  unfold isLog
  by_cases h : (l.length : Int) ≤ 8
  · rw [if_pos h, Option.bind_some, decide_eq_true h]
    cases (List.range l.length).all fun i => decide (0 ≤ l.getD i 0 ∧ l.getD i 0 ≤ 99) <;> rfl
  · rw [if_neg h, decide_eq_false h]
    cases (List.range l.length).all fun i => decide (0 ≤ l.getD i 0 ∧ l.getD i 0 ≤ 99) <;> rfl
def timeOk (t : Int) : Bool := decide (0 ≤ t ∧ t ≤ 10000)
theorem time1 (t : Int) : spec_IsTime.f t = some (timeOk t) := by
  simp only [spec_IsTime.f, in1, Option.bind_some]
  rfl
theorem time2 (t : Int) : impl_IsTime.f t = some (timeOk t) := by
  simp only [impl_IsTime.f, in2, Option.bind_some]
  rfl
def kindOk (m : Int) : Bool := decide (10 ≤ m ∧ m ≤ 49) && (wrap64 (Int.tdiv m 10) == 2)
theorem qkind1 (m : Int) : spec_HasKind.f m 2 = some (kindOk m) := by
  simp only [spec_HasKind.f, spec_IsName.f, in1, Option.bind_some, ite_and]
  rfl
theorem qkind2 (m : Int) : impl_HasKind.f m 2 = some (kindOk m) := by
  simp only [impl_HasKind.f, impl_KindOf.f, impl_IsName.f, in2, Option.bind_some]
  unfold kindOk
  by_cases h : 10 ≤ m ∧ m ≤ 49
  · simp only [decide_eq_true h, if_true, Option.bind_some, Bool.true_and]
  · simp only [decide_eq_false h, Bool.false_and]
    rfl
def quoteOk (s m : Int) (l : List Int) (t : Int) : Bool := decide (1 ≤ s ∧ s ≤ 2147483646) && (kindOk m && (isLog l && timeOk t))
def quote (s m : Int) (l : List Int) (n t : Int) : Int × Int × Int × Int × Int × Bool := if quoteOk s m l t = true then (m, register l, n, t, keyed s [m, register l, n, t], true) else (0, 0, 0, 0, 0, false)
theorem quote1 (s m : Int) (l : List Int) (n t : Int) (hl : l.length ≤ 1048576) (k : Nat) (hk : 4194304 < k) : spec_MakeQuote.f k s m l n t = some (quote s m l n t) := by
  obtain ⟨k, rfl⟩ : ∃ j, k = j + 1 := ⟨k - 1, by omega⟩
  simp only [spec_MakeQuote.f, spec_IsValidKey.f, in1, qkind1, time1, isLog1 l (by omega) (k + 1) (by omega), spec_MakeQuote.j0, register1 l (by omega) k (by omega), keyed1 s [m, register l, n, t] (by simp) k (by simp; omega), Option.bind_some]
  unfold quote quoteOk
  cases decide (1 ≤ s ∧ s ≤ 2147483646)
  · rfl
  cases kindOk m
  · rfl
  cases isLog l
  · rfl
  cases timeOk t <;> rfl
theorem quote2 (s m : Int) (l : List Int) (n t : Int) (hl : l.length ≤ 1048576) (k : Nat) (hk : 4194304 < k) : impl_MakeQuote.f k s m l n t = some (quote s m l n t) := by
  obtain ⟨k, rfl⟩ : ∃ j, k = j + 1 := ⟨k - 1, by omega⟩
  simp only [impl_MakeQuote.f, impl_IsValidKey.f, in2, qkind2, time2, isLog2, impl_MakeQuote.j0, register2 l (by omega) k (by omega), keyed2 s [m, register l, n, t] (by simp) k (by simp; omega), Option.bind_some]
  unfold quote quoteOk
  cases decide (1 ≤ s ∧ s ≤ 2147483646)
  · rfl
  cases kindOk m
  · rfl
  cases isLog l
  · rfl
  cases timeOk t <;> rfl
def ageOf (a b : Int) : Int := if timeOk a = true then if timeOk b = true then if a > b then -1 else wrap64 (b - a) else -1 else -1
theorem age1 (a b : Int) : spec_AgeOf.f a b = some (ageOf a b) := by
  simp only [spec_AgeOf.f, time1, Option.bind_some]
  unfold ageOf
  split
  · split
    · split <;> rfl
    · rfl
  · rfl
theorem age2 (a b : Int) : impl_AgeOf.f a b = some (ageOf a b) := by
  simp only [impl_AgeOf.f, time2, Option.bind_some]
  unfold ageOf
  split
  · split
    · split <;> rfl
    · rfl
  · rfl
theorem age_cases (a b : Int) : ageOf a b = -1 ∨ 0 ≤ ageOf a b := by
  unfold ageOf
  split
  · rename_i h1
    split
    · rename_i h2
      split
      · exact .inl rfl
      · have g1 := of_decide_eq_true (show decide (0 ≤ a ∧ a ≤ 10000) = true from h1)
        have g2 := of_decide_eq_true (show decide (0 ≤ b ∧ b ≤ 10000) = true from h2)
        rw [wrap_in (by omega) (by omega)]
        right
        omega
    · exact .inl rfl
  · exact .inl rfl
def fresh (a b g : Int) : Bool := decide (0 ≤ ageOf a b) && decide (ageOf a b ≤ g)
theorem fresh1 (a b g : Int) : spec_IsFresh.f a b g = some (fresh a b g) := by
  simp only [spec_IsFresh.f, age1, Option.bind_some]
  unfold fresh
  by_cases h : 0 ≤ ageOf a b
  · rw [if_pos (show ageOf a b ≥ 0 from h), decide_eq_true h, Bool.true_and]
  · rw [if_neg (show ¬ ageOf a b ≥ 0 from h), decide_eq_false h, Bool.false_and]
theorem fresh2 (a b g : Int) : impl_IsFresh.f a b g = some (fresh a b g) := by
  simp only [impl_IsFresh.f, age2, Option.bind_some]
  unfold fresh
  rcases age_cases a b with h | h
  · rw [if_pos h, decide_eq_false (by omega), Bool.false_and]
  · rw [if_neg (by omega), decide_eq_true h, Bool.true_and]
def checkQuote (s a b c d e : Int) (l : List Int) (n t g : Int) : Bool := (quote s a l n d).2.2.2.2.2 && (((quote s a l n d).1 == a && ((quote s a l n d).2.1 == b && ((quote s a l n d).2.2.1 == c && ((quote s a l n d).2.2.2.1 == d && ((quote s a l n d).2.2.2.2.1 == e))))) && fresh d t g)
theorem checkQuote1 (s a b c d e : Int) (l : List Int) (n t g : Int) (hl : l.length ≤ 1048576) (k : Nat) (hk : 4194304 < k) : spec_CheckQuote.f k s a b c d e l n t g = some (checkQuote s a b c d e l n t g) := by
  simp only [spec_CheckQuote.f, quote1 s a l n d hl k hk, fresh1, Option.bind_some, ite_and]
  rfl
theorem checkQuote2 (s a b c d e : Int) (l : List Int) (n t g : Int) (hl : l.length ≤ 1048576) (k : Nat) (hk : 4194304 < k) : impl_CheckQuote.f k s a b c d e l n t g = some (checkQuote s a b c d e l n t g) := by
  simp only [impl_CheckQuote.f, quote2 s a l n d hl k hk, fresh2, Option.bind_some, ite_and]
  rfl
def has (l : List Int) (n : Int) : Bool := (List.range l.length).any fun i => l.getD i 0 == n
theorem index2 (l : List Int) (n : Int) (hl : l.length ≤ 1099511627776) (k : Nat) (hk : l.length < k) : slices_Index_int_int.f k l n = some (((List.range l.length).find? fun i => l.getD i 0 == n).elim (-1) fun i => (i : Int)) := by
  unfold slices_Index_int_int.f
  refine findLoop (fun k i => slices_Index_int_int.l0 k l n (l.length : Int) i) l.length 0 (fun i => l.getD i 0 == n) (fun i => (i : Int)) (-1) ?_ ?_ ?_ k (by omega)
  · intro k i _ hi hp
    have hp' : ¬ l.getD i 0 = n := by simpa using hp
    simp only [slices_Index_int_int.l0, rd_nat]
    rw [if_pos (by omega), if_pos (by omega), if_pos (by omega), if_neg (fun h => hp' h.symm), wrap_succ hi hl]
  · intro k i _ hi hp
    have hp' : l.getD i 0 = n := by simpa using hp
    simp only [slices_Index_int_int.l0, rd_nat]
    rw [if_pos (by omega), if_pos (by omega), if_pos (by omega), if_pos hp'.symm]
  · intro k _
    simp only [slices_Index_int_int.l0]
    rw [if_neg (by omega)]
theorem has2 (l : List Int) (n : Int) (hl : l.length ≤ 1099511627776) (k : Nat) (hk : l.length < k) : slices_Contains_int_int.f k l n = some (has l n) := by
  unfold slices_Contains_int_int.f has
  rw [index2 l n hl k hk, Option.bind_some]
  congr 1
  cases hf : (List.range l.length).find? fun i => l.getD i 0 == n with
  | none =>
    rw [List.find?_eq_none] at hf
    show decide ((-1 : Int) ≥ 0) = _
    rw [eq_comm, show decide ((-1 : Int) ≥ 0) = false from rfl, List.any_eq_false]
    exact hf
  | some i =>
    rw [List.find?_range_eq_some] at hf
    show decide ((i : Int) ≥ 0) = _
    rw [eq_comm, decide_eq_true (show (i : Int) ≥ 0 by omega), List.any_eq_true]
    exact ⟨i, hf.2.1, hf.1⟩
theorem has1 (l : List Int) (n : Int) (hl : l.length ≤ 1099511627776) (k : Nat) (hk : l.length < k) : spec_l13Has.f k l n = some (has l n) := by
  unfold spec_l13Has.f has
  rw [findLoop (fun k i => spec_l13Has.l0 k l n i) l.length 0 (fun i => l.getD i 0 == n) (fun _ => true) false ?_ ?_ ?_ k (by omega)]
  · congr 1
    cases hf : (List.range l.length).find? fun i => l.getD i 0 == n with
    | none =>
      rw [List.find?_eq_none] at hf
      rw [eq_comm, show Option.elim none false (fun _ : Nat => true) = false from rfl, List.any_eq_false]
      exact hf
    | some i =>
      rw [List.find?_range_eq_some] at hf
      rw [eq_comm, show Option.elim (some i) false (fun _ : Nat => true) = true from rfl, List.any_eq_true]
      exact ⟨i, hf.2.1, hf.1⟩
  · intro k i _ hi hp
    have hp' : ¬ l.getD i 0 = n := by simpa using hp
    simp only [spec_l13Has.l0, rd_nat]
    rw [if_pos (by omega), if_pos (by omega), if_neg hp', wrap_succ hi hl]
  · intro k i _ hi hp
    have hp' : l.getD i 0 = n := by simpa using hp
    simp only [spec_l13Has.l0, rd_nat]
    rw [if_pos (by omega), if_pos (by omega), if_pos hp']
  · intro k _
    simp only [spec_l13Has.l0]
    rw [if_neg (by omega)]
def appOf (p q s : List Int) (n : Int) : Int := if has s n = true then 0 else if has q n = true then 2 else if has p n = true then 3 else 1
theorem one1 (a : Int) (p q s : List Int) (n : Int) (h1 : p.length ≤ 1048576) (h2 : q.length ≤ 1048576) (h3 : s.length ≤ 1048576) (k : Nat) (hk : 1048576 < k) : spec_AppraiseOne.f k a p q s n = some (appOf p q s n) := by
  simp only [spec_AppraiseOne.f, has1 p n (by omega) k (by omega), has1 q n (by omega) k (by omega), has1 s n (by omega) k (by omega), Option.bind_some, appOf]
  split
  · rfl
  · split
    · rfl
    · split <;> rfl
theorem one2 (a : Int) (p q s : List Int) (n : Int) (h1 : p.length ≤ 1048576) (h2 : q.length ≤ 1048576) (h3 : s.length ≤ 1048576) (k : Nat) (hk : 1048576 < k) : impl_AppraiseOne.f k a p q s n = some (appOf p q s n) := by
  simp only [impl_AppraiseOne.f, has2 p n (by omega) k (by omega), has2 q n (by omega) k (by omega), has2 s n (by omega) k (by omega), Option.bind_some, appOf]
  split
  · rfl
  · split
    · rfl
    · split <;> rfl
theorem log1 (a : Int) (p q s l : List Int) (h1 : p.length ≤ 1048576) (h2 : q.length ≤ 1048576) (h3 : s.length ≤ 1048576) (h4 : l.length ≤ 1048576) (k : Nat) (hk : 4194304 < k) : spec_AppraiseLog.f k a p q s l = some ((l.map (appOf p q s)).foldl mn 3) := by
  unfold spec_AppraiseLog.f
  refine run (fun k m i => spec_AppraiseLog.l0 k l m i a p q s) (fun i => ((l.take i).map (appOf p q s)).foldl mn 3) l.length 1048577 _ ?_ ?_ k (by omega)
  · intro k i hk hi
    simp only [spec_AppraiseLog.l0, rd_nat]
    rw [if_pos (by omega), if_pos (by omega), one1 a p q s _ h1 h2 h3 k (by omega), Option.bind_some, wrap_succ hi (by omega)]
    have e : ((l.take (i + 1)).map (appOf p q s)).foldl mn 3 = mn (((l.take i).map (appOf p q s)).foldl mn 3) (appOf p q s (l.getD i 0)) := by
      rw [List.take_succ_eq_append_getElem hi, List.map_append, List.foldl_append, getD_get l i 0 hi]
      rfl
    rw [e]
    generalize ((l.take i).map (appOf p q s)).foldl mn 3 = x
    generalize appOf p q s (l.getD i 0) = y
    have e2 : spec_Min.f x y = some (mn x y) := by
      unfold spec_Min.f mn
      by_cases h : y < x
      · rw [if_pos h]
        first
          | rw [if_pos h]
          | rw [if_neg (by omega)]
      · rw [if_neg h]
        first
          | rw [if_neg h]
          | rw [if_pos (by omega)]
    rw [e2, Option.bind_some]
  · intro k _
    simp only [spec_AppraiseLog.l0]
    rw [if_neg (by omega), List.take_of_length_le (Nat.le_refl _)]
theorem log2 (a : Int) (p q s l : List Int) (h1 : p.length ≤ 1048576) (h2 : q.length ≤ 1048576) (h3 : s.length ≤ 1048576) (h4 : l.length ≤ 1048576) (k : Nat) (hk : 4194304 < k) : impl_AppraiseLog.f k a p q s l = some ((l.map (appOf p q s)).foldl mn 3) := by
  unfold impl_AppraiseLog.f
  refine run (fun k m i => impl_AppraiseLog.l0 k m l (l.length : Int) i a p q s) (fun i => ((l.take i).map (appOf p q s)).foldl mn 3) l.length 1048577 _ ?_ ?_ k (by omega)
  · intro k i hk hi
    simp only [impl_AppraiseLog.l0, rd_nat]
    rw [if_pos (by omega), if_pos (by omega), if_pos (by omega), one2 a p q s _ h1 h2 h3 k (by omega), Option.bind_some, wrap_succ hi (by omega)]
    have e : ((l.take (i + 1)).map (appOf p q s)).foldl mn 3 = mn (((l.take i).map (appOf p q s)).foldl mn 3) (appOf p q s (l.getD i 0)) := by
      rw [List.take_succ_eq_append_getElem hi, List.map_append, List.foldl_append, getD_get l i 0 hi]
      rfl
    rw [e]
  · intro k _
    simp only [impl_AppraiseLog.l0]
    rw [if_neg (by omega), List.take_of_length_le (Nat.le_refl _)]
def hasKind (n k : Int) : Bool := decide (10 ≤ n ∧ n ≤ 49) && (wrap64 (Int.tdiv n 10) == k)
theorem kind1 (n k : Int) : spec_HasKind.f n k = some (hasKind n k) := by
  simp only [spec_HasKind.f, spec_IsName.f, in1, Option.bind_some, ite_and]
  rfl
theorem kind2 (n k : Int) : impl_HasKind.f n k = some (hasKind n k) := by
  simp only [impl_HasKind.f, impl_KindOf.f, impl_IsName.f, in2, Option.bind_some]
  unfold hasKind
  cases decide (10 ≤ n ∧ n ≤ 49) <;> rfl
def claimOk (a b c : Int) : Bool :=
  if a = 1 then hasKind b 1 && decide (0 ≤ c ∧ c ≤ 5) else if a = 2 then hasKind b 1 && hasKind c 2 else if a = 3 then hasKind b 2 && decide (0 ≤ c ∧ c ≤ 3) else if a = 4 then hasKind b 3 && decide (0 ≤ c ∧ c ≤ 3) else false
def isFact (a b c d e f : Int) : Bool := claimOk a b c && (decide (0 ≤ d ∧ d ≤ 9) && (timeOk e && (timeOk f && decide (e ≤ f))))
theorem fact1 (a b c d e f : Int) : spec_IsFact.f a b c d e f = some (isFact a b c d e f) := by
  simp only [spec_IsFact.f, kind1, in1, time1, Option.bind_some, ite_and]
  unfold isFact claimOk
  by_cases h1 : a = 1
  · simp only [if_pos h1, Bool.and_assoc]
  by_cases h2 : a = 2
  · simp only [if_neg h1, if_pos h2, Bool.and_assoc]
  by_cases h3 : a = 3
  · simp only [if_neg h1, if_neg h2, if_pos h3, Bool.and_assoc]
  by_cases h4 : a = 4
  · simp only [if_neg h1, if_neg h2, if_neg h3, if_pos h4, Bool.and_assoc]
  · simp only [if_neg h1, if_neg h2, if_neg h3, if_neg h4, Bool.false_and]
theorem fact2 (a b c d e f : Int) : impl_IsFact.f a b c d e f = some (isFact a b c d e f) := by
  simp only [impl_IsFact.f, impl_isClaim.f, kind2, in2, time2, Option.bind_some, ite_and]
  unfold isFact claimOk
  by_cases h1 : a = 1
  · simp only [if_pos h1, Option.bind_some, ite_and]
  by_cases h2 : a = 2
  · simp only [if_neg h1, if_pos h2, Option.bind_some, ite_and]
  by_cases h3 : a = 3
  · simp only [if_neg h1, if_neg h2, if_pos h3, Option.bind_some, ite_and]
  by_cases h4 : a = 4
  · simp only [if_neg h1, if_neg h2, if_neg h3, if_pos h4, Option.bind_some, ite_and]
  · simp only [if_neg h1, if_neg h2, if_neg h3, if_neg h4, Option.bind_some, ite_and]
def endOf (a s : Int) : Int := if timeOk a = true then (if timeOk s = true then (if a + s < 10000 then a + s else 10000) else 0) else 0
theorem endOf1 (a s : Int) : spec_EndOf.f a s = some (endOf a s) := by
  simp only [spec_EndOf.f, time1, Option.bind_some]
  unfold endOf
  by_cases h1 : timeOk a = true
  · rw [if_pos h1, if_pos h1]
    by_cases h2 : timeOk s = true
    · rw [if_pos h2, if_pos h2]
      unfold timeOk at h1 h2
      have g1 := of_decide_eq_true h1
      have g2 := of_decide_eq_true h2
      rw [wrap_in (by omega) (by omega)]
      unfold spec_Min.f
      by_cases h : a + s < 10000
      · rw [if_pos h, if_pos h]; rfl
      · rw [if_neg h, if_neg h]; rfl
    · rw [if_neg h2, if_neg h2]
  · rw [if_neg h1, if_neg h1]
theorem endOf2 (a s : Int) : impl_EndOf.f a s = some (endOf a s) := by
  simp only [impl_EndOf.f, time2, in2, Option.bind_some]
  unfold endOf
  by_cases h1 : timeOk a = true
  · rw [if_pos h1, if_pos h1]
    by_cases h2 : timeOk s = true
    · rw [if_pos h2, if_pos (by unfold timeOk at h2; exact h2)]
      unfold timeOk at h1 h2
      have g1 := of_decide_eq_true h1
      have g2 := of_decide_eq_true h2
      rw [wrap_in (by omega) (by omega)]
      unfold mn
      by_cases h : a + s < 10000
      · rw [if_neg (by omega), if_pos h]
      · rw [if_neg h]
        split
        · rfl
        · congr 1; omega
    · rw [if_neg h2, if_neg (by unfold timeOk at h2; exact h2)]
  · rw [if_neg h1, if_neg h1]
def health (p q s : List Int) (a b c d e f : Int) (l : List Int) (n t now : Int) : Int × Int × Int × Int × Int × Int × Bool := if checkQuote a b c d e f l n t 5 = true then (if isFact 3 b ((l.map (appOf p q s)).foldl mn 3) 1 t (endOf t now) = true then (3, b, (l.map (appOf p q s)).foldl mn 3, 1, t, endOf t now, true) else (0, 0, 0, 0, 0, 0, false)) else (0, 0, 0, 0, 0, 0, false)
theorem health1 (g : Int) (p q s : List Int) (a b c d e f : Int) (l : List Int) (n t now : Int) (h1 : p.length ≤ 1048576) (h2 : q.length ≤ 1048576) (h3 : s.length ≤ 1048576) (h4 : l.length ≤ 1048576) (k : Nat) (hk : 4194304 < k) : spec_HealthFact.f k g p q s a b c d e f l n t now = some (health p q s a b c d e f l n t now) := by
  simp only [spec_HealthFact.f, log1 g p q s l h1 h2 h3 h4 k hk, endOf1, checkQuote1 a b c d e f l n t 5 h4 k hk, fact1, Option.bind_some]
  unfold health
  split
  · split <;> rfl
  · rfl
theorem health2 (g : Int) (p q s : List Int) (a b c d e f : Int) (l : List Int) (n t now : Int) (h1 : p.length ≤ 1048576) (h2 : q.length ≤ 1048576) (h3 : s.length ≤ 1048576) (h4 : l.length ≤ 1048576) (k : Nat) (hk : 4194304 < k) : impl_HealthFact.f k g p q s a b c d e f l n t now = some (health p q s a b c d e f l n t now) := by
  simp only [impl_HealthFact.f, log2 g p q s l h1 h2 h3 h4 k hk, endOf2, checkQuote2 a b c d e f l n t 5 h4 k hk, fact2, Option.bind_some]
  unfold health
  split
  · split <;> rfl
  · rfl
theorem FnExactHealthFact : laws_FnExactHealthFact.Pure := by
  intro g p q s a b c d e f l n t now _ hp hq hs _ _ _ _ _ _ _ _ _ _
  suffices h : ∀ k, 4194306 < k → laws_FnExactHealthFact.f k g p q s a b c d e f l n t now = some true from ⟨4194307, h _ (by omega)⟩
  intro k hk
  unfold laws_FnExactHealthFact.f
  by_cases h4 : (l.length : Int) > 1048576
  · rw [if_pos h4]
  rw [if_neg h4]
  obtain ⟨r, hr, hc⟩ := szAllowed g p q s 1048576 (by omega) (by omega) hp.1 hq.1 hs.1
  rw [hr, Option.bind_some]
  by_cases hn : r < 0
  · rw [if_pos hn]
  obtain ⟨_, _, h1, h2, h3⟩ := hc.resolve_left hn
  rw [if_neg hn]
  obtain ⟨k, rfl⟩ : ∃ j, k = j + 1 := ⟨k - 1, by omega⟩
  simp only [toAllowed g p q s h1 h2 h3 (k + 1) (by omega), laws_toQuote.f, toIntS l (by omega) (k + 1) (by omega), health1 g p q s a b c d e f l n t now h1 h2 h3 (by omega) (k + 1) (by omega), health2 g p q s a b c d e f l n t now h1 h2 h3 (by omega) (k + 1) (by omega), laws_eqFact.f, Option.bind_some, if_true, bne_self_eq_false, laws_FnExactHealthFact.j0]
  simp only [toAllowed g p q s h1 h2 h3 k (by omega), eqAllowed_self g p q s h1 h2 h3 k (by omega), toIntS l (by omega) k (by omega), eqIntS_self l (by omega) k (by omega), Option.bind_some, if_true]
  first | done | rfl
end Go.Proofs.Ytlmhemcpkmjkiaa.Pure
