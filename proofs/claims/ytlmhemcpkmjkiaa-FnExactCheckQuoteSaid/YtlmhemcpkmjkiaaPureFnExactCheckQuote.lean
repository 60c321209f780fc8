/- FnExactCheckQuote: the program's CheckQuote answers what the reference's answers, for all arguments. Conditions: none. -/
import Derived.Test.YtlmhemcpkmjkiaaLib
import Derived.Test.YtlmhemcpkmjkiaaXFnExactCheckQuotex4
namespace Go.Proofs.Ytlmhemcpkmjkiaa.Pure
open Go.RowKit Go.Proofs.Ytlmhemcpkmjkiaa.XFnExactCheckQuote Go.Proofs.YtlmhemcpkmjkiaaW.PrintWords
set_option linter.unusedVariables false
set_option linter.unusedSimpArgs false
open Go.Proofs.YtlmhemcpkmjkiaaLib
theorem in1 (x y z : Int) : spec_l1In.f x y z = some (decide (y ≤ x ∧ x ≤ z)) := by
  unfold spec_l1In.f
  by_cases h : x ≥ y
  · rw [if_pos h]; simp [show y ≤ x from h]
  · rw [if_neg h]; simp; omega
theorem in2 (x y z : Int) : impl_InRange.f x y z = some (decide (y ≤ x ∧ x ≤ z)) := by
  unfold impl_InRange.f
  by_cases h : y ≤ x
  · rw [if_pos h]; simp [h]
  · rw [if_neg h]; simp; omega
def md (v : Int) : Int := Int.tmod (wrap64 (Int.tmod v 2147483647 + 2147483647)) 2147483647
def hstep (d v : Int) : Int := Int.tmod (wrap64 ((wrap64 ((wrap64 (d * 1000003)) + md v)) + 13)) 2147483647
def hash (l : List Int) : Int := l.foldl hstep 11
theorem mod1 (v : Int) : spec_Mod.f v 2147483647 = some (md v) := by
  simp [spec_Mod.f, in1, md]
theorem mod2 (v : Int) : impl_Mod.f v 2147483647 = some (md v) := by
  simp [impl_Mod.f, in2, md]
theorem hash1 (l : List Int) (hl : l.length ≤ 1099511627776) (k : Nat) (hk : l.length < k) : spec_Hash.f k l = some (hash l) := by
  unfold spec_Hash.f
  refine run (fun k s i => spec_Hash.l0 k l s i) (fun i => (l.take i).foldl hstep 11) l.length 0 (hash l) ?_ ?_ k (by omega)
  · intro k i _ hi
    simp only [spec_Hash.l0]
    rw [if_pos (by omega), if_pos (by omega), mod1, Option.bind_some, wrap_succ hi hl, rd_nat, foldl_take hstep 11 l i hi 0]
    rfl
  · intro k _
    simp only [spec_Hash.l0]
    rw [if_neg (by omega), List.take_length]
    rfl
theorem hash2 (l : List Int) (hl : l.length ≤ 1099511627776) (k : Nat) (hk : l.length < k) : impl_Hash.f k l = some (hash l) := by
  unfold impl_Hash.f
  refine run (fun k s i => impl_Hash.l0 k s l (l.length : Int) i) (fun i => (l.take i).foldl hstep 11) l.length 0 (hash l) ?_ ?_ k (by omega)
  · intro k i _ hi
    simp only [impl_Hash.l0]
    rw [if_pos (by omega), if_pos (by omega), if_pos (by omega), mod2, Option.bind_some, wrap_succ hi hl, rd_nat, foldl_take hstep 11 l i hi 0]
    rfl
  · intro k _
    simp only [impl_Hash.l0]
    rw [if_neg (by omega), List.take_length]
    rfl
def register (l : List Int) : Int := l.foldl (fun r m => hash [r, m]) 0
theorem extend1 (r m : Int) (k : Nat) (hk : 5 ≤ k) : spec_ExtendRegister.f k r m = some (hash [r, m]) := by
  simp only [spec_ExtendRegister.f, hash1 [r, m] (by simp) k (by simp; omega), Option.bind_some]
theorem extend2 (r m : Int) (k : Nat) (hk : 5 ≤ k) : impl_ExtendRegister.f k r m = some (hash [r, m]) := by
  simp only [impl_ExtendRegister.f, hash2 [r, m] (by simp) k (by simp; omega), Option.bind_some]
theorem register1 (l : List Int) (hl : l.length ≤ 1099511627776) (k : Nat) (hk : l.length + 5 < k) : spec_RegisterOf.f k l = some (register l) := by
  unfold spec_RegisterOf.f
  refine run (fun k s i => spec_RegisterOf.l0 k l s i) (fun i => (l.take i).foldl (fun r m => hash [r, m]) 0) l.length 5 (register l) ?_ ?_ k (by omega)
  · intro k i hB hi
    simp only [spec_RegisterOf.l0]
    rw [if_pos (by omega), if_pos (by omega), extend1 _ _ k hB, Option.bind_some, wrap_succ hi hl, rd_nat, foldl_take (fun r m => hash [r, m]) 0 l i hi 0]
  · intro k _
    simp only [spec_RegisterOf.l0]
    rw [if_neg (by omega), List.take_length]
    rfl
theorem register2 (l : List Int) (hl : l.length ≤ 1099511627776) (k : Nat) (hk : l.length + 5 < k) : impl_RegisterOf.f k l = some (register l) := by
  unfold impl_RegisterOf.f
  refine run (fun k s i => impl_RegisterOf.l0 k s l (l.length : Int) i) (fun i => (l.take i).foldl (fun r m => hash [r, m]) 0) l.length 5 (register l) ?_ ?_ k (by omega)
  · intro k i hB hi
    simp only [impl_RegisterOf.l0]
    rw [if_pos (by omega), if_pos (by omega), if_pos (by omega), extend2 _ _ k hB, Option.bind_some, wrap_succ hi hl, rd_nat, foldl_take (fun r m => hash [r, m]) 0 l i hi 0]
  · intro k _
    simp only [impl_RegisterOf.l0]
    rw [if_neg (by omega), List.take_length]
    rfl
theorem rdL (L : List (List Int)) (i : Nat) : rd_L1 L (i : Int) = L.getD i [] := by
  unfold rd_L1
  rw [Int.toNat_natCast]
theorem grow0 (n : Nat) (h : n ≤ 1099511627776) : slices_Grow_int_int.f [] (n : Int) = some [] := by
  unfold slices_Grow_int_int.f
  rw [if_pos ⟨rfl, by omega, by omega⟩]
theorem concat (L : List (List Int)) (hl : L.length ≤ 1048576) (ht : L.flatten.length ≤ 1099511627776) (k : Nat) (hk : 2 * L.length + 2 < k) : slices_Concat_int_int.f k L = some L.flatten := by
  unfold slices_Concat_int_int.f
  refine run (fun k s i => slices_Concat_int_int.l0 k L s L (L.length : Int) i) (fun i => ((L.take i).flatten.length : Int)) L.length (L.length + 1) L.flatten ?_ ?_ k (by omega)
  · intro k i _ hi
    have h1 := flatten_take L i hi
    have h2 := flatten_take_le L (i + 1)
    have h3 : ((L.take (i + 1)).flatten.length : Int) = ((L.take i).flatten.length : Int) + ((L.getD i []).length : Int) := by rw [h1, List.length_append]; omega
    have hw : wrap64 (((L.take i).flatten.length : Int) + ((L.getD i []).length : Int)) = ((L.take (i + 1)).flatten.length : Int) := by rw [h3]; exact wrap_in (by omega) (by omega)
    simp only [slices_Concat_int_int.l0, rdL]
    rw [if_pos (by omega), if_pos (by omega), if_pos (by omega), hw, if_neg (by omega), wrap_succ hi (by omega)]
  · intro k hk
    simp only [slices_Concat_int_int.l0]
    rw [if_neg (by omega), List.take_length, grow0 _ ht, Option.bind_some]
    refine run (fun k s i => slices_Concat_int_int.l1 k s L (L.length : Int) i) (fun i => (L.take i).flatten) L.length 0 L.flatten ?_ ?_ k (by omega)
    · intro k i _ hi
      have h1 := flatten_take L i hi
      have h2 := flatten_take_le L (i + 1)
      rw [h1, List.length_append] at h2
      simp only [slices_Concat_int_int.l1, rdL]
      rw [if_pos (by omega), if_pos (by omega), if_pos (by omega), if_pos (by omega), ← h1, wrap_succ hi (by omega)]
    · intro k _
      simp only [slices_Concat_int_int.l1]
      rw [if_neg (by omega), List.take_length]
def keyed (a : Int) (l : List Int) : Int := hash ([a] ++ l ++ [a])
theorem keyed1 (a : Int) (l : List Int) (hl : l.length ≤ 1048576) (k : Nat) (hk : l.length + 5 < k) : spec_KeyedHash.f k a l = some (keyed a l) := by
  unfold spec_KeyedHash.f
  rw [Option.bind_some, if_pos (by simp; omega), Option.bind_some, if_pos (by simp; omega), hash1 _ (by simp; omega) k (by simp; omega)]
  rfl
theorem keyed2 (a : Int) (l : List Int) (hl : l.length ≤ 1048576) (k : Nat) (hk : l.length + 20 < k) : impl_KeyedHash.f k a l = some (keyed a l) := by
  unfold impl_KeyedHash.f
  have hf : [[a], l, [a]].flatten = [a] ++ l ++ [a] := by simp
  rw [concat [[a], l, [a]] (by simp) (by rw [hf]; simp; omega) k (by simp; omega), Option.bind_some, hf, hash2 _ (by simp; omega) k (by simp; omega)]
  rfl
def isLog (l : List Int) : Bool := if (List.range l.length).all (fun i => decide (0 ≤ l.getD i 0 ∧ l.getD i 0 ≤ 99)) = true then decide ((l.length : Int) ≤ 8) else false
theorem numbers_idx (lo hi : Int) (l : List Int) : (!decide (0 ≤ impl_areNumbers.idx (impl_areNumbers.out lo hi) l)) = (List.range l.length).all (fun i => decide (lo ≤ l.getD i 0 ∧ l.getD i 0 ≤ hi)) := by
  unfold impl_areNumbers.idx
  cases hf : (List.range l.length).find? fun i => impl_areNumbers.out lo hi (l.getD i 0) with
  | none =>
    rw [List.find?_eq_none] at hf
    show (!decide (0 ≤ (-1 : Int))) = _
    rw [show (!decide (0 ≤ (-1 : Int))) = true from rfl, eq_comm, List.all_eq_true]
    intro i hi
    have := hf i hi
    unfold impl_areNumbers.out at this
    simpa using this
  | some i =>
    rw [List.find?_range_eq_some] at hf
    show (!decide (0 ≤ (i : Int))) = _
    rw [show (!decide (0 ≤ (i : Int))) = false by simp, eq_comm, ← Bool.not_eq_true, List.all_eq_true]
    intro h
    have h1 := h i hf.2.1
    have h2 := hf.1
    unfold impl_areNumbers.out at h2
    rw [h1] at h2
    cases h2
theorem isLog1 (l : List Int) (hl : l.length ≤ 1099511627776) (k : Nat) (hk : l.length < k) : spec_IsLog.f k l = some (isLog l) := by
  unfold spec_IsLog.f
  refine allLoop (fun k i => spec_IsLog.l0 k l i) l.length 0 (fun i => decide (0 ≤ l.getD i 0 ∧ l.getD i 0 ≤ 99)) false (decide ((l.length : Int) ≤ 8)) ?_ ?_ ?_ k (by omega)
  · intro k i _ hi hp
    simp only [spec_IsLog.l0, in1, rd_nat, Option.bind_some]
    rw [if_pos (by omega), if_pos (by omega), if_pos hp, wrap_succ hi hl]
  · intro k i _ hi hp
    simp only [spec_IsLog.l0, in1, rd_nat, Option.bind_some]
    rw [if_pos (by omega), if_pos (by omega), if_neg (by simpa using hp)]
  · intro k _
    simp only [spec_IsLog.l0]
    rw [if_neg (by omega)]
theorem isLog2 (l : List Int) : impl_IsLog.f l = some (isLog l) := by
  unfold impl_IsLog.f impl_areNumbers.f
  rw [numbers_idx]
  unfold isLog
  by_cases h : (l.length : Int) ≤ 8
  · rw [if_pos h, Option.bind_some, decide_eq_true h]
    cases (List.range l.length).all fun i => decide (0 ≤ l.getD i 0 ∧ l.getD i 0 ≤ 99) <;> rfl
  · rw [if_neg h, decide_eq_false h]
    cases (List.range l.length).all fun i => decide (0 ≤ l.getD i 0 ∧ l.getD i 0 ≤ 99) <;> rfl
def timeOk (t : Int) : Bool := decide (0 ≤ t ∧ t ≤ 10000)
theorem time1 (t : Int) : spec_IsTime.f t = some (timeOk t) := by
  simp only [spec_IsTime.f, in1, Option.bind_some]
  rfl
theorem time2 (t : Int) : impl_IsTime.f t = some (timeOk t) := by
  simp only [impl_IsTime.f, in2, Option.bind_some]
  rfl
def kindOk (m : Int) : Bool := decide (10 ≤ m ∧ m ≤ 49) && (wrap64 (Int.tdiv m 10) == 2)
theorem kind1 (m : Int) : spec_HasKind.f m 2 = some (kindOk m) := by
  simp only [spec_HasKind.f, spec_IsName.f, in1, Option.bind_some, ite_and]
  rfl
theorem kind2 (m : Int) : impl_HasKind.f m 2 = some (kindOk m) := by
  simp only [impl_HasKind.f, impl_KindOf.f, impl_IsName.f, in2, Option.bind_some]
  unfold kindOk
  by_cases h : 10 ≤ m ∧ m ≤ 49
  · simp only [decide_eq_true h, if_true, Option.bind_some, Bool.true_and]
  · simp only [decide_eq_false h, Bool.false_and]
    rfl
def quoteOk (s m : Int) (l : List Int) (t : Int) : Bool := decide (1 ≤ s ∧ s ≤ 2147483646) && (kindOk m && (isLog l && timeOk t))
def quote (s m : Int) (l : List Int) (n t : Int) : Int × Int × Int × Int × Int × Bool := if quoteOk s m l t = true then (m, register l, n, t, keyed s [m, register l, n, t], true) else (0, 0, 0, 0, 0, false)
theorem quote1 (s m : Int) (l : List Int) (n t : Int) (hl : l.length ≤ 1048576) (k : Nat) (hk : 4194304 < k) : spec_MakeQuote.f k s m l n t = some (quote s m l n t) := by
  obtain ⟨k, rfl⟩ : ∃ j, k = j + 1 := ⟨k - 1, by omega⟩
  simp only [spec_MakeQuote.f, spec_IsValidKey.f, in1, kind1, time1, isLog1 l (by omega) (k + 1) (by omega), spec_MakeQuote.j0, register1 l (by omega) k (by omega), keyed1 s [m, register l, n, t] (by simp) k (by simp; omega), Option.bind_some]
  unfold quote quoteOk
  cases decide (1 ≤ s ∧ s ≤ 2147483646)
  · rfl
  cases kindOk m
  · rfl
  cases isLog l
  · rfl
  cases timeOk t <;> rfl
theorem quote2 (s m : Int) (l : List Int) (n t : Int) (hl : l.length ≤ 1048576) (k : Nat) (hk : 4194304 < k) : impl_MakeQuote.f k s m l n t = some (quote s m l n t) := by
  obtain ⟨k, rfl⟩ : ∃ j, k = j + 1 := ⟨k - 1, by omega⟩
  simp only [impl_MakeQuote.f, impl_IsValidKey.f, in2, kind2, time2, isLog2, impl_MakeQuote.j0, register2 l (by omega) k (by omega), keyed2 s [m, register l, n, t] (by simp) k (by simp; omega), Option.bind_some]
  unfold quote quoteOk
  cases decide (1 ≤ s ∧ s ≤ 2147483646)
  · rfl
  cases kindOk m
  · rfl
  cases isLog l
  · rfl
  cases timeOk t <;> rfl
theorem toIntS (l : List Int) (hl : l.length ≤ 1099511627776) (k : Nat) (hk : l.length < k) : laws_toIntS.f k l = some l := by
  unfold laws_toIntS.f
  rw [if_pos (by omega), if_pos (by omega), Int.toNat_natCast]
  refine (run (fun k s i => laws_toIntS.l0 k l s i) (put (fun i => l.getD i 0) (List.replicate l.length 0)) l.length 0 l ?_ ?_ k (by omega))
  · intro k i _ hi
    have hlen : (put (fun i => l.getD i 0) (List.replicate l.length 0) i).length = l.length := by rw [put_length _ _ _ (by simp; omega), List.length_replicate]
    simp only [laws_toIntS.l0]
    rw [if_pos (by omega), if_pos (by omega), if_pos (by omega), wrap_succ hi hl, rd_nat, Int.toNat_natCast, put_set (fun i => l.getD i 0) _ i (by simp; omega)]
  · intro k _
    simp only [laws_toIntS.l0]
    rw [if_neg (by omega), put_all _ _ (by simp), map_range_getD']
theorem eqIntS_self (l : List Int) (hl : l.length ≤ 1099511627776) (k : Nat) (hk : l.length < k) : laws_eqIntS.f k l l = some true := by
  unfold laws_eqIntS.f
  rw [if_pos rfl]
  refine run (fun k (_ : Unit) i => laws_eqIntS.l0 k l l i) (fun _ => ()) l.length 0 true ?_ ?_ k (by omega)
  · intro k i _ hi
    simp only [laws_eqIntS.l0]
    rw [if_pos (by omega), if_pos (by omega), if_pos (by omega), if_pos trivial, wrap_succ hi hl]
  · intro k _
    simp only [laws_eqIntS.l0]
    rw [if_neg (by omega)]
def ageOf (a b : Int) : Int := if timeOk a = true then if timeOk b = true then if a > b then -1 else wrap64 (b - a) else -1 else -1
theorem age1 (a b : Int) : spec_AgeOf.f a b = some (ageOf a b) := by
  simp only [spec_AgeOf.f, time1, Option.bind_some]
  unfold ageOf
  split
  · split
    · split <;> rfl
    · rfl
  · rfl
theorem age2 (a b : Int) : impl_AgeOf.f a b = some (ageOf a b) := by
  simp only [impl_AgeOf.f, time2, Option.bind_some]
  unfold ageOf
  split
  · split
    · split <;> rfl
    · rfl
  · rfl
theorem age_cases (a b : Int) : ageOf a b = -1 ∨ 0 ≤ ageOf a b := by
  unfold ageOf
  split
  · rename_i h1
    split
    · rename_i h2
      split
      · exact .inl rfl
      · have g1 := of_decide_eq_true (show decide (0 ≤ a ∧ a ≤ 10000) = true from h1)
        have g2 := of_decide_eq_true (show decide (0 ≤ b ∧ b ≤ 10000) = true from h2)
        rw [wrap_in (by omega) (by omega)]
        right
        omega
    · exact .inl rfl
  · exact .inl rfl
def fresh (a b g : Int) : Bool := decide (0 ≤ ageOf a b) && decide (ageOf a b ≤ g)
theorem fresh1 (a b g : Int) : spec_IsFresh.f a b g = some (fresh a b g) := by
  simp only [spec_IsFresh.f, age1, Option.bind_some]
  unfold fresh
  by_cases h : 0 ≤ ageOf a b
  · rw [if_pos (show ageOf a b ≥ 0 from h), decide_eq_true h, Bool.true_and]
  · rw [if_neg (show ¬ ageOf a b ≥ 0 from h), decide_eq_false h, Bool.false_and]
theorem fresh2 (a b g : Int) : impl_IsFresh.f a b g = some (fresh a b g) := by
  simp only [impl_IsFresh.f, age2, Option.bind_some]
  unfold fresh
  rcases age_cases a b with h | h
  · rw [if_pos h, decide_eq_false (by omega), Bool.false_and]
  · rw [if_neg (by omega), decide_eq_true h, Bool.true_and]
def checkQuote (s a b c d e : Int) (l : List Int) (n t g : Int) : Bool := (quote s a l n d).2.2.2.2.2 && (((quote s a l n d).1 == a && ((quote s a l n d).2.1 == b && ((quote s a l n d).2.2.1 == c && ((quote s a l n d).2.2.2.1 == d && ((quote s a l n d).2.2.2.2.1 == e))))) && fresh d t g)
theorem checkQuote1 (s a b c d e : Int) (l : List Int) (n t g : Int) (hl : l.length ≤ 1048576) (k : Nat) (hk : 4194304 < k) : spec_CheckQuote.f k s a b c d e l n t g = some (checkQuote s a b c d e l n t g) := by
  simp only [spec_CheckQuote.f, quote1 s a l n d hl k hk, fresh1, Option.bind_some, ite_and]
  rfl
theorem checkQuote2 (s a b c d e : Int) (l : List Int) (n t g : Int) (hl : l.length ≤ 1048576) (k : Nat) (hk : 4194304 < k) : impl_CheckQuote.f k s a b c d e l n t g = some (checkQuote s a b c d e l n t g) := by
  simp only [impl_CheckQuote.f, quote2 s a l n d hl k hk, fresh2, Option.bind_some, ite_and]
  rfl
theorem FnExactCheckQuote : laws_FnExactCheckQuote.Pure := by
  intro s a b c d e l n t g _ _ _ _ _ _ _ _ _ _
  suffices h : ∀ k, 4194305 < k → laws_FnExactCheckQuote.f k s a b c d e l n t g = some true from ⟨4194306, h _ (by omega)⟩
  intro k hk
  unfold laws_FnExactCheckQuote.f
  by_cases hl : (l.length : Int) > 1048576
  · rw [if_pos hl]
  rw [if_neg hl]
  simp only [laws_toQuote.f, toIntS l (by omega) k (by omega), checkQuote1 s a b c d e l n t g (by omega) k (by omega), checkQuote2 s a b c d e l n t g (by omega) k (by omega), eqIntS_self l (by omega) k (by omega), Option.bind_some, if_true, bne_self_eq_false]
  rfl
end Go.Proofs.Ytlmhemcpkmjkiaa.Pure
