/- FnExactTakeStated: the program's TakeStated answers what the reference's answers, for all lists; it leaves what it is given, and what it returns is new memory. Conditions: none. -/
import Derived.Test.YtabpgiebhgkfhaaUFnExactTakeStatedLib
import Derived.Test.YtabpgiebhgkfhaaUFnExactTakeStatedx21
namespace Go.Proofs.Ytabpgiebhgkfhaa.Pure
open Go.RowKit Go.Proofs.Ytabpgiebhgkfhaa.XFnExactTakeStated Go.Proofs.YtabpgiebhgkfhaaW.PrintWords
set_option linter.unusedVariables false
set_option linter.unusedSimpArgs false
open Go.Proofs.YtabpgiebhgkfhaaLib
theorem rdT53 (l : List S53) (i : Nat) : rd_T53 l (i : Int) = l.getD i z53 := by
  unfold rd_T53
  rw [Int.toNat_natCast]
theorem rdT55 (l : List S55) (i : Nat) : rd_T55 l (i : Int) = l.getD i z55 := by
  unfold rd_T55
  rw [Int.toNat_natCast]
theorem szFact (l : List S53) (a : Int) (h0 : 0 ≤ a) (h1 : a ≤ 1048576) (hl : l.length ≤ maxLen) : laws_szFactS.f l a = some (if (l.length : Int) ≤ a then a - (l.length : Int) else -1) := by
  unfold maxLen at hl
  unfold laws_szFactS.f
  rw [wrap_in (by omega) (by omega)]
  by_cases h : (l.length : Int) ≤ a
  · rw [if_pos h, if_neg (by omega)]
  · rw [if_neg h, if_pos (by omega)]
def cvFact (x : S53) : S55 := ⟨x.f0, x.f1, x.f2, x.f3, x.f4, x.f5⟩
theorem toFact (l : List S53) (hl : l.length ≤ 1048576) (k : Nat) (hk : l.length < k) : laws_toFactS.f k l = some (l.map cvFact) := by
  unfold laws_toFactS.f
  rw [if_pos (by omega), if_pos (by omega), Int.toNat_natCast]
  refine (run (fun k s i => laws_toFactS.l0 k l s i) (put (fun i => (⟨(l.getD i z53).f0, (l.getD i z53).f1, (l.getD i z53).f2, (l.getD i z53).f3, (l.getD i z53).f4, (l.getD i z53).f5⟩ : S55)) (List.replicate l.length z55)) l.length 0 (l.map cvFact) ?_ ?_ k (by omega))
  · intro k i _ hi
    have hlen : (put (fun i => (⟨(l.getD i z53).f0, (l.getD i z53).f1, (l.getD i z53).f2, (l.getD i z53).f3, (l.getD i z53).f4, (l.getD i z53).f5⟩ : S55)) (List.replicate l.length z55) i).length = l.length := by rw [put_length _ _ _ (by simp; omega), List.length_replicate]
    simp only [laws_toFactS.l0, laws_toFact.f, Option.bind_some, rdT53]
    rw [if_pos (by omega), if_pos (by omega), if_pos (by omega), wrap_succ hi (by omega), Int.toNat_natCast, put_set (fun i => (⟨(l.getD i z53).f0, (l.getD i z53).f1, (l.getD i z53).f2, (l.getD i z53).f3, (l.getD i z53).f4, (l.getD i z53).f5⟩ : S55)) _ i (by simp; omega)]
  · intro k _
    simp only [laws_toFactS.l0]
    rw [if_neg (by omega), put_all _ _ (by simp), map_range_getD l z53 (fun x => (⟨x.f0, x.f1, x.f2, x.f3, x.f4, x.f5⟩ : S55))]
    rfl
theorem eqFact_self (l : List S55) (hl : l.length ≤ 1099511627776) (k : Nat) (hk : l.length < k) : laws_eqFactS.f k l l = some true := by
  unfold laws_eqFactS.f
  rw [if_pos rfl]
  refine run (fun k (_ : Unit) i => laws_eqFactS.l0 k l l i) (fun _ => ()) l.length 0 true ?_ ?_ k (by omega)
  · intro k i _ hi
    simp only [laws_eqFactS.l0, laws_eqFact.f, Option.bind_some, if_true]
    rw [if_pos (by omega), if_pos (by omega), if_pos (by omega), wrap_succ hi hl]
  · intro k _
    simp only [laws_eqFactS.l0]
    rw [if_neg (by omega)]
def markedFact (a : Int) (n : Nat) : List S55 := (List.range n).map (fun i : Nat => (⟨(a + 6 * (i : Int)), (a + 6 * (i : Int)) + 1, (a + 6 * (i : Int)) + 1 + 1, (a + 6 * (i : Int)) + 1 + 1 + 1, (a + 6 * (i : Int)) + 1 + 1 + 1 + 1, (a + 6 * (i : Int)) + 1 + 1 + 1 + 1 + 1⟩ : S55))
theorem markFact (l : List S55) (hl : l.length ≤ 1099511627776) (a : Int) (ha : 0 ≤ a) (ha2 : a ≤ 1099511627776) (k : Nat) (hk : l.length < k) : laws_markFactS.f k l a = some (a + 6 * (l.length : Int), markedFact a l.length) := by
  unfold laws_markFactS.f
  have h := run (fun k (s : List S55 × Int) i => laws_markFactS.l0 k s.1 s.2 i) (fun i => (put (fun i : Nat => (⟨(a + 6 * (i : Int)), (a + 6 * (i : Int)) + 1, (a + 6 * (i : Int)) + 1 + 1, (a + 6 * (i : Int)) + 1 + 1 + 1, (a + 6 * (i : Int)) + 1 + 1 + 1 + 1, (a + 6 * (i : Int)) + 1 + 1 + 1 + 1 + 1⟩ : S55)) l i, (a + 6 * (i : Int)))) l.length 0 (a + 6 * (l.length : Int), markedFact a l.length) ?_ ?_ k (by omega)
  · simpa [put_zero] using h
  · intro k i _ hi
    have hlen : (put (fun i : Nat => (⟨(a + 6 * (i : Int)), (a + 6 * (i : Int)) + 1, (a + 6 * (i : Int)) + 1 + 1, (a + 6 * (i : Int)) + 1 + 1 + 1, (a + 6 * (i : Int)) + 1 + 1 + 1 + 1, (a + 6 * (i : Int)) + 1 + 1 + 1 + 1 + 1⟩ : S55)) l i).length = l.length := put_length _ _ _ (by omega)
    have hlt : i < (put (fun i : Nat => (⟨(a + 6 * (i : Int)), (a + 6 * (i : Int)) + 1, (a + 6 * (i : Int)) + 1 + 1, (a + 6 * (i : Int)) + 1 + 1 + 1, (a + 6 * (i : Int)) + 1 + 1 + 1 + 1, (a + 6 * (i : Int)) + 1 + 1 + 1 + 1 + 1⟩ : S55)) l i).length := by omega
    have w0 : wrap64 ((a + 6 * (i : Int)) + 1) = (a + 6 * (i : Int)) + 1 := wrap_in (by omega) (by omega)
    have w1 : wrap64 ((a + 6 * (i : Int)) + 1 + 1) = (a + 6 * (i : Int)) + 1 + 1 := wrap_in (by omega) (by omega)
    have w2 : wrap64 ((a + 6 * (i : Int)) + 1 + 1 + 1) = (a + 6 * (i : Int)) + 1 + 1 + 1 := wrap_in (by omega) (by omega)
    have w3 : wrap64 ((a + 6 * (i : Int)) + 1 + 1 + 1 + 1) = (a + 6 * (i : Int)) + 1 + 1 + 1 + 1 := wrap_in (by omega) (by omega)
    have w4 : wrap64 ((a + 6 * (i : Int)) + 1 + 1 + 1 + 1 + 1) = (a + 6 * (i : Int)) + 1 + 1 + 1 + 1 + 1 := wrap_in (by omega) (by omega)
    have w5 : wrap64 ((a + 6 * (i : Int)) + 1 + 1 + 1 + 1 + 1 + 1) = (a + 6 * (i : Int)) + 1 + 1 + 1 + 1 + 1 + 1 := wrap_in (by omega) (by omega)
    have wn : (a + 6 * (i : Int)) + 1 + 1 + 1 + 1 + 1 + 1 = a + 6 * ((i + 1 : Nat) : Int) := by omega
    simp only [laws_markFactS.l0, Option.bind_some, Int.toNat_natCast, rdT55, List.set_set, getD_set_self _ _ _ _ hlt]
    rw [if_pos (by omega), if_pos (by omega), wrap_succ hi hl]
    simp only [w0, w1, w2, w3, w4, w5]
    rw [wn, put_set (fun i : Nat => (⟨(a + 6 * (i : Int)), (a + 6 * (i : Int)) + 1, (a + 6 * (i : Int)) + 1 + 1, (a + 6 * (i : Int)) + 1 + 1 + 1, (a + 6 * (i : Int)) + 1 + 1 + 1 + 1, (a + 6 * (i : Int)) + 1 + 1 + 1 + 1 + 1⟩ : S55)) l i (by omega)]
  · intro k _
    simp only [laws_markFactS.l0]
    rw [if_neg (by rw [put_length _ _ _ (Nat.le_refl _)]; omega), put_all _ _ rfl]
    rfl
theorem heldFact (n : Nat) (hl : n ≤ 1099511627776) (a : Int) (ha : 0 ≤ a) (ha2 : a ≤ 1099511627776) (k : Nat) (hk : n < k) : laws_heldFactS.f k (markedFact a n) a = some (a + 6 * (n : Int)) := by
  have hn : (markedFact a n).length = n := by simp [markedFact]
  unfold laws_heldFactS.f
  have h := run (fun k s i => laws_heldFactS.l0 k (markedFact a n) s i) (fun i => (a + 6 * (i : Int))) n 0 (a + 6 * (n : Int)) ?_ ?_ k (by omega)
  · simpa using h
  · intro k i _ hi
    have hg : (markedFact a n).getD i z55 = (fun i : Nat => (⟨(a + 6 * (i : Int)), (a + 6 * (i : Int)) + 1, (a + 6 * (i : Int)) + 1 + 1, (a + 6 * (i : Int)) + 1 + 1 + 1, (a + 6 * (i : Int)) + 1 + 1 + 1 + 1, (a + 6 * (i : Int)) + 1 + 1 + 1 + 1 + 1⟩ : S55)) i := getD_map_range (fun i : Nat => (⟨(a + 6 * (i : Int)), (a + 6 * (i : Int)) + 1, (a + 6 * (i : Int)) + 1 + 1, (a + 6 * (i : Int)) + 1 + 1 + 1, (a + 6 * (i : Int)) + 1 + 1 + 1 + 1, (a + 6 * (i : Int)) + 1 + 1 + 1 + 1 + 1⟩ : S55)) n i hi z55
    have w0 : wrap64 ((a + 6 * (i : Int)) + 1) = (a + 6 * (i : Int)) + 1 := wrap_in (by omega) (by omega)
    have w1 : wrap64 ((a + 6 * (i : Int)) + 1 + 1) = (a + 6 * (i : Int)) + 1 + 1 := wrap_in (by omega) (by omega)
    have w2 : wrap64 ((a + 6 * (i : Int)) + 1 + 1 + 1) = (a + 6 * (i : Int)) + 1 + 1 + 1 := wrap_in (by omega) (by omega)
    have w3 : wrap64 ((a + 6 * (i : Int)) + 1 + 1 + 1 + 1) = (a + 6 * (i : Int)) + 1 + 1 + 1 + 1 := wrap_in (by omega) (by omega)
    have w4 : wrap64 ((a + 6 * (i : Int)) + 1 + 1 + 1 + 1 + 1) = (a + 6 * (i : Int)) + 1 + 1 + 1 + 1 + 1 := wrap_in (by omega) (by omega)
    have w5 : wrap64 ((a + 6 * (i : Int)) + 1 + 1 + 1 + 1 + 1 + 1) = (a + 6 * (i : Int)) + 1 + 1 + 1 + 1 + 1 + 1 := wrap_in (by omega) (by omega)
    have wn : (a + 6 * (i : Int)) + 1 + 1 + 1 + 1 + 1 + 1 = a + 6 * ((i + 1 : Nat) : Int) := by omega
    simp only [laws_heldFactS.l0, rdT55, hg]
    simp only [w0, w1, w2, w3, w4, w5, if_true]
    rw [if_pos (by omega), if_pos (by omega), wrap_succ hi hl, wn]
  · intro k _
    simp only [laws_heldFactS.l0]
    rw [if_neg (by omega)]
theorem in1 (x y z : Int) : spec_l1In.f x y z = some (decide (y ≤ x ∧ x ≤ z)) := by
  unfold spec_l1In.f
  by_cases h : x ≥ y
  · rw [if_pos h]; simp [show y ≤ x from h]
  · rw [if_neg h]; simp; omega
theorem in2 (x y z : Int) : impl_InRange.f x y z = some (decide (y ≤ x ∧ x ≤ z)) := by
  unfold impl_InRange.f
  by_cases h : y ≤ x
  · rw [if_pos h]; simp [h]
  · rw [if_neg h]; simp; omega
def md (v : Int) : Int := Int.tmod (wrap64 (Int.tmod v 2147483647 + 2147483647)) 2147483647
def hstep (d v : Int) : Int := Int.tmod (wrap64 ((wrap64 ((wrap64 (d * 1000003)) + md v)) + 13)) 2147483647
def hash (l : List Int) : Int := l.foldl hstep 11
theorem mod1 (v : Int) : spec_Mod.f v 2147483647 = some (md v) := by
  simp [spec_Mod.f, in1, md]
theorem mod2 (v : Int) : impl_Mod.f v 2147483647 = some (md v) := by
  simp [impl_Mod.f, in2, md]
theorem hash1 (l : List Int) (hl : l.length ≤ 1099511627776) (k : Nat) (hk : l.length < k) : spec_Hash.f k l = some (hash l) := by
  unfold spec_Hash.f
  refine run (fun k s i => spec_Hash.l0 k l s i) (fun i => (l.take i).foldl hstep 11) l.length 0 (hash l) ?_ ?_ k (by omega)
  · intro k i _ hi
    simp only [spec_Hash.l0]
    rw [if_pos (by omega), if_pos (by omega), mod1, Option.bind_some, wrap_succ hi hl, rd_nat, foldl_take hstep 11 l i hi 0]
    rfl
  · intro k _
    simp only [spec_Hash.l0]
    rw [if_neg (by omega), List.take_length]
    rfl
theorem hash2 (l : List Int) (hl : l.length ≤ 1099511627776) (k : Nat) (hk : l.length < k) : impl_Hash.f k l = some (hash l) := by
  unfold impl_Hash.f
  refine run (fun k s i => impl_Hash.l0 k s l (l.length : Int) i) (fun i => (l.take i).foldl hstep 11) l.length 0 (hash l) ?_ ?_ k (by omega)
  · intro k i _ hi
    simp only [impl_Hash.l0]
    rw [if_pos (by omega), if_pos (by omega), if_pos (by omega), mod2, Option.bind_some, wrap_succ hi hl, rd_nat, foldl_take hstep 11 l i hi 0]
    rfl
  · intro k _
    simp only [impl_Hash.l0]
    rw [if_neg (by omega), List.take_length]
    rfl
theorem rdL (L : List (List Int)) (i : Nat) : rd_L1 L (i : Int) = L.getD i [] := by
  unfold rd_L1
  rw [Int.toNat_natCast]
theorem grow0 (n : Nat) (h : n ≤ 1099511627776) : slices_Grow_int_int.f [] (n : Int) = some [] := by
  unfold slices_Grow_int_int.f
  rw [if_pos ⟨rfl, by omega, by omega⟩]
theorem concat (L : List (List Int)) (hl : L.length ≤ 1048576) (ht : L.flatten.length ≤ 1099511627776) (k : Nat) (hk : 2 * L.length + 2 < k) : slices_Concat_int_int.f k L = some L.flatten := by
  unfold slices_Concat_int_int.f
  refine run (fun k s i => slices_Concat_int_int.l0 k L s L (L.length : Int) i) (fun i => ((L.take i).flatten.length : Int)) L.length (L.length + 1) L.flatten ?_ ?_ k (by omega)
  · intro k i _ hi
    have h1 := flatten_take L i hi
    have h2 := flatten_take_le L (i + 1)
    have h3 : ((L.take (i + 1)).flatten.length : Int) = ((L.take i).flatten.length : Int) + ((L.getD i []).length : Int) := by rw [h1, List.length_append]; omega
    have hw : wrap64 (((L.take i).flatten.length : Int) + ((L.getD i []).length : Int)) = ((L.take (i + 1)).flatten.length : Int) := by rw [h3]; exact wrap_in (by omega) (by omega)
    simp only [slices_Concat_int_int.l0, rdL]
    rw [if_pos (by omega), if_pos (by omega), if_pos (by omega), hw, if_neg (by omega), wrap_succ hi (by omega)]
  · intro k hk
    simp only [slices_Concat_int_int.l0]
    rw [if_neg (by omega), List.take_length, grow0 _ ht, Option.bind_some]
    refine run (fun k s i => slices_Concat_int_int.l1 k s L (L.length : Int) i) (fun i => (L.take i).flatten) L.length 0 L.flatten ?_ ?_ k (by omega)
    · intro k i _ hi
      have h1 := flatten_take L i hi
      have h2 := flatten_take_le L (i + 1)
      rw [h1, List.length_append] at h2
      simp only [slices_Concat_int_int.l1, rdL]
      rw [if_pos (by omega), if_pos (by omega), if_pos (by omega), if_pos (by omega), ← h1, wrap_succ hi (by omega)]
    · intro k _
      simp only [slices_Concat_int_int.l1]
      rw [if_neg (by omega), List.take_length]
def keyed (a : Int) (l : List Int) : Int := hash ([a] ++ l ++ [a])
theorem keyed1 (a : Int) (l : List Int) (hl : l.length ≤ 1048576) (k : Nat) (hk : l.length + 5 < k) : spec_KeyedHash.f k a l = some (keyed a l) := by
  unfold spec_KeyedHash.f
  rw [Option.bind_some, if_pos (by simp; omega), Option.bind_some, if_pos (by simp; omega), hash1 _ (by simp; omega) k (by simp; omega)]
  rfl
theorem keyed2 (a : Int) (l : List Int) (hl : l.length ≤ 1048576) (k : Nat) (hk : l.length + 20 < k) : impl_KeyedHash.f k a l = some (keyed a l) := by
  unfold impl_KeyedHash.f
  have hf : [[a], l, [a]].flatten = [a] ++ l ++ [a] := by simp
  rw [concat [[a], l, [a]] (by simp) (by rw [hf]; simp; omega) k (by simp; omega), Option.bind_some, hf, hash2 _ (by simp; omega) k (by simp; omega)]
  rfl
def ascAt (l : List Int) (lo hi : Int) (i : Nat) : Bool := decide (lo ≤ l.getD i 0 ∧ l.getD i 0 ≤ hi) && (decide (i = 0) || decide (l.getD (i - 1) 0 < l.getD i 0))
def asc (l : List Int) (lo hi : Int) : Bool := (List.range l.length).all (ascAt l lo hi)
theorem asc2 (l : List Int) (lo hi : Int) (hl : l.length ≤ 1099511627776) (k : Nat) (hk : l.length < k) : impl_isAscending.f k l lo hi = some (asc l lo hi) := by
  unfold impl_isAscending.f
  rw [allLoop (fun k i => impl_isAscending.l0 k l lo hi l (l.length : Int) i) l.length 0 (ascAt l lo hi) false true ?_ ?_ ?_ k (by omega)]
  · unfold asc
    cases (List.range l.length).all (ascAt l lo hi) <;> rfl
  · intro k i _ hi' hp
    simp only [ascAt, Bool.and_eq_true, Bool.or_eq_true, decide_eq_true_eq] at hp
    simp only [impl_isAscending.l0, in2, rd_nat, Option.bind_some, decide_eq_true_eq]
    rw [if_pos (by omega), if_pos (by omega), if_pos (by omega), if_pos hp.1, wrap_succ hi' hl]
    rcases Nat.eq_zero_or_pos i with h0 | h0
    · rw [if_neg (by omega)]
    · rw [if_pos (by omega), wrap_pred h0 hi' hl, rd_nat, if_pos (by omega), if_pos (by omega), if_neg (by omega)]
  · intro k i _ hi' hp
    simp only [impl_isAscending.l0, in2, rd_nat, Option.bind_some, decide_eq_true_eq]
    rw [if_pos (by omega), if_pos (by omega), if_pos (by omega)]
    by_cases h1 : lo ≤ l.getD i 0 ∧ l.getD i 0 ≤ hi
    · rw [if_pos h1]
      unfold ascAt at hp
      rw [decide_eq_true h1] at hp
      simp only [Bool.true_and, Bool.or_eq_false_iff, decide_eq_false_iff_not] at hp
      rw [if_pos (by omega), wrap_pred (by omega) hi' hl, rd_nat, if_pos (by omega), if_pos (by omega), if_pos (by omega)]
    · rw [if_neg h1]
  · intro k _
    simp only [impl_isAscending.l0]
    rw [if_neg (by omega)]
def isIssuer (a : Int) (l : List Int) (c : Int) : Bool := decide (0 ≤ a ∧ a ≤ 9) && (asc l 1 4 && decide (1 ≤ c ∧ c ≤ 2147483646))
theorem issuer2 (a : Int) (l : List Int) (c : Int) (hl : l.length ≤ 1099511627776) (k : Nat) (hk : l.length < k) : impl_IsIssuer.f k a l c = some (isIssuer a l c) := by
  simp only [impl_IsIssuer.f, impl_IsValidKey.f, in2, asc2 l 1 4 hl k hk, Option.bind_some, ite_and]
  rfl
theorem issuer1 (a : Int) (l : List Int) (c : Int) (hl : l.length ≤ 1099511627776) (k : Nat) (hk : l.length < k) : spec_IsIssuer.f k a l c = some (isIssuer a l c) := by
  unfold spec_IsIssuer.f
  rw [allLoop (fun k i => spec_IsIssuer.l0 k i a l c) l.length 0 (ascAt l 1 4) false (decide (0 ≤ a ∧ a ≤ 9) && decide (1 ≤ c ∧ c ≤ 2147483646)) ?_ ?_ ?_ k (by omega)]
  · unfold isIssuer asc
    cases (List.range l.length).all (ascAt l 1 4) <;> simp
  · intro k i _ hi' hp
    simp only [ascAt, Bool.and_eq_true, Bool.or_eq_true, decide_eq_true_eq] at hp
    simp only [spec_IsIssuer.l0, in1, rd_nat, Option.bind_some, decide_eq_true_eq]
    rw [if_pos (by omega), if_pos (by omega), if_pos hp.1, wrap_succ hi' hl]
    rcases Nat.eq_zero_or_pos i with h0 | h0
    · rw [if_neg (by omega)]
    · rw [if_pos (by omega), wrap_pred h0 hi' hl, rd_nat, if_pos (by omega), if_pos (by omega), if_neg (by omega)]
  · intro k i _ hi' hp
    simp only [spec_IsIssuer.l0, in1, rd_nat, Option.bind_some, decide_eq_true_eq]
    rw [if_pos (by omega), if_pos (by omega)]
    by_cases h1 : 1 ≤ l.getD i 0 ∧ l.getD i 0 ≤ 4
    · rw [if_pos h1]
      unfold ascAt at hp
      rw [decide_eq_true h1] at hp
      simp only [Bool.true_and, Bool.or_eq_false_iff, decide_eq_false_iff_not] at hp
      rw [if_pos (by omega), wrap_pred (by omega) hi' hl, rd_nat, if_pos (by omega), if_pos (by omega), if_pos (by omega)]
    · rw [if_neg h1]
  · intro k _
    simp only [spec_IsIssuer.l0, spec_IsValidKey.f, in1, Option.bind_some]
    rw [if_neg (by omega), ite_and]
def timeOk (t : Int) : Bool := decide (0 ≤ t ∧ t ≤ 10000)
theorem time1 (t : Int) : spec_IsTime.f t = some (timeOk t) := by
  simp only [spec_IsTime.f, in1, Option.bind_some]
  rfl
theorem time2 (t : Int) : impl_IsTime.f t = some (timeOk t) := by
  simp only [impl_IsTime.f, in2, Option.bind_some]
  rfl
def hasKind (n k : Int) : Bool := decide (10 ≤ n ∧ n ≤ 49) && (wrap64 (Int.tdiv n 10) == k)
theorem kind1 (n k : Int) : spec_HasKind.f n k = some (hasKind n k) := by
  simp only [spec_HasKind.f, spec_IsName.f, in1, Option.bind_some, ite_and]
  rfl
theorem kind2 (n k : Int) : impl_HasKind.f n k = some (hasKind n k) := by
  simp only [impl_HasKind.f, impl_KindOf.f, impl_IsName.f, in2, Option.bind_some]
  unfold hasKind
  cases decide (10 ≤ n ∧ n ≤ 49) <;> rfl
def claimOk (a b c : Int) : Bool :=
  if a = 1 then hasKind b 1 && decide (0 ≤ c ∧ c ≤ 5) else if a = 2 then hasKind b 1 && hasKind c 2 else if a = 3 then hasKind b 2 && decide (0 ≤ c ∧ c ≤ 3) else if a = 4 then hasKind b 3 && decide (0 ≤ c ∧ c ≤ 3) else false
def isFact (a b c d e f : Int) : Bool := claimOk a b c && (decide (0 ≤ d ∧ d ≤ 9) && (timeOk e && (timeOk f && decide (e ≤ f))))
theorem fact1 (a b c d e f : Int) : spec_IsFact.f a b c d e f = some (isFact a b c d e f) := by
  simp only [spec_IsFact.f, kind1, in1, time1, Option.bind_some, ite_and]
  unfold isFact claimOk
  by_cases h1 : a = 1
  · simp only [if_pos h1, Bool.and_assoc]
  by_cases h2 : a = 2
  · simp only [if_neg h1, if_pos h2, Bool.and_assoc]
  by_cases h3 : a = 3
  · simp only [if_neg h1, if_neg h2, if_pos h3, Bool.and_assoc]
  by_cases h4 : a = 4
  · simp only [if_neg h1, if_neg h2, if_neg h3, if_pos h4, Bool.and_assoc]
  · simp only [if_neg h1, if_neg h2, if_neg h3, if_neg h4, Bool.false_and]
theorem fact2 (a b c d e f : Int) : impl_IsFact.f a b c d e f = some (isFact a b c d e f) := by
  simp only [impl_IsFact.f, impl_isClaim.f, kind2, in2, time2, Option.bind_some, ite_and]
  unfold isFact claimOk
  by_cases h1 : a = 1
  · simp only [if_pos h1, Option.bind_some, ite_and]
  by_cases h2 : a = 2
  · simp only [if_neg h1, if_pos h2, Option.bind_some, ite_and]
  by_cases h3 : a = 3
  · simp only [if_neg h1, if_neg h2, if_pos h3, Option.bind_some, ite_and]
  by_cases h4 : a = 4
  · simp only [if_neg h1, if_neg h2, if_neg h3, if_pos h4, Option.bind_some, ite_and]
  · simp only [if_neg h1, if_neg h2, if_neg h3, if_neg h4, Option.bind_some, ite_and]
def has (l : List Int) (n : Int) : Bool := (List.range l.length).any fun i => l.getD i 0 == n
theorem index2 (l : List Int) (n : Int) (hl : l.length ≤ 1099511627776) (k : Nat) (hk : l.length < k) : slices_Index_int_int.f k l n = some (((List.range l.length).find? fun i => l.getD i 0 == n).elim (-1) fun i => (i : Int)) := by
  unfold slices_Index_int_int.f
  refine findLoop (fun k i => slices_Index_int_int.l0 k l n (l.length : Int) i) l.length 0 (fun i => l.getD i 0 == n) (fun i => (i : Int)) (-1) ?_ ?_ ?_ k (by omega)
  · intro k i _ hi hp
    have hp' : ¬ l.getD i 0 = n := by simpa using hp
    simp only [slices_Index_int_int.l0, rd_nat]
    rw [if_pos (by omega), if_pos (by omega), if_pos (by omega), if_neg (fun h => hp' h.symm), wrap_succ hi hl]
  · intro k i _ hi hp
    have hp' : l.getD i 0 = n := by simpa using hp
    simp only [slices_Index_int_int.l0, rd_nat]
    rw [if_pos (by omega), if_pos (by omega), if_pos (by omega), if_pos hp'.symm]
  · intro k _
    simp only [slices_Index_int_int.l0]
    rw [if_neg (by omega)]
theorem has2 (l : List Int) (n : Int) (hl : l.length ≤ 1099511627776) (k : Nat) (hk : l.length < k) : slices_Contains_int_int.f k l n = some (has l n) := by
  unfold slices_Contains_int_int.f has
  rw [index2 l n hl k hk, Option.bind_some]
  congr 1
  cases hf : (List.range l.length).find? fun i => l.getD i 0 == n with
  | none =>
    rw [List.find?_eq_none] at hf
    show decide ((-1 : Int) ≥ 0) = _
    rw [eq_comm, show decide ((-1 : Int) ≥ 0) = false from rfl, List.any_eq_false]
    exact hf
  | some i =>
    rw [List.find?_range_eq_some] at hf
    show decide ((i : Int) ≥ 0) = _
    rw [eq_comm, decide_eq_true (show (i : Int) ≥ 0 by omega), List.any_eq_true]
    exact ⟨i, hf.2.1, hf.1⟩
def stateF (a : Int) (l : List Int) (c f0 f1 f2 f4 f5 : Int) : Int × Int × Int × Int × Int × Int × Int × Bool :=
  if (isIssuer a l c && (isFact f0 f1 f2 a f4 f5 && has l f0)) = true then (f0, f1, f2, a, f4, f5, keyed c [f0, f1, f2, a, f4, f5], true) else (0, 0, 0, 0, 0, 0, 0, false)
theorem state2 (a : Int) (l : List Int) (c f0 f1 f2 f3 f4 f5 : Int) (hl : l.length ≤ 1048576) (k : Nat) (hk : 1048640 < k) : impl_StateFact.f k a l c f0 f1 f2 f3 f4 f5 = some (stateF a l c f0 f1 f2 f4 f5) := by
  obtain ⟨k, rfl⟩ : ∃ m, k = m + 1 := ⟨k - 1, by omega⟩
  simp only [impl_StateFact.f, impl_StateFact.j0, impl_FactInts.f, issuer2 a l c (by omega) (k + 1) (by omega), fact2, has2 l f0 (by omega) (k + 1) (by omega), keyed2 c [f0, f1, f2, a, f4, f5] (by simp) k (by simp; omega), Option.bind_some]
  unfold stateF
  cases isIssuer a l c
  · rfl
  cases isFact f0 f1 f2 a f4 f5
  · rfl
  cases has l f0 <;> rfl
theorem state1 (a : Int) (l : List Int) (c f0 f1 f2 f3 f4 f5 : Int) (hl : l.length ≤ 1048576) (k : Nat) (hk : 2097300 < k) : spec_StateFact.f k a l c f0 f1 f2 f3 f4 f5 = some (stateF a l c f0 f1 f2 f4 f5) := by
  unfold spec_StateFact.f
  refine run (fun k s i => spec_StateFact.l0 k s i a l c f0 f1 f2 a f4 f5) (fun i => (List.range i).any fun j => l.getD j 0 == f0) l.length 1048640 _ ?_ ?_ k (by omega)
  · intro k i hB hi
    rw [List.range_succ, List.any_append]
    simp only [spec_StateFact.l0, rd_nat]
    rw [if_pos (by omega), wrap_succ hi (by omega)]
    cases (List.range i).any fun j => l.getD j 0 == f0
    · rw [if_neg (by simp), if_pos (by omega)]
      simp
    · simp
  · intro k hB
    obtain ⟨k, rfl⟩ : ∃ m, k = m + 1 := ⟨k - 1, by omega⟩
    simp only [spec_StateFact.l0, spec_StateFact.j1, spec_FactInts.f, issuer1 a l c (by omega) (k + 1) (by omega), fact1, keyed1 c [f0, f1, f2, a, f4, f5] (by simp) k (by simp; omega), Option.bind_some]
    rw [if_neg (by omega)]
    unfold stateF
    rw [show ((List.range l.length).any fun j => l.getD j 0 == f0) = has l f0 from rfl]
    cases isIssuer a l c
    · rfl
    cases isFact f0 f1 f2 a f4 f5
    · rfl
    cases has l f0 <;> rfl
theorem szInt (l : List Int) (a : Int) (h0 : 0 ≤ a) (h1 : a ≤ 1048576) (hl : l.length ≤ maxLen) : laws_szIntS.f l a = some (if (l.length : Int) ≤ a then a - (l.length : Int) else -1) := by
  unfold maxLen at hl
  unfold laws_szIntS.f
  rw [wrap_in (by omega) (by omega)]
  by_cases h : (l.length : Int) ≤ a
  · rw [if_pos h, if_neg (by omega)]
  · rw [if_neg h, if_pos (by omega)]
theorem toIntS (l : List Int) (hl : l.length ≤ 1099511627776) (k : Nat) (hk : l.length < k) : laws_toIntS.f k l = some l := by
  unfold laws_toIntS.f
  rw [if_pos (by omega), if_pos (by omega), Int.toNat_natCast]
  refine (run (fun k s i => laws_toIntS.l0 k l s i) (put (fun i => l.getD i 0) (List.replicate l.length 0)) l.length 0 l ?_ ?_ k (by omega))
  · intro k i _ hi
    have hlen : (put (fun i => l.getD i 0) (List.replicate l.length 0) i).length = l.length := by rw [put_length _ _ _ (by simp; omega), List.length_replicate]
    simp only [laws_toIntS.l0]
    rw [if_pos (by omega), if_pos (by omega), if_pos (by omega), wrap_succ hi hl, rd_nat, Int.toNat_natCast, put_set (fun i => l.getD i 0) _ i (by simp; omega)]
  · intro k _
    simp only [laws_toIntS.l0]
    rw [if_neg (by omega), put_all _ _ (by simp), map_range_getD']
theorem eqIntS_self (l : List Int) (hl : l.length ≤ 1099511627776) (k : Nat) (hk : l.length < k) : laws_eqIntS.f k l l = some true := by
  unfold laws_eqIntS.f
  rw [if_pos rfl]
  refine run (fun k (_ : Unit) i => laws_eqIntS.l0 k l l i) (fun _ => ()) l.length 0 true ?_ ?_ k (by omega)
  · intro k i _ hi
    simp only [laws_eqIntS.l0]
    rw [if_pos (by omega), if_pos (by omega), if_pos (by omega), if_pos trivial, wrap_succ hi hl]
  · intro k _
    simp only [laws_eqIntS.l0]
    rw [if_neg (by omega)]
def markedInt (a : Int) (n : Nat) : List Int := (List.range n).map (fun i : Nat => (a + (i : Int)))
theorem markInt (l : List Int) (hl : l.length ≤ 1099511627776) (a : Int) (ha : 0 ≤ a) (ha2 : a ≤ 1099511627776) (k : Nat) (hk : l.length < k) : laws_markIntS.f k l a = some (a + (l.length : Int), markedInt a l.length) := by
  unfold laws_markIntS.f
  have h := run (fun k (s : List Int × Int) i => laws_markIntS.l0 k s.1 s.2 i) (fun i => (put (fun i : Nat => (a + (i : Int))) l i, (a + (i : Int)))) l.length 0 (a + (l.length : Int), markedInt a l.length) ?_ ?_ k (by omega)
  · simpa [put_zero] using h
  · intro k i _ hi
    have hlen : (put (fun i : Nat => (a + (i : Int))) l i).length = l.length := put_length _ _ _ (by omega)
    have hlt : i < (put (fun i : Nat => (a + (i : Int))) l i).length := by omega
    have w0 : wrap64 ((a + (i : Int)) + 1) = (a + (i : Int)) + 1 := wrap_in (by omega) (by omega)
    have wn : (a + (i : Int)) + 1 = a + ((i + 1 : Nat) : Int) := by omega
    simp only [laws_markIntS.l0, Option.bind_some, Int.toNat_natCast]
    rw [if_pos (by omega), if_pos (by omega), wrap_succ hi hl]
    simp only [w0]
    rw [wn, put_set (fun i : Nat => (a + (i : Int))) l i (by omega)]
  · intro k _
    simp only [laws_markIntS.l0]
    rw [if_neg (by rw [put_length _ _ _ (Nat.le_refl _)]; omega), put_all _ _ rfl]
    rfl
theorem toIssuer (a : Int) (l : List Int) (c : Int) (hl : l.length ≤ 1099511627776) (k : Nat) (hk : l.length < k) : laws_toIssuer.f k a l c = some (a, l, c) := by
  simp only [laws_toIssuer.f, toIntS l hl k hk, Option.bind_some]
theorem eqIssuer_self (a : Int) (l : List Int) (c : Int) (hl : l.length ≤ 1099511627776) (k : Nat) (hk : l.length < k) : laws_eqIssuer.f k a l c a l c = some true := by
  simp only [laws_eqIssuer.f, eqIntS_self l hl k hk, Option.bind_some, if_true]
theorem szIssuer (a : Int) (l : List Int) (c n : Int) (h0 : 0 ≤ n) (h1 : n ≤ 1048576) (hl : l.length ≤ maxLen) : laws_szIssuer.f a l c n = some (if (l.length : Int) ≤ n then n - (l.length : Int) else -1) := by
  simp only [laws_szIssuer.f, szInt l n h0 h1 hl, Option.bind_some]
  by_cases h : (l.length : Int) ≤ n
  · rw [if_pos h, if_neg (by omega)]
  · rw [if_neg h, if_pos (by omega)]
theorem rdIa (l : List S45) (i : Nat) : rd_T45 l (i : Int) = l.getD i z45 := by
  unfold rd_T45
  rw [Int.toNat_natCast]
theorem rdIb (l : List S48) (i : Nat) : rd_T48 l (i : Int) = l.getD i z48 := by
  unfold rd_T48
  rw [Int.toNat_natCast]
def cvI (x : S45) : S48 := ⟨x.f0, x.f1, x.f2⟩
/-- How many whole numbers the issuers hold. -/
def heldI (l : List S45) : Nat := (l.map fun x => x.f1.length).sum
theorem szIssuerS (l : List S45) (hl : l.length ≤ maxLen) (hw : ∀ x ∈ l, x.f1.length ≤ maxLen) (a : Int) (ha0 : 0 ≤ a) (ha : a ≤ 1048576) (k : Nat) (hk : 1048580 < k) : ∃ r, laws_szIssuerS.f k l a = some r ∧ (r < 0 ∨ (r ≤ a ∧ (l.length : Int) ≤ a ∧ (heldI l : Int) ≤ a)) := by
  unfold maxLen at hl
  unfold laws_szIssuerS.f
  rw [wrap_in (by omega) (by omega)]
  by_cases h : (l.length : Int) ≤ a
  · rw [if_neg (by omega), szLoop (fun k a i => laws_szIssuerS.l0 k l a i) l z45 (fun x => x.f1.length) 0 1048576 ?_ ?_ k _ (by omega) (by omega) (by omega)]
    · refine ⟨_, rfl, ?_⟩
      unfold heldI
      split
      · right; omega
      · left; omega
    · intro k i a _ hi h0 hM
      have hm := hw _ (getD_mem l i z45 hi)
      simp only [laws_szIssuerS.l0, rdIa]
      rw [if_pos (by omega), if_pos (by omega), szIssuer _ _ _ a h0 hM hm, Option.bind_some, wrap_succ hi (by omega)]
      by_cases h : (((l.getD i z45).f1.length : Nat) : Int) ≤ a
      · simp only [if_pos h]
        rw [if_neg (by omega)]
      · simp only [if_neg h]
        rfl
    · intro k a _
      simp only [laws_szIssuerS.l0]
      rw [if_neg (by omega)]
  · rw [if_pos (by omega)]
    exact ⟨_, rfl, .inl (by omega)⟩
theorem toIssuerS (l : List S45) (hl : l.length ≤ 1048576) (hw : ∀ x ∈ l, x.f1.length ≤ 1048576) (k : Nat) (hk : l.length + 1048578 < k) : laws_toIssuerS.f k l = some (l.map cvI) := by
  unfold laws_toIssuerS.f
  rw [if_pos (by omega), if_pos (by omega), Int.toNat_natCast]
  refine (run (fun k s i => laws_toIssuerS.l0 k l s i) (put (fun i => (⟨(l.getD i z45).f0, (l.getD i z45).f1, (l.getD i z45).f2⟩ : S48)) (List.replicate l.length z48)) l.length 1048578 (l.map cvI) ?_ ?_ k (by omega))
  · intro k i hB hi
    have hlen : (put (fun i => (⟨(l.getD i z45).f0, (l.getD i z45).f1, (l.getD i z45).f2⟩ : S48)) (List.replicate l.length z48) i).length = l.length := by rw [put_length _ _ _ (by simp; omega), List.length_replicate]
    have hm := hw _ (getD_mem l i z45 hi)
    simp only [laws_toIssuerS.l0, rdIa]
    rw [if_pos (by omega), if_pos (by omega), toIssuer _ _ _ (by omega) k (by omega)]
    simp only [Option.bind_some]
    rw [if_pos (by omega), wrap_succ hi (by omega), Int.toNat_natCast, put_set (fun i => (⟨(l.getD i z45).f0, (l.getD i z45).f1, (l.getD i z45).f2⟩ : S48)) _ i (by simp; omega)]
  · intro k _
    simp only [laws_toIssuerS.l0]
    rw [if_neg (by omega), put_all _ _ (by simp), map_range_getD l z45 (fun x => (⟨x.f0, x.f1, x.f2⟩ : S48))]
    rfl
theorem eqIssuerS_self (l : List S48) (hl : l.length ≤ 1048576) (hw : ∀ x ∈ l, x.f1.length ≤ 1048576) (k : Nat) (hk : l.length + 1048578 < k) : laws_eqIssuerS.f k l l = some true := by
  unfold laws_eqIssuerS.f
  rw [if_pos rfl]
  refine run (fun k (_ : Unit) i => laws_eqIssuerS.l0 k l l i) (fun _ => ()) l.length 1048578 true ?_ ?_ k (by omega)
  · intro k i hB hi
    have hm := hw _ (getD_mem l i z48 hi)
    simp only [laws_eqIssuerS.l0, rdIb]
    rw [if_pos (by omega), if_pos (by omega), if_pos (by omega), eqIssuer_self _ _ _ (by omega) k (by omega), Option.bind_some, if_pos rfl, wrap_succ hi (by omega)]
  · intro k _
    simp only [laws_eqIssuerS.l0]
    rw [if_neg (by omega)]
theorem cvI_held (l : List S45) (h : (heldI l : Int) ≤ 1048576) : (∀ x ∈ l, x.f1.length ≤ 1048576) ∧ ∀ x ∈ l.map cvI, x.f1.length ≤ 1048576 := by
  have h1 : ∀ x ∈ l, x.f1.length ≤ 1048576 := fun x hx => by
    have := le_sum (fun x : S45 => x.f1.length) l x hx
    unfold heldI at h
    omega
  refine ⟨h1, fun x hx => ?_⟩
  obtain ⟨y, hy, rfl⟩ := List.mem_map.1 hx
  exact h1 y hy
def findIssuer (l : List S48) (s : Int) : Int := ((List.range l.length).find? fun i => (l.getD i z48).f0 == s).elim (-1) fun i => (i : Int)
theorem findIssuer1 (l : List S48) (s : Int) (hl : l.length ≤ 1099511627776) (k : Nat) (hk : l.length < k) : spec_FindIssuer.f k l s = some (findIssuer l s) := by
  unfold spec_FindIssuer.f
  refine findLoop (fun k i => spec_FindIssuer.l0 k l s i) l.length 0 (fun i => (l.getD i z48).f0 == s) (fun i => (i : Int)) (-1) ?_ ?_ ?_ k (by omega)
  · intro k i _ hi hp
    simp only [spec_FindIssuer.l0, rdIb]
    rw [if_pos (by omega), if_pos (by omega), if_neg (by simpa using hp), wrap_succ hi hl]
  · intro k i _ hi hp
    simp only [spec_FindIssuer.l0, rdIb]
    rw [if_pos (by omega), if_pos (by omega), if_pos (by simpa using hp)]
  · intro k _
    simp only [spec_FindIssuer.l0]
    rw [if_neg (by omega)]
theorem findIssuer2 (l : List S48) (s : Int) : impl_FindIssuer.f l s = some (findIssuer l s) := rfl
theorem findIssuer_cases (l : List S48) (s : Int) : findIssuer l s = -1 ∨ ∃ i : Nat, i < l.length ∧ findIssuer l s = (i : Int) ∧ (l.getD i z48).f0 = s := by
  unfold findIssuer
  cases hf : (List.range l.length).find? fun i => (l.getD i z48).f0 == s with
  | none => exact .inl rfl
  | some i =>
    rw [List.find?_range_eq_some] at hf
    exact .inr ⟨i, by simpa using hf.2.1, rfl, by simpa using hf.1⟩
def believed (l : List S48) (f0 f1 f2 f3 f4 f5 m : Int) : Bool :=
  if findIssuer l f3 < 0 then false else
    let x := l.getD (findIssuer l f3).toNat z48
    let t := stateF x.f0 x.f1 x.f2 f0 f1 f2 f4 f5
    t.2.2.2.2.2.2.2 && ((t.1 == f0 && (t.2.1 == f1 && (t.2.2.1 == f2 && (t.2.2.2.1 == f3 && (t.2.2.2.2.1 == f4 && (t.2.2.2.2.2.1 == f5)))))) && (t.2.2.2.2.2.2.1 == m))
theorem believed1 (l : List S48) (f0 f1 f2 f3 f4 f5 m : Int) (hl : l.length ≤ 1048576) (hw : ∀ x ∈ l, x.f1.length ≤ 1048576) (k : Nat) (hk : 4000000 < k) : spec_IsBelieved.f k l f0 f1 f2 f3 f4 f5 m = some (believed l f0 f1 f2 f3 f4 f5 m) := by
  simp only [spec_IsBelieved.f, findIssuer1 l f3 (by omega) k (by omega), Option.bind_some]
  unfold believed
  rcases findIssuer_cases l f3 with h | ⟨i, hi, h, _⟩
  · rw [h, if_pos (by omega), if_pos (by omega)]
  · rw [h, if_neg (by omega), if_pos (by omega), if_pos (by omega), rdIb, state1 _ _ _ _ _ _ _ _ _ (hw _ (getD_mem l i _ hi)) k (by omega), Option.bind_some, ite_and, if_neg (by omega), Int.toNat_natCast]
theorem believed2 (l : List S48) (f0 f1 f2 f3 f4 f5 m : Int) (hl : l.length ≤ 1048576) (hw : ∀ x ∈ l, x.f1.length ≤ 1048576) (k : Nat) (hk : 4000000 < k) : impl_IsBelieved.f k l f0 f1 f2 f3 f4 f5 m = some (believed l f0 f1 f2 f3 f4 f5 m) := by
  simp only [impl_IsBelieved.f, findIssuer2, Option.bind_some]
  unfold believed
  rcases findIssuer_cases l f3 with h | ⟨i, hi, h, _⟩
  · rw [h, if_pos (by omega), if_pos (by omega)]
  · rw [h, if_neg (by omega), if_pos (by omega), if_pos (by omega), rdIb, state2 _ _ _ _ _ _ _ _ _ (hw _ (getD_mem l i _ hi)) k (by omega), Option.bind_some, ite_and, if_neg (by omega), Int.toNat_natCast]
def bef (a b : S55) : Bool := decide (a.f0 < b.f0) || (decide (a.f0 = b.f0) && (decide (a.f1 < b.f1) || (decide (a.f1 = b.f1) && (decide (a.f2 < b.f2) || (decide (a.f2 = b.f2) && decide (a.f3 < b.f3))))))
def sam (a b : S55) : Bool := decide (a.f0 = b.f0 ∧ a.f1 = b.f1 ∧ a.f2 = b.f2 ∧ a.f3 = b.f3)
def lat (a b : S55) : Bool := decide (a.f4 > b.f4 ∨ (a.f4 = b.f4 ∧ a.f5 > b.f5))
theorem bef_iff (a b : S55) : bef a b = true ↔ (a.f0 < b.f0 ∨ (a.f0 = b.f0 ∧ (a.f1 < b.f1 ∨ (a.f1 = b.f1 ∧ (a.f2 < b.f2 ∨ (a.f2 = b.f2 ∧ a.f3 < b.f3)))))) := by
  simp only [bef, Bool.or_eq_true, Bool.and_eq_true, decide_eq_true_eq]
theorem sam_iff (a b : S55) : sam a b = true ↔ (a.f0 = b.f0 ∧ a.f1 = b.f1 ∧ a.f2 = b.f2 ∧ a.f3 = b.f3) := by
  simp only [sam, decide_eq_true_eq]
theorem before1 (a b : S55) : spec_FactBefore.f a.f0 a.f1 a.f2 a.f3 a.f4 a.f5 b.f0 b.f1 b.f2 b.f3 b.f4 b.f5 = some (bef a b) := by
  unfold spec_FactBefore.f
  by_cases h0 : a.f0 = b.f0
  · rw [if_pos h0]
    by_cases h1 : a.f1 = b.f1
    · rw [if_pos h1]
      by_cases h2 : a.f2 = b.f2
      · rw [if_pos h2]
        exact congrArg some (Bool.eq_iff_iff.2 (by rw [bef_iff, decide_eq_true_eq]; omega))
      · rw [if_neg h2]
        exact congrArg some (Bool.eq_iff_iff.2 (by rw [bef_iff, decide_eq_true_eq]; omega))
    · rw [if_neg h1]
      exact congrArg some (Bool.eq_iff_iff.2 (by rw [bef_iff, decide_eq_true_eq]; omega))
  · rw [if_neg h0]
    exact congrArg some (Bool.eq_iff_iff.2 (by rw [bef_iff, decide_eq_true_eq]; omega))
theorem same1 (a b : S55) : spec_SameClaim.f a.f0 a.f1 a.f2 a.f3 a.f4 a.f5 b.f0 b.f1 b.f2 b.f3 b.f4 b.f5 = some (sam a b) := by
  unfold spec_SameClaim.f sam
  by_cases h0 : a.f0 = b.f0
  · rw [if_pos h0]
    by_cases h1 : a.f1 = b.f1
    · rw [if_pos h1]
      by_cases h2 : a.f2 = b.f2
      · rw [if_pos h2]
        by_cases h3 : a.f3 = b.f3
        · simp [h0, h1, h2, h3]
        · simp [h3]
      · rw [if_neg h2]; simp [h2]
    · rw [if_neg h1]; simp [h1]
  · rw [if_neg h0]; simp [h0]
theorem cmpGo_cases (a b : S55) : (bef a b = true ∧ sam a b = false ∧ cmpGo [(a.f0, b.f0), (a.f1, b.f1), (a.f2, b.f2), (a.f3, b.f3)] = -1) ∨ (bef a b = false ∧ sam a b = true ∧ cmpGo [(a.f0, b.f0), (a.f1, b.f1), (a.f2, b.f2), (a.f3, b.f3)] = 0) ∨ (bef a b = false ∧ sam a b = false ∧ cmpGo [(a.f0, b.f0), (a.f1, b.f1), (a.f2, b.f2), (a.f3, b.f3)] = 1) := by
  have e1 : ∀ x : Bool, x = false ↔ ¬ x = true := by intro x; cases x <;> simp
  simp only [e1, bef_iff, sam_iff]
  simp only [cmpGo]
  by_cases h0 : a.f0 < b.f0
  · rw [if_pos h0]; omega
  rw [if_neg h0]
  by_cases h0' : a.f0 > b.f0
  · rw [if_pos h0']; omega
  rw [if_neg h0']
  by_cases h1 : a.f1 < b.f1
  · rw [if_pos h1]; omega
  rw [if_neg h1]
  by_cases h1' : a.f1 > b.f1
  · rw [if_pos h1']; omega
  rw [if_neg h1']
  by_cases h2 : a.f2 < b.f2
  · rw [if_pos h2]; omega
  rw [if_neg h2]
  by_cases h2' : a.f2 > b.f2
  · rw [if_pos h2']; omega
  rw [if_neg h2']
  by_cases h3 : a.f3 < b.f3
  · rw [if_pos h3]; omega
  rw [if_neg h3]
  by_cases h3' : a.f3 > b.f3
  · rw [if_pos h3']; omega
  rw [if_neg h3']; omega
theorem before2 (a b : S55) : impl_FactBefore.f a.f0 a.f1 a.f2 a.f3 a.f4 a.f5 b.f0 b.f1 b.f2 b.f3 b.f4 b.f5 = some (bef a b) := by
  simp only [impl_FactBefore.f, impl_compareClaims.f, Option.bind_some]
  rcases cmpGo_cases a b with ⟨h, _, e⟩ | ⟨h, _, e⟩ | ⟨h, _, e⟩ <;> rw [e, h] <;> rfl
theorem same2 (a b : S55) : impl_SameClaim.f a.f0 a.f1 a.f2 a.f3 a.f4 a.f5 b.f0 b.f1 b.f2 b.f3 b.f4 b.f5 = some (sam a b) := by
  simp only [impl_SameClaim.f, impl_compareClaims.f, Option.bind_some]
  rcases cmpGo_cases a b with ⟨_, h, e⟩ | ⟨_, h, e⟩ | ⟨_, h, e⟩ <;> rw [e, h] <;> rfl
theorem later2 (a b : S55) : impl_isLater.f a.f0 a.f1 a.f2 a.f3 a.f4 a.f5 b.f0 b.f1 b.f2 b.f3 b.f4 b.f5 = some (lat a b) := by
  unfold impl_isLater.f lat
  by_cases h : a.f4 > b.f4
  · rw [if_pos h, decide_eq_true (.inl h)]
  · rw [if_neg h]
    by_cases h1 : a.f4 = b.f4
    · rw [if_pos h1]
      by_cases h2 : a.f5 > b.f5
      · rw [decide_eq_true h2, decide_eq_true (.inr ⟨h1, h2⟩)]
      · rw [decide_eq_false h2, decide_eq_false (by omega)]
    · rw [if_neg h1, decide_eq_false (by omega)]
theorem bef_trans {a b c : S55} (h : bef a b = true) (g : bef b c = true) : bef a c = true := by
  rw [bef_iff] at *; omega
theorem bef_sam {a b c : S55} (h : sam a b = true) (g : bef b c = true) : bef a c = true := by
  rw [sam_iff] at h; rw [bef_iff] at *; omega
theorem bef_not {a b : S55} (h : bef a b = true) : bef b a = false ∧ sam a b = false ∧ sam b a = false := by
  rw [← Bool.not_eq_true, ← Bool.not_eq_true, ← Bool.not_eq_true, bef_iff, sam_iff, sam_iff]; rw [bef_iff] at h; omega
theorem sam_not {a b : S55} (h : sam a b = true) : bef a b = false ∧ bef b a = false ∧ sam b a = true := by
  rw [← Bool.not_eq_true, ← Bool.not_eq_true, bef_iff, bef_iff, sam_iff]; rw [sam_iff] at h; omega
theorem bef_else {a b : S55} (h : bef a b = false) (g : sam a b = false) : bef b a = true := by
  rw [← Bool.not_eq_true, bef_iff] at h; rw [← Bool.not_eq_true, sam_iff] at g; rw [bef_iff]; omega
def okF (x : S55) : Bool := isFact x.f0 x.f1 x.f2 x.f3 x.f4 x.f5
def storeAt (l : List S55) (i : Nat) : Bool := okF (l.getD i z55) && (decide (i = 0) || bef (l.getD (i - 1) z55) (l.getD i z55))
def store (l : List S55) : Bool := if (List.range l.length).all (storeAt l) = true then decide ((l.length : Int) ≤ 30) else false
theorem store1 (l : List S55) (hl : l.length ≤ 1099511627776) (k : Nat) (hk : l.length < k) : spec_IsStore.f k l = some (store l) := by
  unfold spec_IsStore.f
  refine allLoop (fun k i => spec_IsStore.l0 k l i) l.length 0 (storeAt l) false (decide ((l.length : Int) ≤ 30)) ?_ ?_ ?_ k (by omega)
  · intro k i _ hi hp
    simp only [storeAt, okF, Bool.and_eq_true, Bool.or_eq_true, decide_eq_true_eq] at hp
    simp only [spec_IsStore.l0, fact1, rdT55, Option.bind_some]
    rw [if_pos (by omega), if_pos (by omega), if_pos hp.1, wrap_succ hi hl]
    rcases Nat.eq_zero_or_pos i with h0 | h0
    · rw [if_neg (by omega)]
    · rw [if_pos (by omega), wrap_pred h0 hi hl, rdT55, if_pos (by omega), if_pos (by omega), before1, Option.bind_some, if_pos (by rcases hp.2 with h | h; omega; exact h)]
  · intro k i _ hi hp
    simp only [spec_IsStore.l0, fact1, rdT55, Option.bind_some]
    rw [if_pos (by omega), if_pos (by omega)]
    by_cases h1 : okF (l.getD i z55) = true
    · have h1' := h1
      unfold okF at h1'
      rw [if_pos h1']
      unfold storeAt at hp
      rw [h1] at hp
      simp only [Bool.true_and, Bool.or_eq_false_iff, decide_eq_false_iff_not] at hp
      rw [if_pos (by omega), wrap_pred (by omega) hi hl, rdT55, if_pos (by omega), if_pos (by omega), before1, Option.bind_some, if_neg (by rw [hp.2]; simp)]
    · rw [if_neg (by unfold okF at h1; exact h1)]
  · intro k _
    simp only [spec_IsStore.l0]
    rw [if_neg (by omega)]
theorem store2 (l : List S55) (hl : l.length ≤ 1099511627776) (k : Nat) (hk : l.length < k) : impl_IsStore.f k l = some (store l) := by
  unfold impl_IsStore.f
  refine allLoop (fun k i => impl_IsStore.l0 k l l (l.length : Int) i) l.length 0 (storeAt l) false (decide ((l.length : Int) ≤ 30)) ?_ ?_ ?_ k (by omega)
  · intro k i _ hi hp
    simp only [storeAt, okF, Bool.and_eq_true, Bool.or_eq_true, decide_eq_true_eq] at hp
    simp only [impl_IsStore.l0, fact2, rdT55, Option.bind_some]
    rw [if_pos (by omega), if_pos (by omega), if_pos (by omega), if_pos hp.1, wrap_succ hi hl]
    rcases Nat.eq_zero_or_pos i with h0 | h0
    · rw [if_neg (by omega)]
    · rw [if_pos (by omega), wrap_pred h0 hi hl, rdT55, if_pos (by omega), if_pos (by omega), before2, Option.bind_some, if_pos (by rcases hp.2 with h | h; omega; exact h)]
  · intro k i _ hi hp
    simp only [impl_IsStore.l0, fact2, rdT55, Option.bind_some]
    rw [if_pos (by omega), if_pos (by omega), if_pos (by omega)]
    by_cases h1 : okF (l.getD i z55) = true
    · have h1' := h1
      unfold okF at h1'
      rw [if_pos h1']
      unfold storeAt at hp
      rw [h1] at hp
      simp only [Bool.true_and, Bool.or_eq_false_iff, decide_eq_false_iff_not] at hp
      rw [if_pos (by omega), wrap_pred (by omega) hi hl, rdT55, if_pos (by omega), if_pos (by omega), before2, Option.bind_some, if_neg (by rw [hp.2]; simp)]
    · rw [if_neg (by unfold okF at h1; exact h1)]
  · intro k _
    simp only [impl_IsStore.l0]
    rw [if_neg (by omega)]
theorem store_at (l : List S55) (h : store l = true) : (∀ i, i < l.length → storeAt l i = true) ∧ l.length ≤ 30 := by
  unfold store at h
  split at h
  · rename_i ha
    rw [List.all_eq_true] at ha
    exact ⟨fun i hi => ha i (List.mem_range.2 hi), by have := of_decide_eq_true h; omega⟩
  · cases h
theorem store_pair (l : List S55) (h : store l = true) : (∀ x ∈ l, okF x = true) ∧ l.Pairwise (fun x y => bef x y = true) ∧ l.length ≤ 30 := by
  obtain ⟨hA, h30⟩ := store_at l h
  refine ⟨fun x hx => ?_, ?_, h30⟩
  · obtain ⟨i, hi, rfl⟩ := List.mem_iff_getElem.1 hx
    have := hA i hi
    simp only [storeAt, Bool.and_eq_true] at this
    have := this.1
    rwa [getD_get l i z55 hi] at this
  · have nx : ∀ i, i + 1 < l.length → bef (l.getD i z55) (l.getD (i + 1) z55) = true := by
      intro i hi
      have := hA (i + 1) hi
      simp only [storeAt, Bool.and_eq_true, Bool.or_eq_true, decide_eq_true_eq] at this
      rcases this.2 with h | h
      · omega
      · simpa using h
    have key : ∀ d i, i + d + 1 < l.length → bef (l.getD i z55) (l.getD (i + d + 1) z55) = true := by
      intro d
      induction d with
      | zero => intro i hi; exact nx i hi
      | succ d ih =>
        intro i hi
        exact bef_trans (ih i (by omega)) (nx (i + d + 1) (by omega))
    rw [List.pairwise_iff_getElem]
    intro i j hi hj hij
    have := key (j - i - 1) i (by omega)
    rw [show i + (j - i - 1) + 1 = j by omega, getD_get l i z55 hi, getD_get l j z55 hj] at this
    exact this
theorem pair_store (l : List S55) (h1 : ∀ x ∈ l, okF x = true) (h2 : l.Pairwise (fun x y => bef x y = true)) (h3 : l.length ≤ 30) : store l = true := by
  unfold store
  rw [if_pos]
  · exact decide_eq_true (by omega)
  · rw [List.all_eq_true]
    intro i hi
    have hi' := List.mem_range.1 hi
    unfold storeAt
    rw [getD_get l i z55 hi', h1 _ (List.getElem_mem hi'), Bool.true_and, Bool.or_eq_true]
    rcases Nat.eq_zero_or_pos i with h | h
    · exact .inl (decide_eq_true h)
    · right
      rw [getD_get l (i - 1) z55 (by omega)]
      exact (List.pairwise_iff_getElem.1 h2) (i - 1) i (by omega) hi' (by omega)
def putOne (f x : S55) : S55 := if sam f x = true then (if lat f x = true then f else x) else x
def putS (f : S55) : List S55 → Bool → List S55
  | [], seen => if seen = true then [] else [f]
  | x :: r, seen => if seen = false ∧ bef f x = true then f :: putOne f x :: putS f r true else putOne f x :: putS f r (seen || sam f x)
def putFin (l out : List S55) : List S55 × Bool := if (out.length : Int) > 30 then (l, false) else (out, true)
def putF (l : List S55) (f : S55) : List S55 × Bool := if store l = true then (if okF f = true then putFin l (putS f l false) else (l, false)) else (l, false)
theorem putF_len (l : List S55) (f : S55) : (putF l f).1.length ≤ l.length + 30 := by
  unfold putF
  split
  · split
    · unfold putFin
      split
      · exact Nat.le_add_right _ _
      · simp only; omega
    · exact Nat.le_add_right _ _
  · exact Nat.le_add_right _ _
theorem getF_mid (a r : List S55) (x : S55) : (a ++ x :: r).getD a.length z55 = x := by
  rw [getD_get _ _ _ (by simp), List.getElem_append_right (Nat.le_refl _)]
  simp
theorem l7Copy (l : List S55) (hl : l.length ≤ 40000000) : spec_l7Copy.f l = some l := by
  unfold spec_l7Copy.f
  simp only [Option.bind_some, List.nil_append, List.length_nil, Nat.zero_add]
  rw [if_pos (by omega)]
theorem copyFacts (l : List S55) (hl : l.length ≤ 40000000) : impl_copyFacts.f l = some l := by
  unfold impl_copyFacts.f
  simp only [Option.bind_some, List.nil_append, List.length_nil, Nat.zero_add]
  rw [if_pos (by omega)]
theorem putLoop (l : List S55) (f : S55) (hl : l.length ≤ 40000000) : ∀ (b a acc : List S55) (seen : Bool) (k : Nat), l = a ++ b → acc.length ≤ 2 * a.length → 3 * b.length + 5 < k → spec_PutFact.l0 k l acc seen (a.length : Int) f.f0 f.f1 f.f2 f.f3 f.f4 f.f5 = some (putFin l (acc ++ putS f b seen)) := by
  intro b
  induction b with
  | nil =>
    intro a acc seen k he hacc hk
    obtain ⟨k, rfl⟩ : ∃ m, k = m + 1 := ⟨k - 1, by omega⟩
    have hla : l.length = a.length := by rw [he]; simp
    simp only [spec_PutFact.l0]
    rw [if_neg (by omega)]
    cases seen with
    | true =>
      rw [if_pos rfl]
      simp only [putS, if_true, List.append_nil, l7Copy l hl, Option.bind_some]
      unfold putFin
      split <;> rfl
    | false =>
      rw [if_neg (by simp), if_pos (by omega)]
      simp only [putS, Bool.false_eq_true, if_false, Option.bind_some, l7Copy l hl]
      unfold putFin
      by_cases h : (((acc ++ [f]).length : Nat) : Int) > 30
      · exact (if_pos h).trans (congrArg some (if_pos h).symm)
      · exact (if_neg h).trans (congrArg some (if_neg h).symm)
  | cons x r ih =>
    intro a acc seen k he hacc hk
    obtain ⟨k, rfl⟩ : ∃ m, k = m + 1 + 1 + 1 := ⟨k - 3, by omega⟩
    have hla : l.length = a.length + (r.length + 1) := by rw [he]; simp
    have hx : rd_T55 l (a.length : Int) = x := by rw [rdT55, he, getF_mid]
    have hw : wrap64 ((a.length : Int) + 1) = (((a ++ [x]).length : Nat) : Int) := by rw [List.length_append]; unfold wrap64; simp; omega
    have he' : l = (a ++ [x]) ++ r := by rw [he]; simp
    have hal : (a ++ [x]).length = a.length + 1 := by simp
    have I : ∀ acc2 seen2, acc2.length ≤ acc.length + 2 → spec_PutFact.l0 k l acc2 seen2 (((a ++ [x]).length : Nat) : Int) f.f0 f.f1 f.f2 f.f3 f.f4 f.f5 = some (putFin l (acc2 ++ putS f r seen2)) := fun acc2 seen2 h => ih (a ++ [x]) acc2 seen2 k he' (by omega) (by simp only [List.length_cons] at hk; omega)
    have hj3 : ∀ acc2 seen2, acc2.length ≤ acc.length + 1 → spec_PutFact.j3 (k + 1) l acc2 seen2 (a.length : Int) f.f0 f.f1 f.f2 f.f3 f.f4 f.f5 = some (putFin l (acc2 ++ putOne f x :: putS f r (seen2 || sam f x))) := by
      intro acc2 seen2 h2
      have L : acc2.length < 2932031007402 := by omega
      simp only [spec_PutFact.j3, hx, same1, Option.bind_some, hw]
      rw [if_pos (by omega), if_pos (by omega)]
      have A : ∀ (e : S55) s2, spec_PutFact.l0 k l (acc2 ++ [e]) s2 (((a ++ [x]).length : Nat) : Int) f.f0 f.f1 f.f2 f.f3 f.f4 f.f5 = some (putFin l (acc2 ++ e :: putS f r s2)) := by
        intro e s2
        rw [I _ _ (by simp; omega)]
        simp
      by_cases hs : sam f x = true
      · rw [if_pos hs, hs, Bool.or_true]
        unfold putOne
        rw [if_pos hs]
        by_cases h4 : f.f4 > x.f4
        · rw [if_pos h4, if_pos L, if_pos (show lat f x = true from decide_eq_true (.inl h4))]
          exact A f true
        · rw [if_neg h4]
          by_cases h5 : f.f4 = x.f4
          · rw [if_pos h5]
            by_cases h6 : f.f5 > x.f5
            · rw [if_pos h6, if_pos L, if_pos (show lat f x = true from decide_eq_true (.inr ⟨h5, h6⟩))]
              exact A f true
            · rw [if_neg h6, if_pos L, if_neg (by unfold lat; rw [decide_eq_true_eq]; omega)]
              exact A x true
          · rw [if_neg h5, if_pos L, if_neg (by unfold lat; rw [decide_eq_true_eq]; omega)]
            exact A x true
      · have hs' : sam f x = false := by simpa using hs
        rw [if_neg hs, if_pos L]
        unfold putOne
        rw [if_neg hs, hs', Bool.or_false]
        exact A x seen2
    have hj : ∀ q : Bool, q = (!seen && bef f x) → spec_PutFact.j2 (k + 1 + 1) l acc seen (a.length : Int) q f.f0 f.f1 f.f2 f.f3 f.f4 f.f5 = some (putFin l (acc ++ putS f (x :: r) seen)) := by
      intro q hq
      simp only [spec_PutFact.j2]
      cases q with
      | true =>
        have hq' := hq.symm
        simp only [Bool.and_eq_true, Bool.not_eq_true'] at hq'
        rw [if_pos rfl, if_pos (by omega)]
        refine (hj3 (acc ++ [f]) true (by simp)).trans ?_
        rw [putS, if_pos hq']
        simp
      | false =>
        have hq' : ¬ (seen = false ∧ bef f x = true) := by
          rintro ⟨e1, e2⟩
          rw [e1, e2] at hq
          cases hq
        rw [if_neg (by simp), hj3 acc seen (by omega), putS, if_neg hq']
    simp only [spec_PutFact.l0, hx, before1, Option.bind_some]
    rw [if_pos (by omega)]
    cases seen with
    | true => rw [if_pos rfl]; exact hj false (by simp)
    | false => rw [if_neg (by simp), if_pos (by omega)]; exact hj _ (by simp)
theorem put1 (l : List S55) (f : S55) (hl : l.length ≤ 40000000) (k : Nat) (hk : 4 * l.length + 20 < k) : spec_PutFact.f k l f.f0 f.f1 f.f2 f.f3 f.f4 f.f5 = some (putF l f) := by
  obtain ⟨k, rfl⟩ : ∃ m, k = m + 1 := ⟨k - 1, by omega⟩
  simp only [spec_PutFact.f, store1 l (by omega) (k + 1) (by omega), fact1, Option.bind_some]
  unfold putF
  by_cases hS : store l = true
  · rw [if_pos hS, if_pos hS]
    unfold okF
    cases hF : isFact f.f0 f.f1 f.f2 f.f3 f.f4 f.f5 with
    | true =>
      rw [if_pos rfl]
      simp only [spec_PutFact.j0, Bool.not_true, Bool.false_eq_true, if_false]
      have := putLoop l f hl l [] [] false k (by simp) (by simp) (by omega)
      simpa using this
    | false =>
      rw [if_neg (by simp)]
      simp only [spec_PutFact.j0, Bool.not_false, if_true, l7Copy l hl, Option.bind_some]
  · rw [if_neg hS, if_neg hS]
    simp only [spec_PutFact.j0, if_true, l7Copy l hl, Option.bind_some]
theorem putS_skip (f : S55) (b : List S55) (a : List S55) (h : ∀ y ∈ a, bef y f = true) : putS f (a ++ b) false = a ++ putS f b false := by
  induction a with
  | nil => rfl
  | cons x r ih =>
    obtain ⟨h1, h2, h3⟩ := bef_not (h x (by simp))
    rw [List.cons_append, putS, if_neg (by rw [h1]; simp), Bool.false_or, h3, ih (fun y hy => h y (by simp [hy]))]
    simp [putOne, h3]
theorem putS_rest (f : S55) (r : List S55) (h : ∀ y ∈ r, bef f y = true) : putS f r true = r := by
  induction r with
  | nil => rfl
  | cons x r ih =>
    obtain ⟨_, h2, _⟩ := bef_not (h x (by simp))
    rw [putS, if_neg (by simp), Bool.true_or, ih (fun y hy => h y (by simp [hy]))]
    simp [putOne, h2]
theorem putIns (l a b : List S55) (f : S55) (hl : l.length ≤ 30) (he : l = a ++ b) (ha : ∀ y ∈ a, bef y f = true) (hb : putS f b false = f :: b) (k : Nat) : impl_PutFact.j3 (k + 1) l l (a.length : Int) false f.f0 f.f1 f.f2 f.f3 f.f4 f.f5 = some (putFin l (putS f l false)) := by
  have hla : l.length = a.length + b.length := by rw [he]; simp
  have hout : putS f l false = a ++ (f :: b) := by rw [he, putS_skip f b a ha, hb]
  have h2 : l.take (a.length : Int).toNat ++ [f] ++ l.drop (a.length : Int).toNat = putS f l false := by
    rw [hout, Int.toNat_natCast, he]
    simp
  have hlen : (putS f l false).length = l.length + 1 := by rw [hout]; simp; omega
  simp only [impl_PutFact.j3]
  rw [if_neg (by simp)]
  unfold putFin
  by_cases h : (l.length : Int) = 30
  · rw [if_pos h, if_pos (by omega)]
  · rw [if_neg h, if_neg (by omega)]
    have := h2
    simp only [impl_Fact.f]
    rw [if_pos ⟨by omega, by omega, rfl, by omega⟩, Option.bind_some]
    exact congrArg (fun z => some (z, true)) h2
theorem putLoop2 (l : List S55) (f : S55) (hS : store l = true) : ∀ (b a : List S55) (k : Nat), l = a ++ b → (∀ y ∈ a, bef y f = true) → b.length + 5 < k → impl_PutFact.l0 k l l (a.length : Int) f.f0 f.f1 f.f2 f.f3 f.f4 f.f5 = some (putFin l (putS f l false)) := by
  obtain ⟨_, hP, h30⟩ := store_pair l hS
  intro b
  induction b with
  | nil =>
    intro a k he ha hk
    obtain ⟨k, rfl⟩ : ∃ m, k = m + 1 + 1 + 1 := ⟨k - 3, by omega⟩
    have hla : l.length = a.length := by rw [he]; simp
    simp only [impl_PutFact.l0]
    rw [if_neg (by omega)]
    simp only [impl_PutFact.j2]
    rw [if_neg (by omega)]
    exact putIns l a [] f h30 he ha rfl k
  | cons x r ih =>
    intro a k he ha hk
    obtain ⟨k, rfl⟩ : ∃ m, k = m + 1 + 1 + 1 := ⟨k - 3, by omega⟩
    have hla : l.length = a.length + (r.length + 1) := by rw [he]; simp
    have hx : rd_T55 l (a.length : Int) = x := by rw [rdT55, he, getF_mid]
    have hw : wrap64 ((a.length : Int) + 1) = (((a ++ [x]).length : Nat) : Int) := by rw [List.length_append]; unfold wrap64; simp; omega
    have he' : l = (a ++ [x]) ++ r := by rw [he]; simp
    have hP' := hP
    rw [he, List.pairwise_append, List.pairwise_cons] at hP'
    rw [impl_PutFact.l0]
    simp only [hx, before2, Option.bind_some]
    rw [if_pos (by omega), if_pos (by omega)]
    by_cases h : bef x f = true
    · rw [if_pos h, hw]
      exact ih (a ++ [x]) (k + 1 + 1) he' (fun y hy => by rcases List.mem_append.1 hy with hy | hy; exact ha y hy; simp at hy; rw [hy]; exact h) (by simp only [List.length_cons] at hk; omega)
    · have h' : bef x f = false := by simpa using h
      rw [if_neg h]
      simp only [impl_PutFact.j2, hx, same2, Option.bind_some]
      rw [if_pos (by omega), if_pos (by omega)]
      cases hq : sam x f with
      | true =>
        obtain ⟨n1, n2, n3⟩ := sam_not hq
        have hrest : ∀ y ∈ r, bef f y = true := fun y hy => bef_sam n3 (hP'.2.1.1 y hy)
        have hout : putS f l false = a ++ putOne f x :: r := by rw [he, putS_skip f _ a ha, putS, if_neg (by rw [n2]; simp), Bool.false_or, n3, putS_rest f r hrest]
        have hlen : (putS f l false).length = l.length := by rw [hout, hla]; simp
        simp only [impl_PutFact.j3, hx, later2, Option.bind_some]
        have hF : putFin l (putS f l false) = (putS f l false, true) := if_neg (by omega)
        rw [if_pos trivial, if_pos (by omega), if_pos (by omega), hF]
        by_cases hL : lat f x = true
        · rw [if_pos hL, if_pos (by omega)]
          have : l.set (a.length : Int).toNat f = putS f l false := by
            rw [hout, putOne, if_pos n3, if_pos hL, Int.toNat_natCast, he, List.set_append_right _ _ (Nat.le_refl _), Nat.sub_self, List.set_cons_zero]
          exact congrArg (fun z => some (z, true)) this
        · rw [if_neg hL]
          have : l = putS f l false := by rw [hout, putOne, if_pos n3, if_neg hL, he]
          exact congrArg (fun z => some (z, true)) this
      | false =>
        have hfx := bef_else h' hq
        refine putIns l a (x :: r) f h30 he ha ?_ k
        obtain ⟨_, m2, _⟩ := bef_not hfx
        rw [putS, if_pos ⟨rfl, hfx⟩, putS_rest f r (fun y hy => bef_trans hfx (hP'.2.1.1 y hy))]
        simp [putOne, m2]
theorem put2 (l : List S55) (f : S55) (hl : l.length ≤ 40000000) (k : Nat) (hk : 4 * l.length + 20 < k) : impl_PutFact.f k l f.f0 f.f1 f.f2 f.f3 f.f4 f.f5 = some (putF l f) := by
  obtain ⟨k, rfl⟩ : ∃ m, k = m + 1 := ⟨k - 1, by omega⟩
  simp only [impl_PutFact.f, copyFacts l hl, store2 l (by omega) (k + 1) (by omega), fact2, Option.bind_some]
  unfold putF
  by_cases hS : store l = true
  · rw [if_pos hS, if_pos hS]
    unfold okF
    cases hF : isFact f.f0 f.f1 f.f2 f.f3 f.f4 f.f5 with
    | true =>
      rw [if_pos rfl]
      simp only [impl_PutFact.j0, Bool.not_true, Bool.false_eq_true, if_false]
      exact putLoop2 l f hS l [] k (by simp) (by simp) (by omega)
    | false =>
      rw [if_neg (by simp)]
      simp only [impl_PutFact.j0, Bool.not_false, if_true]
  · rw [if_neg hS, if_neg hS]
    simp only [impl_PutFact.j0, if_true]
theorem rdSt (l : List S76) (i : Nat) : rd_T76 l (i : Int) = l.getD i z76 := by
  unfold rd_T76
  rw [Int.toNat_natCast]
def bel (L : List S48) (x : S76) : Bool := believed L x.f0.f0 x.f0.f1 x.f0.f2 x.f0.f3 x.f0.f4 x.f0.f5 x.f1
def takeS (L : List S48) : List S76 → List S55 → Nat → List S55 × Nat
  | [], out, n => (out, n)
  | x :: r, out, n => if bel L x = true ∧ (putF out x.f0).2 = true then takeS L r (putF out x.f0).1 (n + 1) else takeS L r out n
theorem takeS_len (L : List S48) : ∀ (b : List S76) out n, (takeS L b out n).1.length ≤ out.length + 30 * b.length ∧ n ≤ (takeS L b out n).2 ∧ (takeS L b out n).2 ≤ n + b.length := by
  intro b
  induction b with
  | nil => intro out n; exact ⟨by simp [takeS], by simp [takeS], by simp [takeS]⟩
  | cons x r ih =>
    intro out n
    rw [takeS]
    split
    · have := ih (putF out x.f0).1 (n + 1)
      have h2 := putF_len out x.f0
      simp only [List.length_cons]
      omega
    · have := ih out n
      simp only [List.length_cons]
      omega
theorem takeLoop1 (L : List S48) (t : List S76) (hL : L.length ≤ 1048576) (hw : ∀ x ∈ L, x.f1.length ≤ 1048576) (ht : t.length ≤ 1048576) (B : Nat) (hB : 4 * (1048576 + 30 * t.length) + 20 ≤ B) (hB2 : 4000000 ≤ B) : ∀ (b a : List S76) (out : List S55) (n k : Nat), t = a ++ b → out.length ≤ 1048576 + 30 * a.length → n ≤ a.length → B + b.length < k → spec_TakeStated.l0 k L t out (n : Int) (a.length : Int) = some ((takeS L b out n).1, ((takeS L b out n).2 : Int)) := by
  intro b
  induction b with
  | nil =>
    intro a out n k he ho hn hk
    obtain ⟨k, rfl⟩ : ∃ m, k = m + 1 := ⟨k - 1, by omega⟩
    have hla : t.length = a.length := by rw [he]; simp
    rw [spec_TakeStated.l0, if_neg (by omega)]
    rfl
  | cons x r ih =>
    intro a out n k he ho hn hk
    obtain ⟨k, rfl⟩ : ∃ m, k = m + 1 := ⟨k - 1, by omega⟩
    have hla : t.length = a.length + (r.length + 1) := by rw [he]; simp
    simp only [List.length_cons] at hk
    have hx : rd_T76 t (a.length : Int) = x := by rw [rdSt, he, getD_get _ _ _ (by simp), List.getElem_append_right (Nat.le_refl _)]; simp
    have hk1 : 4 * out.length + 20 < k := by omega
    have hkb : 4000000 < k := by omega
    have hkr : B + r.length < k := by omega
    have ho2 : out.length ≤ 40000000 := by omega
    have he' : t = (a ++ [x]) ++ r := by rw [he]; simp
    have hal : (a ++ [x]).length = a.length + 1 := by simp
    have hn1 : n + 1 ≤ (a ++ [x]).length := by omega
    have ho1 : out.length ≤ 1048576 + 30 * (a ++ [x]).length := by omega
    have hn2 : n ≤ (a ++ [x]).length := by omega
    have hi1 : (a.length : Int) < (t.length : Int) := by omega
    have hi0 : (0 : Int) ≤ (a.length : Int) := by omega
    have hp : (putF out x.f0).1.length ≤ 1048576 + 30 * (a ++ [x]).length := Nat.le_trans (putF_len out x.f0) (by omega)
    have HBL := believed1 L x.f0.f0 x.f0.f1 x.f0.f2 x.f0.f3 x.f0.f4 x.f0.f5 x.f1 hL hw k hkb
    have hw1 : wrap64 ((a.length : Int) + 1) = (((a ++ [x]).length : Nat) : Int) := by rw [List.length_append]; unfold wrap64; simp; omega
    have hw2 : wrap64 ((n : Int) + 1) = ((n + 1 : Nat) : Int) := by clear hw1; unfold wrap64; omega
    rw [spec_TakeStated.l0]
    simp only [hx, hw1, hw2]
    rw [if_pos hi1, if_pos hi0, HBL, Option.bind_some, takeS]
    have I1 := ih (a ++ [x]) (putF out x.f0).1 (n + 1) k he' hp hn1 hkr
    have I2 := ih (a ++ [x]) out n k he' ho1 hn2 hkr
    by_cases hb : bel L x = true
    · have hb' := hb
      unfold bel at hb'
      rw [if_pos hb', put1 out x.f0 ho2 k hk1, Option.bind_some]
      by_cases hq : (putF out x.f0).2 = true
      · rw [if_pos hq, if_pos ⟨hb, hq⟩]; exact I1
      · rw [if_neg hq, if_neg (fun h => hq h.2)]; exact I2
    · have hb' := hb
      unfold bel at hb'
      rw [if_neg hb', if_neg (fun h => hb h.1)]; exact I2
theorem takeLoop2 (L : List S48) (t : List S76) (hL : L.length ≤ 1048576) (hw : ∀ x ∈ L, x.f1.length ≤ 1048576) (ht : t.length ≤ 1048576) (B : Nat) (hB : 4 * (1048576 + 30 * t.length) + 20 ≤ B) (hB2 : 4000000 ≤ B) : ∀ (b a : List S76) (out : List S55) (n k : Nat), t = a ++ b → out.length ≤ 1048576 + 30 * a.length → n ≤ a.length → B + b.length < k → impl_TakeStated.l0 k L out (n : Int) t (t.length : Int) (a.length : Int) = some ((takeS L b out n).1, ((takeS L b out n).2 : Int)) := by
  intro b
  induction b with
  | nil =>
    intro a out n k he ho hn hk
    obtain ⟨k, rfl⟩ : ∃ m, k = m + 1 := ⟨k - 1, by omega⟩
    have hla : t.length = a.length := by rw [he]; simp
    rw [impl_TakeStated.l0, if_neg (by omega)]
    rfl
  | cons x r ih =>
    intro a out n k he ho hn hk
    obtain ⟨k, rfl⟩ : ∃ m, k = m + 1 := ⟨k - 1, by omega⟩
    have hla : t.length = a.length + (r.length + 1) := by rw [he]; simp
    simp only [List.length_cons] at hk
    have hx : rd_T76 t (a.length : Int) = x := by rw [rdSt, he, getD_get _ _ _ (by simp), List.getElem_append_right (Nat.le_refl _)]; simp
    have hk1 : 4 * out.length + 20 < k := by omega
    have hkb : 4000000 < k := by omega
    have hkr : B + r.length < k := by omega
    have ho2 : out.length ≤ 40000000 := by omega
    have he' : t = (a ++ [x]) ++ r := by rw [he]; simp
    have hal : (a ++ [x]).length = a.length + 1 := by simp
    have hn1 : n + 1 ≤ (a ++ [x]).length := by omega
    have ho1 : out.length ≤ 1048576 + 30 * (a ++ [x]).length := by omega
    have hn2 : n ≤ (a ++ [x]).length := by omega
    have hi1 : (a.length : Int) < (t.length : Int) := by omega
    have hi0 : (0 : Int) ≤ (a.length : Int) := by omega
    have hp : (putF out x.f0).1.length ≤ 1048576 + 30 * (a ++ [x]).length := Nat.le_trans (putF_len out x.f0) (by omega)
    have HBL := believed2 L x.f0.f0 x.f0.f1 x.f0.f2 x.f0.f3 x.f0.f4 x.f0.f5 x.f1 hL hw k hkb
    have hw1 : wrap64 ((a.length : Int) + 1) = (((a ++ [x]).length : Nat) : Int) := by rw [List.length_append]; unfold wrap64; simp; omega
    have hw2 : wrap64 ((n : Int) + 1) = ((n + 1 : Nat) : Int) := by clear hw1; unfold wrap64; omega
    rw [impl_TakeStated.l0]
    simp only [hx, hw1, hw2]
    rw [if_pos hi1, if_pos hi0, if_pos hi1, HBL, Option.bind_some, takeS]
    have I1 := ih (a ++ [x]) (putF out x.f0).1 (n + 1) k he' hp hn1 hkr
    have I2 := ih (a ++ [x]) out n k he' ho1 hn2 hkr
    by_cases hb : bel L x = true
    · have hb' := hb
      unfold bel at hb'
      rw [if_pos hb', put2 out x.f0 ho2 k hk1, Option.bind_some]
      by_cases hq : (putF out x.f0).2 = true
      · rw [if_pos hq, if_pos ⟨hb, hq⟩]; exact I1
      · rw [if_neg hq, if_neg (fun h => hq h.2)]; exact I2
    · have hb' := hb
      unfold bel at hb'
      rw [if_neg hb', if_neg (fun h => hb h.1)]; exact I2
theorem take1 (L : List S48) (out : List S55) (t : List S76) (hL : L.length ≤ 1048576) (hw : ∀ x ∈ L, x.f1.length ≤ 1048576) (ho : out.length ≤ 1048576) (ht : t.length ≤ 1048576) (k : Nat) (hk : 202000000 < k) : spec_TakeStated.f k L out t = some ((takeS L t out 0).1, ((takeS L t out 0).2 : Int)) := by
  unfold spec_TakeStated.f
  rw [l7Copy out (by omega), Option.bind_some]
  exact takeLoop1 L t hL hw ht 200000000 (by omega) (by omega) t [] out 0 k rfl (by omega) (by simp) (by omega)
theorem take2 (L : List S48) (out : List S55) (t : List S76) (hL : L.length ≤ 1048576) (hw : ∀ x ∈ L, x.f1.length ≤ 1048576) (ho : out.length ≤ 1048576) (ht : t.length ≤ 1048576) (k : Nat) (hk : 202000000 < k) : impl_TakeStated.f k L out t = some ((takeS L t out 0).1, ((takeS L t out 0).2 : Int)) := by
  unfold impl_TakeStated.f
  rw [copyFacts out (by omega), Option.bind_some]
  exact takeLoop2 L t hL hw ht 200000000 (by omega) (by omega) t [] out 0 k rfl (by omega) (by simp) (by omega)
theorem rdSa (l : List S82) (i : Nat) : rd_T82 l (i : Int) = l.getD i z82 := by
  unfold rd_T82
  rw [Int.toNat_natCast]
theorem szStated (l : List S82) (a : Int) (h0 : 0 ≤ a) (h1 : a ≤ 1048576) (hl : l.length ≤ maxLen) : laws_szStatedS.f l a = some (if (l.length : Int) ≤ a then a - (l.length : Int) else -1) := by
  unfold maxLen at hl
  unfold laws_szStatedS.f
  rw [wrap_in (by omega) (by omega)]
  by_cases h : (l.length : Int) ≤ a
  · rw [if_pos h, if_neg (by omega)]
  · rw [if_neg h, if_pos (by omega)]
def cvStated (x : S82) : S76 := ⟨⟨x.f0.f0, x.f0.f1, x.f0.f2, x.f0.f3, x.f0.f4, x.f0.f5⟩, x.f1⟩
theorem toStated (l : List S82) (hl : l.length ≤ 1048576) (k : Nat) (hk : l.length < k) : laws_toStatedS.f k l = some (l.map cvStated) := by
  unfold laws_toStatedS.f
  rw [if_pos (by omega), if_pos (by omega), Int.toNat_natCast]
  refine (run (fun k s i => laws_toStatedS.l0 k l s i) (put (fun i => cvStated (l.getD i z82)) (List.replicate l.length z76)) l.length 0 (l.map cvStated) ?_ ?_ k (by omega))
  · intro k i _ hi
    have hlen : (put (fun i => cvStated (l.getD i z82)) (List.replicate l.length z76) i).length = l.length := by rw [put_length _ _ _ (by simp; omega), List.length_replicate]
    simp only [laws_toStatedS.l0, laws_toStated.f, laws_toFact.f, Option.bind_some, rdSa]
    rw [if_pos (by omega), if_pos (by omega), if_pos (by omega), wrap_succ hi (by omega), Int.toNat_natCast]
    have := put_set (fun i => cvStated (l.getD i z82)) (List.replicate l.length z76) i (by simp; omega)
    rw [← this]
    rfl
  · intro k _
    simp only [laws_toStatedS.l0]
    rw [if_neg (by omega), put_all _ _ (by simp), map_range_getD l z82 cvStated]
theorem eqStated_self (l : List S76) (hl : l.length ≤ 1099511627776) (k : Nat) (hk : l.length < k) : laws_eqStatedS.f k l l = some true := by
  unfold laws_eqStatedS.f
  rw [if_pos rfl]
  refine run (fun k (_ : Unit) i => laws_eqStatedS.l0 k l l i) (fun _ => ()) l.length 0 true ?_ ?_ k (by omega)
  · intro k i _ hi
    simp only [laws_eqStatedS.l0, laws_eqStated.f, laws_eqFact.f, Option.bind_some, if_true]
    rw [if_pos (by omega), if_pos (by omega), if_pos (by omega), wrap_succ hi hl]
  · intro k _
    simp only [laws_eqStatedS.l0]
    rw [if_neg (by omega)]
theorem markStated_g : ∀ (l : List S76) (a : Int), 0 ≤ a → a + 7 * (l.length : Int) ≤ 1125899906842624 → (laws_markStatedS.g l a).1 = a + 7 * (l.length : Int)
  | [], a, _, _ => by simp [laws_markStatedS.g]
  | x :: l, a, h0, h1 => by
    simp only [List.length_cons] at h1
    have w : wrap64 (wrap64 (wrap64 (wrap64 (wrap64 (wrap64 (wrap64 (a + 1) + 1) + 1) + 1) + 1) + 1) + 1) = a + 7 := by unfold wrap64; omega
    rw [laws_markStatedS.g, w]
    show (laws_markStatedS.g l (a + 7)).1 = _
    rw [markStated_g l (a + 7) (by omega) (by omega)]
    simp only [List.length_cons]
    omega
theorem markStated (l : List S76) (a : Int) (h0 : 0 ≤ a) (h1 : a + 7 * (l.length : Int) ≤ 1125899906842624) : ∃ q, laws_markStatedS.f l a = some (a + 7 * (l.length : Int), q) :=
  ⟨(laws_markStatedS.g l a).2, by unfold laws_markStatedS.f; rw [← markStated_g l a h0 h1]⟩
def heldJ (l : List S48) : Nat := (l.map fun x => x.f1.length).sum
theorem markIssuer (k : Nat) (hk : 1048580 < k) : ∀ (l : List S48) (a : Int), (∀ x ∈ l, x.f1.length ≤ 1048576) → 0 ≤ a → a + 2 * (l.length : Int) + (heldJ l : Int) ≤ 1099511627776 → ∃ q, laws_markIssuerS.f k l a = some (a + 2 * (l.length : Int) + (heldJ l : Int), q)
  | [], a, _, _, _ => ⟨[], by simp [laws_markIssuerS.f, laws_markIssuerS.g, heldJ]⟩
  | x :: l, a, hw, h0, h1 => by
    have hx := hw x (by simp)
    have hh : heldJ (x :: l) = x.f1.length + heldJ l := by simp [heldJ]
    rw [hh] at h1
    simp only [List.length_cons] at h1
    have w1 : wrap64 (a + 1) = a + 1 := wrap_in (by omega) (by omega)
    have w2 : wrap64 (a + 1 + (x.f1.length : Int) + 1) = a + 1 + (x.f1.length : Int) + 1 := wrap_in (by omega) (by omega)
    obtain ⟨q, hq⟩ := markIssuer k hk l (a + 1 + (x.f1.length : Int) + 1) (fun y hy => hw y (by simp [hy])) (by omega) (by omega)
    unfold laws_markIssuerS.f at hq
    refine ⟨⟨a, markedInt (a + 1) x.f1.length, a + 1 + (x.f1.length : Int)⟩ :: q, ?_⟩
    unfold laws_markIssuerS.f
    rw [laws_markIssuerS.g, w1, markInt x.f1 (by omega) (a + 1) (by omega) (by omega) k (by omega), Option.bind_some, w2, hq, Option.bind_some, hh]
    have e : a + 1 + (x.f1.length : Int) + 1 + 2 * (l.length : Int) + (heldJ l : Int) = a + 2 * ((x :: l).length : Int) + ((x.f1.length + heldJ l : Nat) : Int) := by simp only [List.length_cons]; omega
    rw [e]
theorem FnExactTakeStated : laws_FnExactTakeStated.Pure := by
  intro l s t hw hs ht
  suffices h : ∀ k, 300000000 < k → laws_FnExactTakeStated.f k l s t = some true from ⟨300000001, h _ (by omega)⟩
  intro k hk
  obtain ⟨r, hr, hc⟩ := szIssuerS l hw.1 (fun x hx => (hw.2 x hx).2.1.1) 1048576 (by omega) (by omega) k (by omega)
  unfold laws_FnExactTakeStated.f
  rw [hr, Option.bind_some]
  by_cases hneg : r < 0
  · rw [if_pos hneg]
  rcases hc with hc | ⟨h1, h2, h3⟩
  · exact absurd hc hneg
  rw [if_neg hneg, szFact s r (by omega) (by omega) hs.1, Option.bind_some]
  by_cases hs1 : (s.length : Int) ≤ r
  rotate_left
  · rw [if_neg hs1, if_pos (by omega)]
  rw [if_pos hs1, if_neg (by omega), szStated t _ (by omega) (by omega) ht.1, Option.bind_some]
  by_cases ht1 : (t.length : Int) ≤ r - (s.length : Int)
  rotate_left
  · rw [if_neg ht1, if_pos (by omega)]
  rw [if_pos ht1, if_neg (by omega)]
  obtain ⟨g1, g2⟩ := cvI_held l h3
  have hl : (l.map cvI).length = l.length := List.length_map ..
  have hsl : (s.map cvFact).length = s.length := List.length_map ..
  have htl : (t.map cvStated).length = t.length := List.length_map ..
  have hJ : heldJ (l.map cvI) = heldI l := by unfold heldJ heldI; rw [List.map_map]; rfl
  have T0 := toIssuerS l (by omega) g1 k (by omega)
  have T1 := toFact s (by omega) k (by omega)
  have T2 := toStated t (by omega) k (by omega)
  have Q1 := take1 (l.map cvI) (s.map cvFact) (t.map cvStated) (by omega) g2 (by omega) (by omega) k (by omega)
  have Q2 := take2 (l.map cvI) (s.map cvFact) (t.map cvStated) (by omega) g2 (by omega) (by omega) k (by omega)
  have hR := (takeS_len (l.map cvI) (t.map cvStated) (s.map cvFact) 0).1
  generalize takeS (l.map cvI) (t.map cvStated) (s.map cvFact) 0 = R at Q1 Q2 hR
  obtain ⟨R, n⟩ := R
  have hR' : R.length ≤ 40000000 := by simp only at hR; omega
  have E0 := eqIssuerS_self (l.map cvI) (by omega) g2 k (by omega)
  have E1 := eqFact_self (s.map cvFact) (by omega) k (by omega)
  have E2 := eqStated_self (t.map cvStated) (by omega) k (by omega)
  have ER := eqFact_self R (by omega) k (by omega)
  obtain ⟨q0, M0⟩ := markIssuer k (by omega) (l.map cvI) 1 g2 (by omega) (by omega)
  have M1 := markFact (s.map cvFact) (by omega) (1 + 2 * ((l.map cvI).length : Int) + (heldJ (l.map cvI) : Int)) (by omega) (by omega) k (by omega)
  obtain ⟨q2, M2⟩ := markStated (t.map cvStated) (1 + 2 * ((l.map cvI).length : Int) + (heldJ (l.map cvI) : Int) + 6 * ((s.map cvFact).length : Int)) (by omega) (by omega)
  have MR := markFact R (by omega) 1 (by omega) (by omega) k (by omega)
  have HR := heldFact R.length (by omega) 1 (by omega) (by omega) k (by omega)
  have n1 : ¬ (1 + 2 * ((l.map cvI).length : Int) + (heldJ (l.map cvI) : Int) + 6 * ((s.map cvFact).length : Int) + 7 * ((t.map cvStated).length : Int) < 0) := by omega
  have n2 : ¬ (1 + 6 * (R.length : Int) < 0) := by omega
  rw [T0, T1, T2, Option.bind_some, Option.bind_some, Option.bind_some, Q1, Option.bind_some]
  dsimp only
  rw [Option.bind_some, Option.bind_some, Option.bind_some, Q2, Option.bind_some]
  dsimp only
  rw [ER, Option.bind_some, if_pos rfl, if_pos rfl, Option.bind_some, E0, Option.bind_some, if_pos rfl, Option.bind_some, E1, Option.bind_some, if_pos rfl, Option.bind_some, E2, Option.bind_some, if_pos rfl, M0, Option.bind_some]
  dsimp only
  rw [M1, Option.bind_some]
  dsimp only
  rw [M2, Option.bind_some]
  dsimp only
  rw [if_neg n1, Option.bind_some, if_pos rfl, MR, Option.bind_some]
  dsimp only
  rw [HR, Option.bind_some, if_neg n2, if_pos rfl, Option.bind_some, Option.bind_some, Option.bind_some, Q2, Option.bind_some]
  dsimp only
  rw [ER, Option.bind_some, if_pos rfl, if_pos rfl, Option.bind_some, if_neg n2, if_pos rfl]
end Go.Proofs.Ytabpgiebhgkfhaa.Pure
