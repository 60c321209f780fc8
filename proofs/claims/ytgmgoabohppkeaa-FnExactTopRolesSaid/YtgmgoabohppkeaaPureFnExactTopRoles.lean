/- FnExactTopRoles: the program's TopRoles answers what the reference's answers, for all lists; it leaves what it is given, and what it returns is new memory. Conditions: none. -/
import Derived.Test.YtgmgoabohppkeaaLib
import Derived.Test.YtgmgoabohppkeaaXFnExactTopRolesx2
namespace Go.Proofs.Ytgmgoabohppkeaa.Pure
open Go.RowKit Go.Proofs.Ytgmgoabohppkeaa.XFnExactTopRoles Go.Proofs.YtgmgoabohppkeaaW.PrintWords
set_option linter.unusedVariables false
set_option linter.unusedSimpArgs false
open Go.Proofs.YtgmgoabohppkeaaLib
theorem eqIntS_self (l : List Int) (hl : l.length ≤ 1099511627776) (k : Nat) (hk : l.length < k) : laws_eqIntS.f k l l = some true := by
  unfold laws_eqIntS.f
  rw [if_pos rfl]
  refine run (fun k (_ : Unit) i => laws_eqIntS.l0 k l l i) (fun _ => ()) l.length 0 true ?_ ?_ k (by omega)
  · intro k i _ hi
    simp only [laws_eqIntS.l0]
    rw [if_pos (by omega), if_pos (by omega), if_pos (by omega), if_pos trivial, wrap_succ hi hl]
  · intro k _
    simp only [laws_eqIntS.l0]
    rw [if_neg (by omega)]
def markedInt (a : Int) (n : Nat) : List Int := (List.range n).map (fun i : Nat => (a + (i : Int)))
theorem markInt (l : List Int) (hl : l.length ≤ 1099511627776) (a : Int) (ha : 0 ≤ a) (ha2 : a ≤ 1099511627776) (k : Nat) (hk : l.length < k) : laws_markIntS.f k l a = some (a + (l.length : Int), markedInt a l.length) := by
  unfold laws_markIntS.f
  have h := run (fun k (s : List Int × Int) i => laws_markIntS.l0 k s.1 s.2 i) (fun i => (put (fun i : Nat => (a + (i : Int))) l i, (a + (i : Int)))) l.length 0 (a + (l.length : Int), markedInt a l.length) ?_ ?_ k (by omega)
  · simpa [put_zero] using h
  · intro k i _ hi
    have hlen : (put (fun i : Nat => (a + (i : Int))) l i).length = l.length := put_length _ _ _ (by omega)
    have hlt : i < (put (fun i : Nat => (a + (i : Int))) l i).length := by omega
    have w0 : wrap64 ((a + (i : Int)) + 1) = (a + (i : Int)) + 1 := wrap_in (by omega) (by omega)
    have wn : (a + (i : Int)) + 1 = a + ((i + 1 : Nat) : Int) := by omega
    simp only [laws_markIntS.l0, Option.bind_some, Int.toNat_natCast]
    rw [if_pos (by omega), if_pos (by omega), wrap_succ hi hl]
    simp only [w0]
    rw [wn, put_set (fun i : Nat => (a + (i : Int))) l i (by omega)]
  · intro k _
    simp only [laws_markIntS.l0]
    rw [if_neg (by rw [put_length _ _ _ (Nat.le_refl _)]; omega), put_all _ _ rfl]
    rfl
theorem heldInt (n : Nat) (hl : n ≤ 1099511627776) (a : Int) (ha : 0 ≤ a) (ha2 : a ≤ 1099511627776) (k : Nat) (hk : n < k) : laws_heldIntS.f k (markedInt a n) a = some (a + (n : Int)) := by
  have hn : (markedInt a n).length = n := by simp [markedInt]
  unfold laws_heldIntS.f
  have h := run (fun k s i => laws_heldIntS.l0 k (markedInt a n) s i) (fun i => (a + (i : Int))) n 0 (a + (n : Int)) ?_ ?_ k (by omega)
  · simpa using h
  · intro k i _ hi
    have hg : (markedInt a n).getD i 0 = (fun i : Nat => (a + (i : Int))) i := getD_map_range (fun i : Nat => (a + (i : Int))) n i hi 0
    have w0 : wrap64 ((a + (i : Int)) + 1) = (a + (i : Int)) + 1 := wrap_in (by omega) (by omega)
    have wn : (a + (i : Int)) + 1 = a + ((i + 1 : Nat) : Int) := by omega
    simp only [laws_heldIntS.l0, rd_nat, hg]
    simp only [w0, if_true]
    rw [if_pos (by omega), if_pos (by omega), wrap_succ hi hl, wn]
  · intro k _
    simp only [laws_heldIntS.l0]
    rw [if_neg (by omega)]
theorem rdT80 (l : List S80) (i : Nat) : rd_T80 l (i : Int) = l.getD i z80 := by
  unfold rd_T80
  rw [Int.toNat_natCast]
theorem rdT78 (l : List S78) (i : Nat) : rd_T78 l (i : Int) = l.getD i z78 := by
  unfold rd_T78
  rw [Int.toNat_natCast]
theorem szIncludes (l : List S80) (a : Int) (h0 : 0 ≤ a) (h1 : a ≤ 1048576) (hl : l.length ≤ maxLen) : laws_szIncludesS.f l a = some (if (l.length : Int) ≤ a then a - (l.length : Int) else -1) := by
  unfold maxLen at hl
  unfold laws_szIncludesS.f
  rw [wrap_in (by omega) (by omega)]
  by_cases h : (l.length : Int) ≤ a
  · rw [if_pos h, if_neg (by omega)]
  · rw [if_neg h, if_pos (by omega)]
def cvIncludes (x : S80) : S78 := ⟨x.f0, x.f1⟩
theorem toIncludes (l : List S80) (hl : l.length ≤ 1048576) (k : Nat) (hk : l.length < k) : laws_toIncludesS.f k l = some (l.map cvIncludes) := by
  unfold laws_toIncludesS.f
  rw [if_pos (by omega), if_pos (by omega), Int.toNat_natCast]
  refine (run (fun k s i => laws_toIncludesS.l0 k l s i) (put (fun i => (⟨(l.getD i z80).f0, (l.getD i z80).f1⟩ : S78)) (List.replicate l.length z78)) l.length 0 (l.map cvIncludes) ?_ ?_ k (by omega))
  · intro k i _ hi
    have hlen : (put (fun i => (⟨(l.getD i z80).f0, (l.getD i z80).f1⟩ : S78)) (List.replicate l.length z78) i).length = l.length := by rw [put_length _ _ _ (by simp; omega), List.length_replicate]
    simp only [laws_toIncludesS.l0, laws_toIncludes.f, Option.bind_some, rdT80]
    rw [if_pos (by omega), if_pos (by omega), if_pos (by omega), wrap_succ hi (by omega), Int.toNat_natCast, put_set (fun i => (⟨(l.getD i z80).f0, (l.getD i z80).f1⟩ : S78)) _ i (by simp; omega)]
  · intro k _
    simp only [laws_toIncludesS.l0]
    rw [if_neg (by omega), put_all _ _ (by simp), map_range_getD l z80 (fun x => (⟨x.f0, x.f1⟩ : S78))]
    rfl
theorem eqIncludes_self (l : List S78) (hl : l.length ≤ 1099511627776) (k : Nat) (hk : l.length < k) : laws_eqIncludesS.f k l l = some true := by
  unfold laws_eqIncludesS.f
  rw [if_pos rfl]
  refine run (fun k (_ : Unit) i => laws_eqIncludesS.l0 k l l i) (fun _ => ()) l.length 0 true ?_ ?_ k (by omega)
  · intro k i _ hi
    simp only [laws_eqIncludesS.l0, laws_eqIncludes.f, Option.bind_some, if_true]
    rw [if_pos (by omega), if_pos (by omega), if_pos (by omega), wrap_succ hi hl]
  · intro k _
    simp only [laws_eqIncludesS.l0]
    rw [if_neg (by omega)]
def markedIncludes (a : Int) (n : Nat) : List S78 := (List.range n).map (fun i : Nat => (⟨(a + 2 * (i : Int)), (a + 2 * (i : Int)) + 1⟩ : S78))
theorem markIncludes (l : List S78) (hl : l.length ≤ 1099511627776) (a : Int) (ha : 0 ≤ a) (ha2 : a ≤ 1099511627776) (k : Nat) (hk : l.length < k) : laws_markIncludesS.f k l a = some (a + 2 * (l.length : Int), markedIncludes a l.length) := by
  unfold laws_markIncludesS.f
  have h := run (fun k (s : List S78 × Int) i => laws_markIncludesS.l0 k s.1 s.2 i) (fun i => (put (fun i : Nat => (⟨(a + 2 * (i : Int)), (a + 2 * (i : Int)) + 1⟩ : S78)) l i, (a + 2 * (i : Int)))) l.length 0 (a + 2 * (l.length : Int), markedIncludes a l.length) ?_ ?_ k (by omega)
  · simpa [put_zero] using h
  · intro k i _ hi
    have hlen : (put (fun i : Nat => (⟨(a + 2 * (i : Int)), (a + 2 * (i : Int)) + 1⟩ : S78)) l i).length = l.length := put_length _ _ _ (by omega)
    have hlt : i < (put (fun i : Nat => (⟨(a + 2 * (i : Int)), (a + 2 * (i : Int)) + 1⟩ : S78)) l i).length := by omega
    have w0 : wrap64 ((a + 2 * (i : Int)) + 1) = (a + 2 * (i : Int)) + 1 := wrap_in (by omega) (by omega)
    have w1 : wrap64 ((a + 2 * (i : Int)) + 1 + 1) = (a + 2 * (i : Int)) + 1 + 1 := wrap_in (by omega) (by omega)
    have wn : (a + 2 * (i : Int)) + 1 + 1 = a + 2 * ((i + 1 : Nat) : Int) := by omega
    simp only [laws_markIncludesS.l0, Option.bind_some, Int.toNat_natCast, rdT78, List.set_set, getD_set_self _ _ _ _ hlt]
    rw [if_pos (by omega), if_pos (by omega), wrap_succ hi hl]
    simp only [w0, w1]
    rw [wn, put_set (fun i : Nat => (⟨(a + 2 * (i : Int)), (a + 2 * (i : Int)) + 1⟩ : S78)) l i (by omega)]
  · intro k _
    simp only [laws_markIncludesS.l0]
    rw [if_neg (by rw [put_length _ _ _ (Nat.le_refl _)]; omega), put_all _ _ rfl]
    rfl
def topS (l : List S78) : Nat → Int → List Int → List Int
  | 0, _, out => out
  | d + 1, v, out => topS l d (v + 1) (if (l.all fun x => x.f1 != v) = true then out ++ [v] else out)
theorem topS_len (l : List S78) (d : Nat) : ∀ v out, (topS l d v out).length ≤ out.length + d := by
  induction d with
  | zero => intro v out; exact Nat.le_refl _
  | succ d ih =>
    intro v out
    rw [topS]
    split
    · have := ih (v + 1) (out ++ [v])
      rw [List.length_append] at this
      simp at this
      omega
    · have := ih (v + 1) out
      omega
theorem topIdx (l : List S78) (v : Int) : (0 ≤ impl_TopRoles.idx (impl_TopRoles.out v) l) ↔ ¬ (l.all fun x => x.f1 != v) = true := by
  unfold impl_TopRoles.idx
  cases hf : (List.range l.length).find? fun i => impl_TopRoles.out v (l.getD i z78) with
  | none =>
    rw [List.find?_eq_none] at hf
    constructor
    · intro h
      exact absurd h (by decide)
    · intro h
      refine absurd ?_ h
      rw [List.all_eq_true]
      intro x hx
      obtain ⟨i, hi, rfl⟩ := List.mem_iff_getElem.1 hx
      have := hf i (List.mem_range.2 hi)
      rw [getD_get l i _ hi] at this
      simpa [impl_TopRoles.out] using this
  | some i =>
    rw [List.find?_range_eq_some] at hf
    constructor
    · intro _ h
      rw [List.all_eq_true] at h
      have hi : i < l.length := by simpa using hf.2.1
      have h1 := h _ (List.getElem_mem hi)
      have h2 := hf.1
      rw [getD_get l i _ hi] at h2
      simp only [impl_TopRoles.out] at h2
      simp only [bne, h2] at h1
      cases h1
    · intro _
      exact Int.natCast_nonneg i
theorem top2 (l : List S78) : impl_TopRoles.f l = some (topS l 6 0 []) := by
  have key : ∀ d v out, impl_TopRoles.g l d v out = topS l d v out := by
    intro d
    induction d with
    | zero => intro v out; rfl
    | succ d ih =>
      intro v out
      rw [impl_TopRoles.g, topS, ih]
      by_cases h : (l.all fun x => x.f1 != v) = true
      · rw [if_pos h, if_neg (fun q => (topIdx l v).1 q h)]
      · rw [if_neg h, if_pos ((topIdx l v).2 h)]
  unfold impl_TopRoles.f
  rw [key]
theorem topInner (l : List S78) (hl : l.length ≤ 1048576) (x3 : List Int) (x4 : Int) (hx : x3.length ≤ 100) : ∀ (b a : List S78) (x5 : Bool) (k : Nat), l = a ++ b → spec_TopRoles.l1 (k + b.length + 1) l x3 x4 x5 (a.length : Int) = spec_TopRoles.l0 k l (if (x5 && b.all fun x => x.f1 != x4) = true then x3 ++ [x4] else x3) (wrap64 (x4 + 1)) := by
  intro b
  induction b with
  | nil =>
    intro a x5 k he
    have hla : l.length = a.length := by rw [he]; simp
    simp only [spec_TopRoles.l1]
    rw [if_neg (by omega)]
    cases x5 with
    | true =>
      rw [if_pos rfl, if_pos (by omega)]
      rfl
    | false => rfl
  | cons x r ih =>
    intro a x5 k he
    have hla : l.length = a.length + (r.length + 1) := by rw [he]; simp
    have hx' : rd_T78 l (a.length : Int) = x := by
      rw [rdT78, he, getD_get _ _ _ (by simp), List.getElem_append_right (Nat.le_refl _)]
      simp
    have hw : wrap64 ((a.length : Int) + 1) = (((a ++ [x]).length : Nat) : Int) := by rw [List.length_append]; unfold wrap64; simp; omega
    have he' : l = (a ++ [x]) ++ r := by rw [he]; simp
    rw [List.length_cons, show k + (r.length + 1) + 1 = (k + r.length + 1) + 1 by omega]
    generalize hq : k + r.length + 1 = q
    simp only [spec_TopRoles.l1, hx']
    rw [if_pos (by omega)]
    cases x5 with
    | true =>
      rw [if_pos rfl, if_pos (by omega), hw, ← hq, ih (a ++ [x]) (x.f1 != x4) k he']
      rfl
    | false =>
      rw [if_neg (by simp), hw, ← hq, ih (a ++ [x]) false k he']
      rfl
theorem topOuter (l : List S78) (hl : l.length ≤ 1048576) (m : Nat) : ∀ (v : Int) (out : List Int) (k : Nat), v + (m : Int) = 6 → 0 ≤ v → out.length + m ≤ 50 → spec_TopRoles.l0 (k + m * (l.length + 2) + 1) l out v = some (topS l m v out) := by
  induction m with
  | zero =>
    intro v out k hv _ ho
    simp only [spec_TopRoles.l0]
    rw [if_neg (by omega)]
    rfl
  | succ m ih =>
    intro v out k hv h0 ho
    rw [Nat.succ_mul, show k + (m * (l.length + 2) + (l.length + 2)) + 1 = ((k + m * (l.length + 2) + 1) + l.length + 1) + 1 by omega]
    simp only [spec_TopRoles.l0]
    rw [if_pos (by omega)]
    have := topInner l hl out v (by omega) l [] true (k + m * (l.length + 2) + 1) (by simp)
    rw [show (([] : List S78).length : Int) = 0 from rfl] at this
    have hlen : ∀ b : Bool, (if b = true then out ++ [v] else out).length + m ≤ 50 := by
      intro b
      cases b
      · show out.length + m ≤ 50
        omega
      · show (out ++ [v]).length + m ≤ 50
        rw [List.length_append]
        simp
        omega
    rw [this, Bool.true_and, wrap_in (by omega) (by omega), ih (v + 1) _ k (by omega) (by omega) (hlen _), topS]
theorem top1 (l : List S78) (hl : l.length ≤ 1048576) (k : Nat) (hk : 7000000 < k) : spec_TopRoles.f k l = some (topS l 6 0 []) := by
  have := topOuter l hl 6 0 [] (k - 6 * (l.length + 2) - 1) (by omega) (by omega) (by simp)
  rw [show k - 6 * (l.length + 2) - 1 + 6 * (l.length + 2) + 1 = k by omega] at this
  exact this
theorem FnExactTopRoles : laws_FnExactTopRoles.Pure := by
  intro l hw
  suffices h : ∀ k, 8000000 < k → laws_FnExactTopRoles.f (k + 1) l = some true from ⟨8000001 + 1, h _ (by omega)⟩
  intro k hk
  unfold laws_FnExactTopRoles.f
  rw [szIncludes l 1048576 (by omega) (by omega) hw.1]
  simp only [Option.bind_some]
  by_cases h : (l.length : Int) ≤ 1048576
  · have hl : (l.map cvIncludes).length = l.length := List.length_map ..
    rw [if_pos h, if_neg (by omega)]
    have T := fun k' hk' => toIncludes l (by omega) k' hk'
    have A1 := top1 (l.map cvIncludes) (by omega)
    have A2 := top2 (l.map cvIncludes)
    have hR := topS_len (l.map cvIncludes) 6 0 []
    generalize topS (l.map cvIncludes) 6 0 [] = R at hR A1 A2
    have hR' : R.length ≤ 6 := by simpa using hR
    have E0 := eqIntS_self R (by omega)
    have E1 := eqIncludes_self (l.map cvIncludes) (by omega)
    have M0 := markInt R (by omega) 1 (by omega) (by omega)
    have M1 := markIncludes (l.map cvIncludes) (by omega) 1 (by omega) (by omega)
    have H := heldInt R.length (by omega) 1 (by omega) (by omega)
    have g1 : ¬ (1 + 2 * ((l.map cvIncludes).length : Int) < 0) := by omega
    have g2 : ¬ (1 + (R.length : Int) < 0) := by omega
    simp only [laws_FnExactTopRoles.j0, T (k + 1) (by omega), T k (by omega), A1 (k + 1) (by omega), A2, E0 (k + 1) (by omega), E0 k (by omega), E1 (k + 1) (by omega), M0 k (by omega), M1 (k + 1) (by omega), H k (by omega), Option.bind_some, if_true, g1, g2, if_false, Bool.not_true, Bool.false_eq_true]
  · rw [if_neg h, if_pos (by omega)]
end Go.Proofs.Ytgmgoabohppkeaa.Pure
