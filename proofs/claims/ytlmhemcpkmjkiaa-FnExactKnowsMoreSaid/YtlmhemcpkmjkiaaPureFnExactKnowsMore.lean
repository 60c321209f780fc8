/- FnExactKnowsMore: the program's KnowsMore answers what the reference's answers, for all two lists. Conditions: none. -/
import Derived.Test.YtlmhemcpkmjkiaaLib
import Derived.Test.YtlmhemcpkmjkiaaXFnExactKnowsMorex2
namespace Go.Proofs.Ytlmhemcpkmjkiaa.Pure
open Go.RowKit Go.Proofs.Ytlmhemcpkmjkiaa.XFnExactKnowsMore Go.Proofs.YtlmhemcpkmjkiaaW.PrintWords
set_option linter.unusedVariables false
set_option linter.unusedSimpArgs false
open Go.Proofs.YtlmhemcpkmjkiaaLib
theorem in2 (x y z : Int) : impl_InRange.f x y z = some (decide (y ≤ x ∧ x ≤ z)) := by
  unfold impl_InRange.f
  by_cases h : y ≤ x
  · rw [if_pos h]; simp [h]
  · rw [if_neg h]; simp; omega
theorem rdT93 (l : List S93) (i : Nat) : rd_T93 l (i : Int) = l.getD i z93 := by
  unfold rd_T93
  rw [Int.toNat_natCast]
theorem rdT91 (l : List S91) (i : Nat) : rd_T91 l (i : Int) = l.getD i z91 := by
  unfold rd_T91
  rw [Int.toNat_natCast]
theorem szRevoked (l : List S93) (a : Int) (h0 : 0 ≤ a) (h1 : a ≤ 1048576) (hl : l.length ≤ maxLen) : laws_szRevokedS.f l a = some (if (l.length : Int) ≤ a then a - (l.length : Int) else -1) := by
  unfold maxLen at hl
  unfold laws_szRevokedS.f
  rw [wrap_in (by omega) (by omega)]
  by_cases h : (l.length : Int) ≤ a
  · rw [if_pos h, if_neg (by omega)]
  · rw [if_neg h, if_pos (by omega)]
def cvRevoked (x : S93) : S91 := ⟨x.f0, x.f1⟩
theorem toRevoked (l : List S93) (hl : l.length ≤ 1048576) (k : Nat) (hk : l.length < k) : laws_toRevokedS.f k l = some (l.map cvRevoked) := by
  unfold laws_toRevokedS.f
  rw [if_pos (by omega), if_pos (by omega), Int.toNat_natCast]
  refine (run (fun k s i => laws_toRevokedS.l0 k l s i) (put (fun i => (⟨(l.getD i z93).f0, (l.getD i z93).f1⟩ : S91)) (List.replicate l.length z91)) l.length 0 (l.map cvRevoked) ?_ ?_ k (by omega))
  · intro k i _ hi
    have hlen : (put (fun i => (⟨(l.getD i z93).f0, (l.getD i z93).f1⟩ : S91)) (List.replicate l.length z91) i).length = l.length := by rw [put_length _ _ _ (by simp; omega), List.length_replicate]
    simp only [laws_toRevokedS.l0, laws_toRevoked.f, Option.bind_some, rdT93]
    rw [if_pos (by omega), if_pos (by omega), if_pos (by omega), wrap_succ hi (by omega), Int.toNat_natCast, put_set (fun i => (⟨(l.getD i z93).f0, (l.getD i z93).f1⟩ : S91)) _ i (by simp; omega)]
  · intro k _
    simp only [laws_toRevokedS.l0]
    rw [if_neg (by omega), put_all _ _ (by simp), map_range_getD l z93 (fun x => (⟨x.f0, x.f1⟩ : S91))]
    rfl
theorem eqRevoked_self (l : List S91) (hl : l.length ≤ 1099511627776) (k : Nat) (hk : l.length < k) : laws_eqRevokedS.f k l l = some true := by
  unfold laws_eqRevokedS.f
  rw [if_pos rfl]
  refine run (fun k (_ : Unit) i => laws_eqRevokedS.l0 k l l i) (fun _ => ()) l.length 0 true ?_ ?_ k (by omega)
  · intro k i _ hi
    simp only [laws_eqRevokedS.l0, laws_eqRevoked.f, Option.bind_some, if_true]
    rw [if_pos (by omega), if_pos (by omega), if_pos (by omega), wrap_succ hi hl]
  · intro k _
    simp only [laws_eqRevokedS.l0]
    rw [if_neg (by omega)]
def revokedAt (l : List S91) (s : Int) : Int := ((List.range l.length).find? fun i => (l.getD i z91).f0 == s).elim (-1) fun i => (l.getD i z91).f1
theorem revokedAt1 (l : List S91) (s : Int) (hl : l.length ≤ 1099511627776) (k : Nat) (hk : l.length < k) : spec_RevokedAt.f k l s = some (revokedAt l s) := by
  unfold spec_RevokedAt.f
  refine findLoop (fun k i => spec_RevokedAt.l0 k l s i) l.length 0 (fun i => (l.getD i z91).f0 == s) (fun i => (l.getD i z91).f1) (-1) ?_ ?_ ?_ k (by omega)
  · intro k i _ hi hp
    simp only [spec_RevokedAt.l0, rdT91]
    rw [if_pos (by omega), if_pos (by omega), if_neg (by simpa using hp), wrap_succ hi hl]
  · intro k i _ hi hp
    simp only [spec_RevokedAt.l0, rdT91]
    rw [if_pos (by omega), if_pos (by omega), if_pos (by simpa using hp)]
  · intro k _
    simp only [spec_RevokedAt.l0]
    rw [if_neg (by omega)]
theorem revokedAt2 (l : List S91) (s : Int) : impl_RevokedAt.f l s = some (revokedAt l s) := by
  unfold impl_RevokedAt.f impl_RevokedAt.idx revokedAt
  rw [show impl_RevokedAt.out s = fun x => x.f0 == s from rfl]
  cases (List.range l.length).find? fun i => (l.getD i z91).f0 == s with
  | none => rfl
  | some i =>
    show some (if (i : Int) < 0 then -1 else (rd_T91 l (i : Int)).f1) = some (l.getD i z91).f1
    rw [if_neg (by omega), rdT91]
def knowsAt (a : List S91) (x : S91) : Bool := decide (0 ≤ revokedAt a x.f0 ∧ revokedAt a x.f0 ≤ x.f1)
def knowsMore (a b : List S91) : Bool := (List.range b.length).all fun i => knowsAt a (b.getD i z91)
theorem knows1 (a b : List S91) (ha : a.length ≤ 1048576) (hb : b.length ≤ 1048576) (k : Nat) (hk : 4194304 < k) : spec_KnowsMore.f k a b = some (knowsMore a b) := by
  unfold spec_KnowsMore.f
  rw [allLoop (fun k i => spec_KnowsMore.l0 k a b i) b.length 1048577 (fun i => knowsAt a (b.getD i z91)) false true ?_ ?_ ?_ k (by omega)]
  · unfold knowsMore
    cases (List.range b.length).all fun i => knowsAt a (b.getD i z91) <;> rfl
  · intro k i hk hi hp
    have hp' := of_decide_eq_true hp
    simp only [spec_KnowsMore.l0, rdT91]
    rw [if_pos (by omega), if_pos (by omega), revokedAt1 a _ (by omega) k (by omega), Option.bind_some, if_neg (by omega), if_neg (by omega), wrap_succ hi (by omega)]
  · intro k i hk hi hp
    have hp' := of_decide_eq_false hp
    simp only [spec_KnowsMore.l0, rdT91]
    rw [if_pos (by omega), if_pos (by omega), revokedAt1 a _ (by omega) k (by omega), Option.bind_some]
    by_cases h : revokedAt a (b.getD i z91).f0 < 0
    · rw [if_pos h]
    · rw [if_neg h, if_pos (by omega)]
  · intro k _
    simp only [spec_KnowsMore.l0]
    rw [if_neg (by omega)]
theorem knows2 (a b : List S91) : impl_KnowsMore.f a b = some (knowsMore a b) := by
  have ho : ∀ x, impl_KnowsMore.out a x = !knowsAt a x := fun x => by
    have h := impl_KnowsMore.out_of a x
    simp only [impl_KnowsMore_1.f, revokedAt2, in2, Option.bind_some] at h
    exact (Option.some.inj h).symm
  unfold impl_KnowsMore.f
  congr 1
  unfold impl_KnowsMore.idx knowsMore
  cases hf : (List.range b.length).find? fun i => impl_KnowsMore.out a (b.getD i z91) with
  | none =>
    rw [List.find?_eq_none] at hf
    show (!decide (0 ≤ (-1 : Int))) = _
    rw [show (!decide (0 ≤ (-1 : Int))) = true from rfl, eq_comm, List.all_eq_true]
    intro i hi
    have := hf i hi
    rw [ho] at this
    simpa using this
  | some i =>
    rw [List.find?_range_eq_some] at hf
    show (!decide (0 ≤ (i : Int))) = _
    rw [decide_eq_true (show (0 : Int) ≤ (i : Int) by omega), eq_comm, show (!true) = false from rfl, List.all_eq_false]
    refine ⟨i, hf.2.1, ?_⟩
    have := hf.1
    rw [ho] at this
    simpa using this
theorem FnExactKnowsMore : laws_FnExactKnowsMore.Pure := by
  intro a b ha hb
  suffices h : ∀ k, 4194305 < k → laws_FnExactKnowsMore.f k a b = some true from ⟨4194306, h _ (by omega)⟩
  intro k hk
  unfold laws_FnExactKnowsMore.f
  rw [szRevoked a 1048576 (by omega) (by omega) ha.1, Option.bind_some]
  by_cases h : (a.length : Int) ≤ 1048576
  · rw [if_pos h, if_neg (by omega), szRevoked b _ (by omega) (by omega) hb.1, Option.bind_some]
    by_cases g : (b.length : Int) ≤ 1048576 - (a.length : Int)
    · have hl : (a.map cvRevoked).length = a.length := List.length_map ..
      have gl : (b.map cvRevoked).length = b.length := List.length_map ..
      rw [if_pos g, if_neg (by omega)]
      simp only [toRevoked a (by omega) k (by omega), toRevoked b (by omega) k (by omega), knows1 (a.map cvRevoked) (b.map cvRevoked) (by omega) (by omega) k (by omega), knows2, eqRevoked_self (a.map cvRevoked) (by omega) k (by omega), eqRevoked_self (b.map cvRevoked) (by omega) k (by omega), Option.bind_some, bne_self_eq_false, if_true]
      rfl
    · rw [if_neg g, if_pos (by omega)]
  · rw [if_neg h, if_pos (by omega)]
end Go.Proofs.Ytlmhemcpkmjkiaa.Pure
