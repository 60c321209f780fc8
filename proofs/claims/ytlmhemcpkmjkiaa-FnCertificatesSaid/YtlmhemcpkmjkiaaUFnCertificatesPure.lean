/- FnCertificates: what is said of certificates holds for all bytes. Conditions: none. -/
import Derived.Test.YtlmhemcpkmjkiaaUFnCertificatesLib
import Derived.Test.YtlmhemcpkmjkiaaUFnCertificatesx7
namespace Go.Proofs.Ytlmhemcpkmjkiaa.Pure
open Go.RowKit Go.Proofs.Ytlmhemcpkmjkiaa.XFnCertificates Go.Proofs.YtlmhemcpkmjkiaaW.PrintWords
set_option linter.unusedVariables false
set_option linter.unusedSimpArgs false
open Go.Proofs.YtlmhemcpkmjkiaaLib
theorem in1 (x y z : Int) : spec_l1In.f x y z = some (decide (y ≤ x ∧ x ≤ z)) := by
  unfold spec_l1In.f
  by_cases h : x ≥ y
  · rw [if_pos h]; simp [show y ≤ x from h]
  · rw [if_neg h]; simp; omega
theorem in2 (x y z : Int) : impl_InRange.f x y z = some (decide (y ≤ x ∧ x ≤ z)) := by
  unfold impl_InRange.f
  by_cases h : y ≤ x
  · rw [if_pos h]; simp [h]
  · rw [if_neg h]; simp; omega
def md (v : Int) : Int := Int.tmod (wrap64 (Int.tmod v 2147483647 + 2147483647)) 2147483647
def hstep (d v : Int) : Int := Int.tmod (wrap64 ((wrap64 ((wrap64 (d * 1000003)) + md v)) + 13)) 2147483647
def hash (l : List Int) : Int := l.foldl hstep 11
theorem mod1 (v : Int) : spec_Mod.f v 2147483647 = some (md v) := by
  simp [spec_Mod.f, in1, md]
theorem mod2 (v : Int) : impl_Mod.f v 2147483647 = some (md v) := by
  simp [impl_Mod.f, in2, md]
theorem hash1 (l : List Int) (hl : l.length ≤ 1099511627776) (k : Nat) (hk : l.length < k) : spec_Hash.f k l = some (hash l) := by
  unfold spec_Hash.f
  refine run (fun k s i => spec_Hash.l0 k l s i) (fun i => (l.take i).foldl hstep 11) l.length 0 (hash l) ?_ ?_ k (by omega)
  · intro k i _ hi
    simp only [spec_Hash.l0]
    rw [if_pos (by omega), if_pos (by omega), mod1, Option.bind_some, wrap_succ hi hl, rd_nat, foldl_take hstep 11 l i hi 0]
    rfl
  · intro k _
    simp only [spec_Hash.l0]
    rw [if_neg (by omega), List.take_length]
    rfl
theorem hash2 (l : List Int) (hl : l.length ≤ 1099511627776) (k : Nat) (hk : l.length < k) : impl_Hash.f k l = some (hash l) := by
  unfold impl_Hash.f
  refine run (fun k s i => impl_Hash.l0 k s l (l.length : Int) i) (fun i => (l.take i).foldl hstep 11) l.length 0 (hash l) ?_ ?_ k (by omega)
  · intro k i _ hi
    simp only [impl_Hash.l0]
    rw [if_pos (by omega), if_pos (by omega), if_pos (by omega), mod2, Option.bind_some, wrap_succ hi hl, rd_nat, foldl_take hstep 11 l i hi 0]
    rfl
  · intro k _
    simp only [impl_Hash.l0]
    rw [if_neg (by omega), List.take_length]
    rfl
theorem rdL (L : List (List Int)) (i : Nat) : rd_L2 L (i : Int) = L.getD i [] := by
  unfold rd_L2
  rw [Int.toNat_natCast]
theorem grow0 (n : Nat) (h : n ≤ 1099511627776) : slices_Grow_int_int.f [] (n : Int) = some [] := by
  unfold slices_Grow_int_int.f
  rw [if_pos ⟨rfl, by omega, by omega⟩]
theorem concat (L : List (List Int)) (hl : L.length ≤ 1048576) (ht : L.flatten.length ≤ 1099511627776) (k : Nat) (hk : 2 * L.length + 2 < k) : slices_Concat_int_int.f k L = some L.flatten := by
  unfold slices_Concat_int_int.f
  refine run (fun k s i => slices_Concat_int_int.l0 k L s L (L.length : Int) i) (fun i => ((L.take i).flatten.length : Int)) L.length (L.length + 1) L.flatten ?_ ?_ k (by omega)
  · intro k i _ hi
    have h1 := flatten_take L i hi
    have h2 := flatten_take_le L (i + 1)
    have h3 : ((L.take (i + 1)).flatten.length : Int) = ((L.take i).flatten.length : Int) + ((L.getD i []).length : Int) := by rw [h1, List.length_append]; omega
    have hw : wrap64 (((L.take i).flatten.length : Int) + ((L.getD i []).length : Int)) = ((L.take (i + 1)).flatten.length : Int) := by rw [h3]; exact wrap_in (by omega) (by omega)
    simp only [slices_Concat_int_int.l0, rdL]
    rw [if_pos (by omega), if_pos (by omega), if_pos (by omega), hw, if_neg (by omega), wrap_succ hi (by omega)]
  · intro k hk
    simp only [slices_Concat_int_int.l0]
    rw [if_neg (by omega), List.take_length, grow0 _ ht, Option.bind_some]
    refine run (fun k s i => slices_Concat_int_int.l1 k s L (L.length : Int) i) (fun i => (L.take i).flatten) L.length 0 L.flatten ?_ ?_ k (by omega)
    · intro k i _ hi
      have h1 := flatten_take L i hi
      have h2 := flatten_take_le L (i + 1)
      rw [h1, List.length_append] at h2
      simp only [slices_Concat_int_int.l1, rdL]
      rw [if_pos (by omega), if_pos (by omega), if_pos (by omega), if_pos (by omega), ← h1, wrap_succ hi (by omega)]
    · intro k _
      simp only [slices_Concat_int_int.l1]
      rw [if_neg (by omega), List.take_length]
def keyed (a : Int) (l : List Int) : Int := hash ([a] ++ l ++ [a])
theorem keyed1 (a : Int) (l : List Int) (hl : l.length ≤ 1048576) (k : Nat) (hk : l.length + 5 < k) : spec_KeyedHash.f k a l = some (keyed a l) := by
  unfold spec_KeyedHash.f
  rw [Option.bind_some, if_pos (by simp; omega), Option.bind_some, if_pos (by simp; omega), hash1 _ (by simp; omega) k (by simp; omega)]
  rfl
theorem keyed2 (a : Int) (l : List Int) (hl : l.length ≤ 1048576) (k : Nat) (hk : l.length + 20 < k) : impl_KeyedHash.f k a l = some (keyed a l) := by
  unfold impl_KeyedHash.f
  have hf : [[a], l, [a]].flatten = [a] ++ l ++ [a] := by simp
  rw [concat [[a], l, [a]] (by simp) (by rw [hf]; simp; omega) k (by simp; omega), Option.bind_some, hf, hash2 _ (by simp; omega) k (by simp; omega)]
  rfl
def timeOk (t : Int) : Bool := decide (0 ≤ t ∧ t ≤ 10000)
theorem time1 (t : Int) : spec_IsTime.f t = some (timeOk t) := by
  simp only [spec_IsTime.f, in1, Option.bind_some]
  rfl
theorem time2 (t : Int) : impl_IsTime.f t = some (timeOk t) := by
  simp only [impl_IsTime.f, in2, Option.bind_some]
  rfl
def isCert (a b c d e : Int) : Bool := decide (1 ≤ a ∧ a ≤ 9999) && (decide (10 ≤ b ∧ b ≤ 49) && (decide (1 ≤ c ∧ c ≤ 2147483646) && (timeOk d && (timeOk e && decide (0 ≤ e - d ∧ e - d ≤ 50)))))
theorem cert1 (a b c d e f : Int) : spec_IsCert.f a b c d e f = some (isCert a b c d e) := by
  simp only [spec_IsCert.f, spec_IsName.f, spec_IsValidKey.f, time1, in1, Option.bind_some]
  unfold isCert
  cases decide (1 ≤ a ∧ a ≤ 9999)
  · rfl
  cases decide (10 ≤ b ∧ b ≤ 49)
  · rfl
  cases decide (1 ≤ c ∧ c ≤ 2147483646)
  · rfl
  by_cases h1 : timeOk d = true
  · by_cases h2 : timeOk e = true
    · have g1 := of_decide_eq_true (show decide (0 ≤ d ∧ d ≤ 10000) = true from h1)
      have g2 := of_decide_eq_true (show decide (0 ≤ e ∧ e ≤ 10000) = true from h2)
      rw [wrap_in (by omega) (by omega), h1, h2]
      simp only [if_true, Bool.true_and]
      by_cases h : d ≤ e
      · rw [if_pos h]; congr 1; rw [decide_eq_decide]; omega
      · rw [if_neg h, decide_eq_false (by omega)]
    · rw [h1, Bool.eq_false_iff.2 h2]; rfl
  · rw [Bool.eq_false_iff.2 h1]; rfl
theorem cert2 (a b c d e f : Int) : impl_IsCert.f a b c d e f = some (isCert a b c d e) := by
  simp only [impl_IsCert.f, impl_IsName.f, impl_IsValidKey.f, time2, in2, Option.bind_some, ite_and]
  unfold isCert
  by_cases h1 : timeOk d = true
  · by_cases h2 : timeOk e = true
    · have g1 := of_decide_eq_true (show decide (0 ≤ d ∧ d ≤ 10000) = true from h1)
      have g2 := of_decide_eq_true (show decide (0 ≤ e ∧ e ≤ 10000) = true from h2)
      rw [wrap_in (by omega) (by omega)]
    · rw [Bool.eq_false_iff.2 h2]; simp
  · rw [Bool.eq_false_iff.2 h1]; simp
def markOf (s a b c d e : Int) : Int := keyed s [a, b, c, d, e]
theorem mark1 (s a b c d e f : Int) (k : Nat) (hk : 40 < k) : spec_MarkCert.f k s a b c d e f = some (a, b, c, d, e, markOf s a b c d e) := by
  simp only [spec_MarkCert.f, keyed1 s [a, b, c, d, e] (by simp) k (by simp; omega), Option.bind_some]
  rfl
theorem mark2 (s a b c d e f : Int) (k : Nat) (hk : 40 < k) : impl_MarkCert.f k s a b c d e f = some (a, b, c, d, e, markOf s a b c d e) := by
  simp only [impl_MarkCert.f, keyed2 s [a, b, c, d, e] (by simp) k (by simp; omega), Option.bind_some]
  rfl
def endOf (a s : Int) : Int := if timeOk a = true then (if timeOk s = true then (if a + s < 10000 then a + s else 10000) else 0) else 0
theorem endOf1 (a s : Int) : spec_EndOf.f a s = some (endOf a s) := by
  simp only [spec_EndOf.f, time1, Option.bind_some]
  unfold endOf
  by_cases h1 : timeOk a = true
  · rw [if_pos h1, if_pos h1]
    by_cases h2 : timeOk s = true
    · rw [if_pos h2, if_pos h2]
      unfold timeOk at h1 h2
      have g1 := of_decide_eq_true h1
      have g2 := of_decide_eq_true h2
      rw [wrap_in (by omega) (by omega)]
      unfold spec_Min.f
      by_cases h : a + s < 10000
      · rw [if_pos h, if_pos h]; rfl
      · rw [if_neg h, if_neg h]; rfl
    · rw [if_neg h2, if_neg h2]
  · rw [if_neg h1, if_neg h1]
theorem endOf2 (a s : Int) : impl_EndOf.f a s = some (endOf a s) := by
  simp only [impl_EndOf.f, time2, in2, Option.bind_some]
  unfold endOf
  by_cases h1 : timeOk a = true
  · rw [if_pos h1, if_pos h1]
    by_cases h2 : timeOk s = true
    · rw [if_pos h2, if_pos (by unfold timeOk at h2; exact h2)]
      unfold timeOk at h1 h2
      have g1 := of_decide_eq_true h1
      have g2 := of_decide_eq_true h2
      rw [wrap_in (by omega) (by omega)]
      unfold mn
      by_cases h : a + s < 10000
      · rw [if_neg (by omega), if_pos h]
      · rw [if_neg h]
        split
        · rfl
        · congr 1; omega
    · rw [if_neg h2, if_neg (by unfold timeOk at h2; exact h2)]
  · rw [if_neg h1, if_neg h1]
def within (a b t : Int) : Bool := timeOk a && (timeOk b && (timeOk t && decide (a ≤ t ∧ t ≤ b)))
theorem within2 (a b t : Int) : impl_IsWithin.f a b t = some (within a b t) := by
  simp only [impl_IsWithin.f, time2, in2, Option.bind_some, ite_and]
  rfl
def checkCert (s a b c d e f t : Int) : Bool := isCert a b c d e && (within d e t && (markOf s a b c d e == f))
theorem check2 (s a b c d e f t : Int) (k : Nat) (hk : 40 < k) : impl_CheckCert.f k s a b c d e f t = some (checkCert s a b c d e f t) := by
  simp only [impl_CheckCert.f, cert2, within2, mark2 s a b c d e f k hk, Option.bind_some, ite_and, BEq.rfl, Bool.true_and]
  rfl
def hasProved (s a b c d e f n x t : Int) : Bool := checkCert s a b c d e f t && (x == keyed c [n])
theorem proved2 (s a b c d e f n x t : Int) (k : Nat) (hk : 40 < k) : impl_HasProved.f k s a b c d e f n x t = some (hasProved s a b c d e f n x t) := by
  simp only [impl_HasProved.f, impl_ProveKey.f, check2 s a b c d e f t k hk, keyed2 c [n] (by simp) k (by simp; omega), Option.bind_some, ite_and]
  rfl
theorem md_eq (v : Int) : md v = v % 2147483647 := by
  unfold md
  have h1 : -2147483647 < Int.tmod v 2147483647 := Int.lt_tmod_of_pos v (by omega)
  have h2 : Int.tmod v 2147483647 < 2147483647 := Int.tmod_lt_of_pos v (by omega)
  rw [wrap_in (by omega) (by omega), Int.tmod_eq_emod_of_nonneg (by omega)]
  have h3 := Int.mul_tdiv_add_tmod v 2147483647
  omega
theorem hstep_eq (d v : Int) (h0 : 0 ≤ d) (h1 : d < 2147483647) : hstep d v = (d * 1000003 + v + 13) % 2147483647 := by
  unfold hstep
  have g := md_eq v
  have g0 : 0 ≤ md v := by rw [g]; exact Int.emod_nonneg v (by omega)
  have g1 : md v < 2147483647 := by rw [g]; exact Int.emod_lt_of_pos v (by omega)
  rw [wrap_in (x := d * 1000003) (by omega) (by omega), wrap_in (x := d * 1000003 + md v) (by omega) (by omega), wrap_in (by omega) (by omega), Int.tmod_eq_emod_of_nonneg (by omega), g]
  omega
theorem hstep_in (d v : Int) (h0 : 0 ≤ d) (h1 : d < 2147483647) : 0 ≤ hstep d v ∧ hstep d v < 2147483647 := by
  rw [hstep_eq d v h0 h1]
  omega
theorem mul_zero_of (z : Int) (h : z * 1000003 % 2147483647 = 0) (g1 : -2147483647 < z) (g2 : z < 2147483647) : z = 0 := by
  have h5 : (z * 1000003 * 1523789695) % 2147483647 = 0 := by
    rw [Int.mul_emod, h, Int.zero_mul, Int.zero_emod]
  rw [Int.mul_assoc, show (1000003 * 1523789695 : Int) = 1 + 709572 * 2147483647 by decide, Int.mul_add, Int.mul_one, ← Int.mul_assoc, Int.add_mul_emod_self_right] at h5
  omega
theorem hstep_inj (d e v : Int) (h0 : 0 ≤ d) (h1 : d < 2147483647) (h2 : 0 ≤ e) (h3 : e < 2147483647) (h : hstep d v = hstep e v) : d = e := by
  rw [hstep_eq d v h0 h1, hstep_eq e v h2 h3] at h
  have h3' := Int.emod_eq_emod_iff_emod_sub_eq_zero.1 h
  rw [show d * 1000003 + v + 13 - (e * 1000003 + v + 13) = (d - e) * 1000003 by rw [Int.sub_mul]; omega] at h3'
  clear h
  have g1 : -2147483647 < d - e := by clear h3'; omega
  have g2 : d - e < 2147483647 := by clear h3'; omega
  have g : d - e = 0 := by
    generalize d - e = z at h3' g1 g2 ⊢
    exact mul_zero_of z h3' g1 g2
  clear h3' g1 g2
  omega
theorem hash_cons_ne (l : List Int) : ∀ d e : Int, 0 ≤ d → d < 2147483647 → 0 ≤ e → e < 2147483647 → l.foldl hstep d = l.foldl hstep e → d = e := by
  induction l with
  | nil => intro d e _ _ _ _ h; exact h
  | cons v l ih =>
    intro d e h0 h1 h2 h3 h
    have g1 := hstep_in d v h0 h1
    have g2 := hstep_in e v h2 h3
    exact hstep_inj d e v h0 h1 h2 h3 (ih _ _ g1.1 g1.2 g2.1 g2.2 h)
theorem keyed_first (s a b : Int) (l : List Int) (h : keyed s (a :: l) = keyed s (b :: l)) : a % 2147483647 = b % 2147483647 := by
  unfold keyed hash at h
  simp only [List.cons_append, List.nil_append, List.foldl_cons] at h
  have g := hstep_in 11 s (by omega) (by omega)
  have g1 := hstep_in _ a g.1 g.2
  have g2 := hstep_in _ b g.1 g.2
  have e := hash_cons_ne (l ++ [s]) _ _ g1.1 g1.2 g2.1 g2.2 h
  rw [hstep_eq _ a g.1 g.2, hstep_eq _ b g.1 g.2] at e
  omega
def issueOk (s a b c d e : Int) : Bool := decide (1 ≤ s ∧ s ≤ 2147483646) && (isCert a b c d (endOf d e) && decide (0 ≤ e))
def issued (s a b c d e : Int) : Int × Int × Int × Int × Int × Int × Bool := if issueOk s a b c d e = true then (a, b, c, d, endOf d e, markOf s a b c d (endOf d e), true) else (0, 0, 0, 0, 0, 0, false)
theorem issue1 (s a b c d e : Int) (k : Nat) (hk : 40 < k) : spec_IssueCert.f k s a b c d e = some (issued s a b c d e) := by
  simp only [spec_IssueCert.f, endOf1, mark1 s a b c d (endOf d e) 0 k hk, cert1, spec_IsValidKey.f, in1, Option.bind_some]
  unfold issued issueOk
  cases decide (1 ≤ s ∧ s ≤ 2147483646)
  · rfl
  by_cases h : e < 0
  · rw [if_pos rfl, if_pos h, decide_eq_false (by omega), Bool.and_false]
    rfl
  · rw [if_pos rfl, if_neg h, decide_eq_true (by omega), Bool.and_true]
    cases isCert a b c d (endOf d e) <;> rfl
theorem issue2 (s a b c d e : Int) (k : Nat) (hk : 40 < k) : impl_IssueCert.f k s a b c d e = some (issued s a b c d e) := by
  simp only [impl_IssueCert.f, endOf2, mark2 s a b c d (endOf d e) 0 k hk, cert2, impl_IsValidKey.f, in2, Option.bind_some]
  unfold issued issueOk
  cases decide (1 ≤ s ∧ s ≤ 2147483646)
  · rfl
  rw [if_pos rfl]
  cases isCert a b c d (endOf d e)
  · rfl
  · rw [if_pos rfl]
    by_cases h : e < 0
    · rw [if_pos h, decide_eq_false (by omega)]
      rfl
    · rw [if_neg h, decide_eq_true (by omega)]
      rfl
theorem and255 (x : Int) : 0 ≤ Go.bits .and .i64 x 255 ∧ Go.bits .and .i64 x 255 ≤ 255 := by
  unfold Go.bits
  simp only
  have h : (BitVec.ofInt IntKind.i64.bits x &&& BitVec.ofInt IntKind.i64.bits 255).toNat ≤ 255 := by
    rw [BitVec.toNat_and]
    exact Nat.le_trans Nat.and_le_right (by decide)
  rw [IntKind.wrap_i64]
  omega
/-- What a draw gives: something, and the place is still one of the list. -/
def Drawn {α : Type} (l : List Int) (r : Option (α × Int × Int)) (Q : α → Prop) : Prop := ∃ v i h, r = some (v, i, h) ∧ Q v ∧ 0 ≤ i ∧ i ≤ (l.length : Int)
theorem dByte (l : List Int) (hl : l.length ≤ 1048576) (i h : Int) (h0 : 0 ≤ i) (h1 : i ≤ (l.length : Int)) : Drawn l (spec_l1Byte.f l i h) fun v => 0 ≤ v ∧ v ≤ 255 := by
  unfold spec_l1Byte.f
  by_cases c : i < (l.length : Int)
  · rw [if_pos c, if_pos h0, wrap_in (x := i + 1) (by omega) (by omega)]
    exact ⟨_, _, _, rfl, and255 _, by omega, by omega⟩
  · rw [if_neg c]
    exact ⟨_, _, _, rfl, and255 _, by omega, by omega⟩
theorem dBelow (l : List Int) (hl : l.length ≤ 1048576) (i h : Int) (h0 : 0 ≤ i) (h1 : i ≤ (l.length : Int)) (n : Int) (hn : 0 < n) : Drawn l (spec_l1Below.f l i h n) fun v => 0 ≤ v ∧ v < n := by
  unfold spec_l1Below.f
  rw [if_neg (by omega)]
  by_cases c : n ≤ 256
  · rw [if_pos c]
    obtain ⟨v, i1, s1, e, ⟨g0, _⟩, p0, p1⟩ := dByte l hl i h h0 h1
    rw [e, Option.bind_some, if_neg (by omega)]
    exact ⟨_, _, _, rfl, ⟨Int.tmod_nonneg _ g0, Int.tmod_lt_of_pos _ hn⟩, p0, p1⟩
  · rw [if_neg c]
    obtain ⟨v, i1, s1, e, ⟨g0, g1⟩, p0, p1⟩ := dByte l hl i h h0 h1
    obtain ⟨v2, i2, s2, e2, ⟨g2, g3⟩, p2, p3⟩ := dByte l hl i1 s1 p0 p1
    obtain ⟨v3, i3, s3, e3, ⟨g4, g5⟩, p4, p5⟩ := dByte l hl i2 s2 p2 p3
    simp only [e, e2, e3, Option.bind_some]
    rw [if_neg (by omega), wrap_in (x := v * 65536) (by omega) (by omega), wrap_in (x := v2 * 256) (by omega) (by omega), wrap_in (x := v * 65536 + v2 * 256) (by omega) (by omega), wrap_in (by omega) (by omega)]
    exact ⟨_, _, _, rfl, ⟨Int.tmod_nonneg _ (by omega), Int.tmod_lt_of_pos _ hn⟩, p4, p5⟩
theorem dOnce (l : List Int) (hl : l.length ≤ 1048576) (i h : Int) (h0 : 0 ≤ i) (h1 : i ≤ (l.length : Int)) (n : Int) (hn : 0 < n) : Drawn l (spec_l1Once.f l i h n) fun _ => True := by
  unfold spec_l1Once.f
  obtain ⟨v, i1, s1, e, _, p0, p1⟩ := dBelow l hl i h h0 h1 n hn
  rw [e, Option.bind_some]
  exact ⟨_, _, _, rfl, trivial, p0, p1⟩
theorem dInt (l : List Int) (hl : l.length ≤ 1048576) (i h : Int) (h0 : 0 ≤ i) (h1 : i ≤ (l.length : Int)) (c : List Int) (hc : 0 < c.length) : Drawn l (spec_l1Int.f l i h c) fun v => v ∈ c := by
  unfold spec_l1Int.f
  obtain ⟨v, i1, s1, e, ⟨g0, g1⟩, p0, p1⟩ := dBelow l hl i h h0 h1 (c.length : Int) (by omega)
  rw [e, Option.bind_some, if_pos g0, if_pos g1]
  refine ⟨_, _, _, rfl, ?_, p0, p1⟩
  unfold rd
  exact getD_mem c _ 0 (by omega)
def seedOf (l : List Int) : Nat → Int
  | 0 => wrap64 (193017 + (l.length : Int))
  | i + 1 => Go.bits .and .i64 (wrap64 ((wrap64 ((wrap64 (seedOf l i * 137)) + (wrap64 (l.getD i 0)))) + 11)) 1073741823
theorem new1 (l : List Int) (hl : l.length ≤ 1048576) (k : Nat) (hk : 1048577 < k) : spec_l1New.f k l = some (l, 0, seedOf l (min l.length 4000)) := by
  unfold spec_l1New.f
  refine run (fun k s i => spec_l1New.l0 k l s i) (seedOf l) (min l.length 4000) 0 _ ?_ ?_ k (by omega)
  · intro k i _ hi
    simp only [spec_l1New.l0, rd_nat]
    rw [if_pos (by omega), if_pos (by omega), if_pos (by omega), wrap_succ hi (by omega)]
    rfl
  · intro k _
    simp only [spec_l1New.l0]
    by_cases c : l.length < 4000
    · rw [Nat.min_eq_left (by omega), if_neg (by omega)]
    · rw [Nat.min_eq_right (by omega)]
      split
      · rw [if_neg (by omega)]
      · rfl
theorem dName (l : List Int) (hl : l.length ≤ 1048576) (i h : Int) (h0 : 0 ≤ i) (h1 : i ≤ (l.length : Int)) (a : Int) : Drawn l (spec_l5Name.f l i h a) fun _ => True := by
  unfold spec_l5Name.f
  obtain ⟨v, i1, s1, e, _, p0, p1⟩ := dBelow l hl i h h0 h1 3 (by omega)
  rw [e, Option.bind_some]
  exact ⟨_, _, _, rfl, trivial, p0, p1⟩
theorem dAny (l : List Int) (hl : l.length ≤ 1048576) (i h : Int) (h0 : 0 ≤ i) (h1 : i ≤ (l.length : Int)) : Drawn l (spec_l5Any.f l i h) fun _ => True := by
  unfold spec_l5Any.f
  obtain ⟨v, i1, s1, e, _, p0, p1⟩ := dOnce l hl i h h0 h1 6 (by omega)
  rw [e, Option.bind_some]
  by_cases c : v = true
  · rw [if_pos c]
    obtain ⟨v2, i2, s2, e2, _, p2, p3⟩ := dInt l hl i1 s1 p0 p1 [(-1), 9, 10, 49, 50, 19] (by simp)
    simp only [e2, Option.bind_some]
    exact ⟨_, _, _, rfl, trivial, p2, p3⟩
  · rw [if_neg c]
    obtain ⟨v2, i2, s2, e2, _, p2, p3⟩ := dBelow l hl i1 s1 p0 p1 4 (by omega)
    simp only [e2, Option.bind_some]
    obtain ⟨v3, i3, s3, e3, _, p4, p5⟩ := dName l hl i2 s2 p2 p3 (wrap64 (1 + v2))
    simp only [e3, Option.bind_some]
    exact ⟨_, _, _, rfl, trivial, p4, p5⟩
theorem dTime (l : List Int) (hl : l.length ≤ 1048576) (i h : Int) (h0 : 0 ≤ i) (h1 : i ≤ (l.length : Int)) : Drawn l (spec_l4Time.f l i h) fun _ => True := by
  unfold spec_l4Time.f
  obtain ⟨v, i1, s1, e, _, p0, p1⟩ := dOnce l hl i h h0 h1 8 (by omega)
  rw [e, Option.bind_some]
  by_cases c : v = true
  · rw [if_pos c]
    obtain ⟨v2, i2, s2, e2, _, p2, p3⟩ := dInt l hl i1 s1 p0 p1 [(-1), 0, 10000, 10001, 9223372036854775807, (-9223372036854775808)] (by simp)
    simp only [e2, Option.bind_some]
    exact ⟨_, _, _, rfl, trivial, p2, p3⟩
  · rw [if_neg c]
    obtain ⟨v2, i2, s2, e2, _, p2, p3⟩ := dBelow l hl i1 s1 p0 p1 40 (by omega)
    simp only [e2, Option.bind_some]
    exact ⟨_, _, _, rfl, trivial, p2, p3⟩
def DrawnCert (l : List Int) (r : Option (Int × Int × Int × Int × Int × Int × Int × Int)) : Prop := ∃ a b c d e f i h, r = some (a, b, c, d, e, f, i, h) ∧ 0 ≤ i ∧ i ≤ (l.length : Int)
theorem dCert (l : List Int) (hl : l.length ≤ 1048576) (i h : Int) (h0 : 0 ≤ i) (h1 : i ≤ (l.length : Int)) (k : Nat) (hk : 40 < k) : DrawnCert l (spec_l10Cert.f k l i h) := by
  unfold spec_l10Cert.f
  obtain ⟨v, i, h, e, _, h0, h1⟩ := dBelow l hl i h h0 h1 9 (by omega)
  simp only [e, Option.bind_some]
  clear e
  obtain ⟨v2, i, h, e, _, h0, h1⟩ := dBelow l hl i h h0 h1 3 (by omega)
  simp only [e, Option.bind_some]
  clear e
  obtain ⟨v3, i, h, e, _, h0, h1⟩ := dName l hl i h h0 h1 (wrap64 (1 + v2))
  simp only [e, Option.bind_some]
  clear e
  obtain ⟨v4, i, h, e, _, h0, h1⟩ := dBelow l hl i h h0 h1 5 (by omega)
  simp only [e, Option.bind_some]
  clear e
  obtain ⟨v5, i, h, e, _, h0, h1⟩ := dBelow l hl i h h0 h1 20 (by omega)
  simp only [e, Option.bind_some]
  clear e
  obtain ⟨v6, i, h, e, _, h0, h1⟩ := dBelow l hl i h h0 h1 51 (by omega)
  simp only [e, Option.bind_some, issue1 _ _ _ _ _ _ k hk]
  exact ⟨_, _, _, _, _, _, _, _, rfl, h0, h1⟩
theorem dAnyCert (l : List Int) (hl : l.length ≤ 1048576) (i h : Int) (h0 : 0 ≤ i) (h1 : i ≤ (l.length : Int)) (k : Nat) (hk : 40 < k) : DrawnCert l (spec_l10Any.f k l i h) := by
  unfold spec_l10Any.f
  obtain ⟨a, b, c, d, x, f, i, h, e, h0, h1⟩ := dCert l hl i h h0 h1 k hk
  simp only [e, Option.bind_some]
  clear e
  obtain ⟨v, i, h, e, _, h0, h1⟩ := dBelow l hl i h h0 h1 9 (by omega)
  simp only [e, Option.bind_some]
  clear e
  by_cases c0 : v = 0
  · rw [if_pos c0]
    obtain ⟨v2, i, h, e, _, h0, h1⟩ := dInt l hl i h h0 h1 [0, 1, 9999, 10000] (by simp)
    simp only [e, Option.bind_some]
    exact ⟨_, _, _, _, _, _, _, _, rfl, h0, h1⟩
  rw [if_neg c0]
  by_cases c1 : v = 1
  · rw [if_pos c1]
    obtain ⟨v2, i, h, e, _, h0, h1⟩ := dAny l hl i h h0 h1
    simp only [e, Option.bind_some]
    exact ⟨_, _, _, _, _, _, _, _, rfl, h0, h1⟩
  rw [if_neg c1]
  by_cases c2 : v = 2
  · rw [if_pos c2]
    obtain ⟨v2, i, h, e, _, h0, h1⟩ := dInt l hl i h h0 h1 [0, (-1), 7] (by simp)
    simp only [e, Option.bind_some]
    exact ⟨_, _, _, _, _, _, _, _, rfl, h0, h1⟩
  rw [if_neg c2]
  by_cases c3 : v = 3
  · rw [if_pos c3]
    obtain ⟨v2, i, h, e, _, h0, h1⟩ := dTime l hl i h h0 h1
    simp only [e, Option.bind_some]
    exact ⟨_, _, _, _, _, _, _, _, rfl, h0, h1⟩
  rw [if_neg c3]
  by_cases c4 : v = 4
  · rw [if_pos c4]
    obtain ⟨v2, i, h, e, _, h0, h1⟩ := dTime l hl i h h0 h1
    simp only [e, Option.bind_some]
    exact ⟨_, _, _, _, _, _, _, _, rfl, h0, h1⟩
  rw [if_neg c4]
  by_cases c5 : v = 5
  · rw [if_pos c5]
    exact ⟨_, _, _, _, _, _, _, _, rfl, h0, h1⟩
  rw [if_neg c5]
  exact ⟨_, _, _, _, _, _, _, _, rfl, h0, h1⟩
theorem dCheckCert (l : List Int) (hl : l.length ≤ 1048576) (k : Nat) (hk : 1048577 < k) : ∃ r, spec_DrawCheckCert.f k l = some r := by
  unfold spec_DrawCheckCert.f
  rw [new1 l hl k hk, Option.bind_some]
  obtain ⟨a, b, c, d, x, f, i, h, e, h0, h1⟩ := dAnyCert l hl 0 (seedOf l (min l.length 4000)) (by omega) (by omega) k (by omega)
  simp only [e, Option.bind_some]
  clear e
  obtain ⟨v, i, h, e, _, h0, h1⟩ := dOnce l hl i h h0 h1 2 (by omega)
  simp only [e, Option.bind_some]
  clear e
  by_cases c : v = true
  · rw [if_pos c]
    obtain ⟨v2, i, h, e, _, h0, h1⟩ := dTime l hl i h h0 h1
    simp only [e, Option.bind_some]
    clear e
    obtain ⟨v3, i, h, e, _, h0, h1⟩ := dInt l hl i h h0 h1 [77, 77, 77, 78] (by simp)
    simp only [e, Option.bind_some]
    exact ⟨_, rfl⟩
  · rw [if_neg c]
    obtain ⟨v3, i, h, e, _, h0, h1⟩ := dInt l hl i h h0 h1 [77, 77, 77, 78] (by simp)
    simp only [e, Option.bind_some]
    exact ⟨_, rfl⟩
theorem dHasProved (l : List Int) (hl : l.length ≤ 1048576) (k : Nat) (hk : 1048577 < k) : ∃ r, spec_DrawHasProved.f k l = some r := by
  unfold spec_DrawHasProved.f
  obtain ⟨r, hr⟩ := dCheckCert l hl k hk
  rw [hr, Option.bind_some, new1 l hl k hk, Option.bind_some]
  obtain ⟨v, i, h, e, _, h0, h1⟩ := dBelow l hl 0 (seedOf l (min l.length 4000)) (by omega) (by omega) 9 (by omega)
  simp only [e, Option.bind_some]
  clear e
  have e := keyed1 r.2.2.2.1 [v] (by simp) k (by simp; omega)
  simp only [spec_ProveKey.f, e, Option.bind_some]
  clear e
  obtain ⟨v2, i, h, e, _, h0, h1⟩ := dOnce l hl i h h0 h1 4 (by omega)
  simp only [e, Option.bind_some]
  split
  · exact ⟨_, rfl⟩
  · exact ⟨_, rfl⟩
theorem dIssueCert (l : List Int) (hl : l.length ≤ 1048576) (k : Nat) (hk : 1048577 < k) : ∃ r, spec_DrawIssueCert.f k l = some r := by
  unfold spec_DrawIssueCert.f
  rw [new1 l hl k hk, Option.bind_some]
  obtain ⟨v, i, h, e, _, h0, h1⟩ := dInt l hl 0 (seedOf l (min l.length 4000)) (by omega) (by omega) [77, 77, 77, 0] (by simp)
  simp only [e, Option.bind_some]
  clear e
  obtain ⟨v2, i, h, e, _, h0, h1⟩ := dInt l hl i h h0 h1 [1, 5, 0, 10000] (by simp)
  simp only [e, Option.bind_some]
  clear e
  obtain ⟨v3, i, h, e, _, h0, h1⟩ := dAny l hl i h h0 h1
  simp only [e, Option.bind_some]
  clear e
  obtain ⟨v4, i, h, e, _, h0, h1⟩ := dInt l hl i h h0 h1 [200, 200, 0] (by simp)
  simp only [e, Option.bind_some]
  clear e
  obtain ⟨v5, i, h, e, _, h0, h1⟩ := dTime l hl i h h0 h1
  simp only [e, Option.bind_some]
  clear e
  obtain ⟨v6, i, h, e, _, h0, h1⟩ := dInt l hl i h h0 h1 [0, 10, 50, 51, (-1)] (by simp)
  simp only [e, Option.bind_some]
  exact ⟨_, rfl⟩
theorem later (l : List Int) (hl : l.length ≤ 1048576) (k : Nat) (hk : 1048578 < k) : laws_FnCertificates.j0 k l = some true := by
  obtain ⟨k, rfl⟩ : ∃ j, k = j + 1 := ⟨k - 1, by omega⟩
  simp only [laws_FnCertificates.j0]
  obtain ⟨⟨s, a, b, c, d, e, f, n, x, t⟩, hr⟩ := dHasProved l hl k (by omega)
  have e2 := keyed2 c [n] (by simp) k (by simp; omega)
  rw [hr, Option.bind_some]
  simp only [proved2 s a b c d e f n x t k (by omega), check2 s a b c d e f t k (by omega), impl_ProveKey.f, e2, Option.bind_some]
  unfold hasProved
  by_cases h1 : checkCert s a b c d e f t = true
  · by_cases h2 : (x == keyed c [n]) = true
    · rw [h1, h2]; rfl
    · rw [h1, Bool.eq_false_iff.2 h2]; rfl
  · rw [Bool.eq_false_iff.2 h1]; rfl
theorem FnCertificates : laws_FnCertificates.Pure := by
  intro l _
  suffices h : ∀ k, 4194305 < k → laws_FnCertificates.f k l = some true from ⟨4194306, h _ (by omega)⟩
  intro k hk
  unfold laws_FnCertificates.f laws_big.f
  rw [Option.bind_some]
  by_cases hl : (l.length : Int) > 1048576
  · rw [if_pos (decide_eq_true hl)]
  rw [if_neg (by rw [decide_eq_true_eq]; exact hl)]
  obtain ⟨⟨s, a, b, c, d, e⟩, hr⟩ := dIssueCert l (by omega) k (by omega)
  rw [hr, Option.bind_some]
  simp only [issue1 s a b c d e k (by omega), issue2 s a b c d e k (by omega), Option.bind_some, bne_self_eq_false]
  rw [if_neg (by simp)]
  unfold issued
  by_cases h : issueOk s a b c d e = true
  · rw [if_pos h, if_pos rfl]
    unfold issueOk at h
    simp only [Bool.and_eq_true] at h
    obtain ⟨_, hc, _⟩ := h
    have hc' := hc
    generalize endOf d e = x at *
    unfold isCert at hc'
    simp only [Bool.and_eq_true, decide_eq_true_eq] at hc'
    obtain ⟨ha, hb, hcc, hd, hx, hdx⟩ := hc'
    have g1 := of_decide_eq_true (show decide (0 ≤ d ∧ d ≤ 10000) = true from hd)
    have g2 := of_decide_eq_true (show decide (0 ≤ x ∧ x ≤ 10000) = true from hx)
    have m0 : (markOf s a b c d x == markOf s a b c d x) = true := by simp
    have m1 : (markOf s (a + 1) b c d x == markOf s a b c d x) = false := by
      rw [beq_eq_false_iff_ne]
      intro hm
      have := keyed_first s (a + 1) a [b, c, d, x] hm
      omega
    have w1 : within d x d = true := by unfold within; rw [hd, hx, decide_eq_true (by omega)]; rfl
    have w2 : within d x x = true := by unfold within; rw [hd, hx, decide_eq_true (by omega)]; rfl
    have w3 : within d x (x + 1) = false := by unfold within; rw [decide_eq_false (by omega : ¬ (d ≤ x + 1 ∧ x + 1 ≤ x))]; simp
    have w4 : within d x (d - 1) = false := by unfold within; rw [decide_eq_false (by omega : ¬ (d ≤ d - 1 ∧ d - 1 ≤ x))]; simp
    have c1 : checkCert s a b c d x (markOf s a b c d x) d = true := by unfold checkCert; rw [hc, w1, m0]; rfl
    have c2 : checkCert s a b c d x (markOf s a b c d x) x = true := by unfold checkCert; rw [hc, w2, m0]; rfl
    have c3 : checkCert s a b c d x (markOf s a b c d x) (x + 1) = false := by unfold checkCert; rw [w3]; simp
    have c4 : checkCert s a b c d x (markOf s a b c d x) (d - 1) = false := by unfold checkCert; rw [w4]; simp
    have c5 : checkCert s (a + 1) b c d x (markOf s a b c d x) d = false := by unfold checkCert; rw [m1]; simp
    have e2 := keyed2 c [7] (by simp) k (by simp; omega)
    have p1 : hasProved s a b c d x (markOf s a b c d x) 7 (keyed c [7]) d = true := by unfold hasProved; rw [c1]; simp
    simp only [cert2, hc, if_true, check2 _ _ _ _ _ _ _ _ k (show 40 < k by omega), impl_ProveKey.f, e2, proved2 _ _ _ _ _ _ _ _ _ _ k (show 40 < k by omega), Option.bind_some]
    rw [wrap_in (x := x + 1) (by omega) (by omega), wrap_in (x := d - 1) (by omega) (by omega), wrap_in (x := a + 1) (by omega) (by omega)]
    simp only [c1, c2, c3, c4, c5, p1, if_true, later l (by omega) k (by omega)]
    rfl
  · rw [if_neg h, if_neg (by simp), later l (by omega) k (by omega)]
end Go.Proofs.Ytlmhemcpkmjkiaa.Pure
