/- Written by this session's own program (wip/xprint, which runs over the kit's print): what the functions that the law reaches come to, each proved; and the law's row. Conditions: none. -/
import Derived.Test.YtilcmgdjfhhcdaaDoorUFnTextsSq
import Derived.Test.YtilcmgdjfhhcdaaDoorUFnTextsx0
import Derived.Test.YtilcmgdjfhhcdaaDoorUFnTextsx7
import Derived.Test.YtilcmgdjfhhcdaaDoorUFnTextsx9
namespace Go.Proofs.YtilcmgdjfhhcdaaDoor.XFnTexts
open Go.RowKit Go.Proofs.YtilcmgdjfhhcdaaDoorW.PrintWords Go.Proofs.YtilcmgdjfhhcdaaDoorW.PrintLast Go.Proofs.YtilcmgdjfhhcdaaDoorW.PrintMore Go.Proofs.YtilcmgdjfhhcdaaDoorSq
attribute [local go_sem] max2_int min2_int max_two min_two max_three min_three max_four min_four   -- for this text's walks alone
set_option linter.unusedVariables false
set_option linter.unusedSimpArgs false

/-! ### strconv_isPowerOfTwo: function 80 -/
/-- The names 1 to 7, and with which of them a text begins. -/
def condFind.name (i : Nat) : ByteArray := match condTab[i + 1]? with | some (.string n) => n | _ => ⟨#[]⟩
def condFind.out (s : ByteArray) (i : Nat) : Bool := (strings_HasPrefix.f s (condFind.name i)).getD false
theorem condFind.out_eq (s : ByteArray) (i : Nat) : strings_HasPrefix.f s (condFind.name i) = some (condFind.out s i) := by
  unfold condFind.out strings_HasPrefix.f stringslite_HasPrefix.f
  by_cases h : (s.size : Int) ≥ ((condFind.name i).size : Int)
  · rw [if_pos h, if_pos (by omega), if_pos (by omega)]
    rfl
  · rw [if_neg h]
    rfl
theorem condFind.at_ (i : Nat) (hi : i < 7) : condTab[1 + i]? = some (.string (condFind.name i)) := by
  have h : i = 0 ∨ i = 1 ∨ i = 2 ∨ i = 3 ∨ i = 4 ∨ i = 5 ∨ i = 6 := by omega
  rcases h with rfl | rfl | rfl | rfl | rfl | rfl | rfl <;> rfl
/-- The first of the first seven at which p, or -1. -/
def condFind.idx (p : Nat → Bool) : Int := ((List.range 7).find? p).elim (-1) fun i => (i : Int)
theorem condFind.idx_hit (p : Nat → Bool) (i : Nat) (hi : i < 7) (hp : p i = true) (hn : ∀ j, j < i → p j = false) : condFind.idx p = (i : Int) := by
  have hf : ((List.range 7).find? p) = some i := by
    rw [List.find?_range_eq_some]
    exact ⟨hp, by simpa using hi, fun j hj => by simpa using hn j hj⟩
  unfold condFind.idx
  rw [hf]
  rfl
theorem condFind.idx_miss (p : Nat → Bool) (hn : ∀ j, j < 7 → p j = false) : condFind.idx p = -1 := by
  have hf : ((List.range 7).find? p) = none := by
    rw [List.find?_eq_none]
    intro x hx
    have := hn x (by simpa using hx)
    simpa using this
  unfold condFind.idx
  rw [hf]
  rfl
def strconv_isPowerOfTwo.f (s : ByteArray) : Option Int := some (condFind.idx (condFind.out s))
set_option maxRecDepth 100000 in
set_option maxHeartbeats 4000000 in
theorem condFind.closure (s : ByteArray) (i : Nat) (B g : Nat) (W : World) (h1 : W.cell? ⟨B, 0, none⟩ = some (.pointer (some ⟨g, 0, none⟩))) (h2 : W.cell? ⟨g, 0, none⟩ = some (.string s)) :
    Calls Tryd.prog 33 #[.string (condFind.name i), .pointer (some ⟨B, 0, none⟩)] W fun e w' => e = .returned (.bool (condFind.out s i)) ∧ Below W.heap.size W w' := by
  have hu := Tryd.underlying42
  have hc := fun w' => strings_HasPrefix.calls s (condFind.name i) (condFind.out s i) w' (condFind.out_eq s i)
  generalize condFind.name i = n at hc ⊢
  generalize condFind.out s i = b at hc ⊢
  have HC := Aside0.mk hc
  clear hc
  go_enter Tryd.func33, Tryd.ntmps33
  go_wp2_with (first | (go_at_call 30; refine (HC.out _).mono ?_; rintro e w' ⟨rfl, ⟨nd, rfl⟩⟩))
  go_ret
  exact ⟨rfl, by repeat (first | exact Below.refl _ _ | apply pw_below_drewN | apply below_drew1)⟩
set_option maxRecDepth 100000 in
set_option maxHeartbeats 4000000 in
theorem condFind.indexFunc (s : ByteArray) (B g : Nat) (w : World) (hT : ∀ j, w.cell? ⟨0, j, none⟩ = condTab[j]?) (h1 : w.cell? ⟨B, 0, none⟩ = some (.pointer (some ⟨g, 0, none⟩))) (h2 : w.cell? ⟨g, 0, none⟩ = some (.string s)) :
    Calls Tryd.prog 32 #[.slice (some ⟨0, 1, none⟩) 7 9, .func (.func 33) #[] #[.pointer (some ⟨B, 0, none⟩)]] w fun e w' => e = .returned (.int .i64 (condFind.idx (condFind.out s))) ∧ Below w.heap.size w w' := by
  have HT := Aside0.mk hT
  have H1 := Aside0.mk h1
  have H2 := Aside0.mk h2
  clear hT h1 h2
  go_enter Tryd.func32, Tryd.ntmps32
  go_wp2
  go_loopg [5, 8] 7 (fun gg _ s8 wr => ∃ kk : Nat, kk ≤ 7 ∧ 7 - kk ≤ gg ∧ s8 = .int .i64 kk ∧ Aside0 (Below w.heap.size w wr) ∧ Aside0 (∀ j, j < kk → condFind.out s j = false))
  case atStart => exact ⟨0, Nat.zero_le _, by omega, rfl, ⟨Below.refl _ w⟩, ⟨fun j hj => absurd hj (Nat.not_lt_zero _)⟩⟩
  case round =>
    obtain ⟨kk, hkk, hg, rfl, BW, AA⟩ := hrel
    by_cases hlt : kk < 7
    · have hltz : (kk : Int) < 7 := by omega
      have hx0 : w.cell? ⟨0, 1 + kk, none⟩ = some (.string (condFind.name kk)) := (HT.out _).trans (condFind.at_ kk hlt)
      replace hx0 := (BW.out.cell (World.block_lt_of_cell? w _ hx0)).trans hx0
      have hcall := condFind.closure s kk B g wr ((BW.out.cell (World.block_lt_of_cell? w _ H1.out)).trans H1.out) ((BW.out.cell (World.block_lt_of_cell? w _ H2.out)).trans H2.out)
      cases hq : condFind.out s kk with
      | true =>
        rw [hq] at hcall
        have HQ := Aside0.mk hq
        clear hq
        go_wp2_with (first | (go_at_call 33; refine hcall.mono ?_; rintro e w' ⟨rfl, hb'⟩))
        go_ret
        exact ⟨by rw [condFind.idx_hit (condFind.out s) kk hlt HQ.out AA.out]; rfl, below_then BW.out BW.out.size hb'⟩
      | false =>
        rw [hq] at hcall
        have HQ := Aside0.mk hq
        clear hq
        go_wp2_with (first | (go_at_call 33; refine hcall.mono ?_; rintro e w' ⟨rfl, hb'⟩))
        go_roundg (7 - (kk + 1))
        case measure => omega
        case rel =>
          refine ⟨kk + 1, by omega, by omega, by go_num, ⟨below_then BW.out BW.out.size hb'⟩, ⟨fun j hj => ?_⟩⟩
          rcases Nat.lt_succ_iff_lt_or_eq.1 hj with hj | rfl
          · exact AA.out j hj
          · exact HQ.out
    · have hltz : ¬ (kk : Int) < 7 := by omega
      obtain rfl : kk = 7 := by omega
      go_wp2
      go_ret
      exact ⟨by rw [condFind.idx_miss (condFind.out s) AA.out]; rfl, BW.out⟩

end Go.Proofs.YtilcmgdjfhhcdaaDoor.XFnTexts
