/- FnExactCondName: the program's CondName answers what the reference's answers, for all numbers, and the argument reads as it did: the tied card. Conditions: when the call begins the package variable impl.condNames reads as its initialiser lays it (the given tie ties that to the program's text). -/
import Derived.Test.YtnjobmbjeknlbaaDoorRows
import Derived.Test.YtnjobmbjeknlbaaDoorTie
import Derived.Test.YtnjobmbjeknlbaaDoorCards
import Derived.WalkKit
import Derived.WalkSmall
import Derived.ProofKit
import Derived.OpenShut
import Derived.ShutString
import Derived.ChangeSame
import Derived.ChangeVars
import Derived.JoinedOf
import Derived.RowKit
import Derived.LaidLaws
import Derived.SevenTiedAt
import Derived.Below
import Derived.SizedLaws
namespace Go.Proofs.YtnjobmbjeknlbaaDoor.fnExactCondName
open Go.ChangeShapes Go.WideShapes Go.ChangeAt Go.RowKit
open Go.ChangeMaps (open_string shut_string)
set_option linter.unusedVariables false
theorem own : ownKnob Tryd.prog.godebug = none := by kernel_rfl
theorem gN : Tryd.prog.globalNamed "loop.example/g00594/impl.condNames" = some 0 := by kernel_rfl
theorem gNType : (Tryd.prog.globals[0]?).map (·.type) = some 37 := by kernel_rfl
theorem cells37 : Tryd.prog.cellsOf 37 = 10 := by kernel_rfl
theorem cells9 : Tryd.prog.cellsOf 9 = 1 := by kernel_rfl
/-- The names of the operations, as they lie. -/
def cells10 : Array Value := #[.string ⟨#[]⟩, .string ⟨#[116, 114, 117, 101]⟩, .string ⟨#[114, 111, 108, 101]⟩, .string ⟨#[111, 119, 110, 115]⟩, .string ⟨#[104, 101, 97, 108, 116, 104]⟩, .string ⟨#[98, 117, 105, 108, 100]⟩, .string ⟨#[98, 101, 102, 111, 114, 101]⟩, .string ⟨#[110, 111, 116]⟩, .string ⟨#[97, 110, 100]⟩, .string ⟨#[111, 114]⟩]
theorem str_of_trod {H : Type} {enc : TypeId × Value → H} {w : World} {base : Nat} {sp : Nat → Bool} {held : Bool} {fuel : Nat} {c : Value} {y : DataW H × List MemPlace}
    (h : DataW.trod enc Tryd.prog w base sp held fuel 9 [c] = some y) : ∃ s : ByteArray, c = .string s ∧ y = (.lit (.string s.data.toList), []) := by
  obtain ⟨s, hc, hy, _⟩ := DataW.trod_string Tryd.underlying9 h
  simp only [List.cons.injEq, and_true] at hc
  exact ⟨s, hc, hy⟩
theorem ba_of_list {s : ByteArray} {l : List UInt8} (h : s.data.toList = l) : s = ⟨l.toArray⟩ := by
  obtain ⟨d⟩ := s
  obtain ⟨x⟩ := d
  have h' : x = l := h
  rw [h']
theorem cells_of_laid {W : World} (h : laidMet Tryd.prog Rows.fnExactCondNameRow.laid W) : W.var? Tryd.prog "loop.example/g00594/impl.condNames" = some cells10 := by
  obtain ⟨ps, ⟨g, t, cs, fuel, p, q, hg, ht, hvar, hd, _, _⟩, _⟩ := h
  obtain rfl := Option.some.inj (gN.symm.trans hg)
  obtain rfl := Option.some.inj (gNType.symm.trans ht)
  rw [hvar]
  congr 1
  obtain ⟨l⟩ := cs
  cases fuel with
  | zero => simp [DataW.trod] at hd
  | succ fuel =>
    simp only [DataW.trod, Tryd.underlying37, cells37, cells9] at hd
    split at hd
    · rename_i hl
      obtain ⟨c0, c1, c2, c3, c4, c5, c6, c7, c8, c9, rfl⟩ : ∃ c0 c1 c2 c3 c4 c5 c6 c7 c8 c9, l = [c0, c1, c2, c3, c4, c5, c6, c7, c8, c9] := by
        match l, hl with
        | [c0, c1, c2, c3, c4, c5, c6, c7, c8, c9], _ => exact ⟨c0, c1, c2, c3, c4, c5, c6, c7, c8, c9, rfl⟩
      have e : List.range 10 = [0, 1, 2, 3, 4, 5, 6, 7, 8, 9] := rfl
      rw [e] at hd
      simp only [Option.map_eq_some_iff, List.mapM_cons, List.mapM_nil, Option.bind_eq_bind, Option.bind_eq_some_iff, Option.pure_def, Option.some.injEq] at hd
      obtain ⟨xs, ⟨y0, h0, _, ⟨y1, h1, _, ⟨y2, h2, _, ⟨y3, h3, _, ⟨y4, h4, _, ⟨y5, h5, _, ⟨y6, h6, _, ⟨y7, h7, _, ⟨y8, h8, _, ⟨y9, h9, _, rfl, rfl⟩, rfl⟩, rfl⟩, rfl⟩, rfl⟩, rfl⟩, rfl⟩, rfl⟩, rfl⟩, rfl⟩, hx⟩ := hd
      obtain ⟨n0, rfl, rfl⟩ := str_of_trod h0
      obtain ⟨n1, rfl, rfl⟩ := str_of_trod h1
      obtain ⟨n2, rfl, rfl⟩ := str_of_trod h2
      obtain ⟨n3, rfl, rfl⟩ := str_of_trod h3
      obtain ⟨n4, rfl, rfl⟩ := str_of_trod h4
      obtain ⟨n5, rfl, rfl⟩ := str_of_trod h5
      obtain ⟨n6, rfl, rfl⟩ := str_of_trod h6
      obtain ⟨n7, rfl, rfl⟩ := str_of_trod h7
      obtain ⟨n8, rfl, rfl⟩ := str_of_trod h8
      obtain ⟨n9, rfl, rfl⟩ := str_of_trod h9
      simp [Rows.laid_loop_example_g00594_impl_condNames] at hx
      obtain ⟨⟨e0, e1, e2, e3, e4, e5, e6, e7, e8, e9⟩, _⟩ := hx
      rw [(show n0 = ⟨#[]⟩ from by obtain ⟨d⟩ := n0; exact congrArg ByteArray.mk e0), ba_of_list e1, ba_of_list e2, ba_of_list e3, ba_of_list e4, ba_of_list e5, ba_of_list e6, ba_of_list e7, ba_of_list e8, ba_of_list e9]
      rfl
    · cases hd
/-- A world that meets the condition. -/
noncomputable def laidWorld (os : Os) : World :=
  { World.holding Tryd.prog os ⟨#[], #[], []⟩ with heap := (World.holding Tryd.prog os ⟨#[], #[], []⟩).heap.modify 0 fun
      | .cells _ t frozen => .cells cells10 t frozen
      | o => o }
theorem laid_met (os : Os) (args : Array Value) : laidMet Tryd.prog Rows.fnExactCondNameRow.laid ((laidWorld os).forCall (fun _ _ => 0) ⟨#[], args, []⟩).memory :=
  laidMet_of_run (ps := [.cell 0 0, .cell 0 1, .cell 0 2, .cell 0 3, .cell 0 4, .cell 0 5, .cell 0 6, .cell 0 7, .cell 0 8, .cell 0 9]) 8 (by kernel_rfl) (by kernel_rfl) (by kernel_rfl)
abbrev tableH {H : Type} : DataW H := Rows.laid_loop_example_g00594_impl_condNames
theorem reads_table {H : Type} (enc : TypeId × Value → H) (W : World) (sp : Nat → Bool) : DataW.trod enc Tryd.prog W 0 sp true 3 37 cells10.toList = some (tableH, []) := by kernel_rfl
set_option maxHeartbeats 8000000 in
set_option maxRecDepth 100000 in
theorem walk (a : Int) (W : World) (hc : ∀ j : Nat, W.cell? ⟨0, j, none⟩ = cells10[j]?) :
    Calls Tryd.prog 3 #[.int .i64 a] W fun e w' => e = .returned (.bool true) ∧ Below W.heap.size W w' := by
  have hlt : 0 < W.heap.size := World.block_lt_of_cell? W ⟨0, 0, none⟩ ((hc 0).trans rfl)
  have hne : W.heap.size ≠ 0 := by omega
  by_cases h1 : 1 ≤ a ∧ a ≤ 9
  · have h : a = 1 ∨ a = 2 ∨ a = 3 ∨ a = 4 ∨ a = 5 ∨ a = 6 ∨ a = 7 ∨ a = 8 ∨ a = 9 := by omega
    rcases h with rfl | rfl | rfl | rfl | rfl | rfl | rfl | rfl | rfl
    · have hj : W.cell? ⟨0, 1, none⟩ = some (.string ⟨#[116, 114, 117, 101]⟩) := (hc 1).trans rfl
      clear hc
      go_enter Tryd.func3, Tryd.ntmps3
      go_wp2
      go_ret
      exact ⟨rfl, by first | exact Below.refl _ _ | exact (Below.refl _ _).alloc (Nat.le_refl _) _⟩
    · have hj : W.cell? ⟨0, 2, none⟩ = some (.string ⟨#[114, 111, 108, 101]⟩) := (hc 2).trans rfl
      clear hc
      go_enter Tryd.func3, Tryd.ntmps3
      go_wp2
      go_ret
      exact ⟨rfl, by first | exact Below.refl _ _ | exact (Below.refl _ _).alloc (Nat.le_refl _) _⟩
    · have hj : W.cell? ⟨0, 3, none⟩ = some (.string ⟨#[111, 119, 110, 115]⟩) := (hc 3).trans rfl
      clear hc
      go_enter Tryd.func3, Tryd.ntmps3
      go_wp2
      go_ret
      exact ⟨rfl, by first | exact Below.refl _ _ | exact (Below.refl _ _).alloc (Nat.le_refl _) _⟩
    · have hj : W.cell? ⟨0, 4, none⟩ = some (.string ⟨#[104, 101, 97, 108, 116, 104]⟩) := (hc 4).trans rfl
      clear hc
      go_enter Tryd.func3, Tryd.ntmps3
      go_wp2
      go_ret
      exact ⟨rfl, by first | exact Below.refl _ _ | exact (Below.refl _ _).alloc (Nat.le_refl _) _⟩
    · have hj : W.cell? ⟨0, 5, none⟩ = some (.string ⟨#[98, 117, 105, 108, 100]⟩) := (hc 5).trans rfl
      clear hc
      go_enter Tryd.func3, Tryd.ntmps3
      go_wp2
      go_ret
      exact ⟨rfl, by first | exact Below.refl _ _ | exact (Below.refl _ _).alloc (Nat.le_refl _) _⟩
    · have hj : W.cell? ⟨0, 6, none⟩ = some (.string ⟨#[98, 101, 102, 111, 114, 101]⟩) := (hc 6).trans rfl
      clear hc
      go_enter Tryd.func3, Tryd.ntmps3
      go_wp2
      go_ret
      exact ⟨rfl, by first | exact Below.refl _ _ | exact (Below.refl _ _).alloc (Nat.le_refl _) _⟩
    · have hj : W.cell? ⟨0, 7, none⟩ = some (.string ⟨#[110, 111, 116]⟩) := (hc 7).trans rfl
      clear hc
      go_enter Tryd.func3, Tryd.ntmps3
      go_wp2
      go_ret
      exact ⟨rfl, by first | exact Below.refl _ _ | exact (Below.refl _ _).alloc (Nat.le_refl _) _⟩
    · have hj : W.cell? ⟨0, 8, none⟩ = some (.string ⟨#[97, 110, 100]⟩) := (hc 8).trans rfl
      clear hc
      go_enter Tryd.func3, Tryd.ntmps3
      go_wp2
      go_ret
      exact ⟨rfl, by first | exact Below.refl _ _ | exact (Below.refl _ _).alloc (Nat.le_refl _) _⟩
    · have hj : W.cell? ⟨0, 9, none⟩ = some (.string ⟨#[111, 114]⟩) := (hc 9).trans rfl
      clear hc
      go_enter Tryd.func3, Tryd.ntmps3
      go_wp2
      go_ret
      exact ⟨rfl, by first | exact Below.refl _ _ | exact (Below.refl _ _).alloc (Nat.le_refl _) _⟩
  · by_cases h2 : 1 ≤ a
    · have h3 : decide (a ≥ 1) = true := decide_eq_true h2
      have h4 : decide (a ≤ 9) = false := decide_eq_false (fun q => h1 ⟨h2, q⟩)
      have h5 : decide (1 ≤ a) = true := decide_eq_true h2
      clear hc
      go_enter Tryd.func3, Tryd.ntmps3
      go_wp2
      go_ret
      exact ⟨rfl, by first | exact Below.refl _ _ | exact (Below.refl _ _).alloc (Nat.le_refl _) _⟩
    · have h3 : decide (a ≥ 1) = false := decide_eq_false h2
      have h5 : decide (1 ≤ a) = false := decide_eq_false h2
      clear hc
      go_enter Tryd.func3, Tryd.ntmps3
      go_wp2
      go_ret
      exact ⟨rfl, by first | exact Below.refl _ _ | exact (Below.refl _ _).alloc (Nat.le_refl _) _⟩
set_option maxRecDepth 100000 in
theorem lifted (os : Os) (started : os.Started) (H : Type) (enc : TypeId × Value → H) :
    ReturnsInHanded {} Tryd.checked os 3 .any (fun w args => (Rows.fnExactCondNameSpec.pre enc Tryd.prog Tryd.f3 [] false w args ∧ laidMet Tryd.prog Rows.fnExactCondNameRow.laid w) ∧ sizedMet enc Tryd.prog Tryd.f3 (OpenSpec.ofChange Rows.fnExactCondNameSpec) false w args)
      (Rows.fnExactCondNameSpec.post enc Tryd.prog Tryd.f3 false true false false) := by
  refine returnsInHanded_of_change_and (C := Tryd.checked) (X := fun w _ => laidMet Tryd.prog Rows.fnExactCondNameRow.laid w) (fun _ _ _ hh h => h.of_heap hh) own started (by kernel_rfl) Tryd.func3
    (ChangeSpec.witness_at (enc := enc) (C := Tryd.checked) (os := os) (X := fun w _ => laidMet Tryd.prog Rows.fnExactCondNameRow.laid w) false (laidWorld os) #[.int .i64 0] 8 rfl (by kernel_rfl) (by kernel_rfl) (by kernel_rfl) (by kernel_rfl) (by kernel_rfl) (laid_met os _)) ?_
  intro W base args ds gs before hval0 hW _ _ hL _
  have hval : ∀ (j : Nat) t v, Tryd.f3.params[j]? = some t → args[j]? = some v → Value.okWide Tryd.prog W .any base t v := hval0
  have hW' := hW
  obtain ⟨p, q, hA0, hV0, rfl, hfz, hnd⟩ := hW
  have hA : DataW.TrodAll enc Tryd.prog W 0 (fun _ => true) true Tryd.f3.params.toList args.toList ds p := hA0
  have hV : DataW.TrodVars enc Tryd.prog W (fun _ => true) ["loop.example/g00594/impl.condNames"] gs q := hV0
  rw [Tryd.params3] at hA hval
  obtain ⟨v0, d0, rfl, rfl, h0⟩ := trodAll_one hA
  obtain ⟨a, rfl, rfl, rfl, w0⟩ := open_int Tryd.underlying3 (hval 0 3 v0 rfl rfl) h0
  obtain ⟨g, t, cs, fuel, d, p', rfl, hg, ht, hvar, hd, rfl⟩ := trodVars_one hV
  obtain rfl := Option.some.inj (gN.symm.trans hg)
  obtain rfl := Option.some.inj (gNType.symm.trans ht)
  obtain rfl : cs = cells10 := Option.some.inj (hvar.symm.trans (cells_of_laid hL))
  obtain ⟨rfl, rfl⟩ := DataW.Trod.unique (v := .agg cells10) ⟨fuel, hd⟩ ⟨3, reads_table enc W _⟩
  clear hA0 hval0 hV0
  have hlt : 0 < W.heap.size := World.block_lt_of_cell? W ⟨0, 0, none⟩ ((World.var?_cell hg hvar 0).trans rfl)
  refine (walk a W (fun j => World.var?_cell hg hvar j)).mono fun e W' ⟨he, bel⟩ => ?_
  subst he
  have hvar' : W'.var? Tryd.prog "loop.example/g00594/impl.condNames" = some cells10 := var?_below bel hg hlt hvar
  have hvars : ∀ sp : Nat → Bool, DataW.TrodVars enc Tryd.prog W' sp ["loop.example/g00594/impl.condNames"] [tableH] (MemPlace.row ⟨0, 0, none⟩ cells10.size ++ [] ++ []) := fun sp =>
    ⟨0, 37, cells10, 3, [], [], hg, ht, hvar', reads_table enc W' sp, rfl, rfl⟩
  exact ⟨_, rfl, _, _, _, [], _, _, hW', trodAll_mk1 (shut_bool Tryd.underlying4 _), trodAll_mk1 (shut_int Tryd.underlying3 w0), hvars _, bel.frame _, fun h => by cases h⟩
theorem over : Rows.fnExactCondNameRow.holds Tryd.pinned (OpenSpec.ofChange Rows.fnExactCondNameSpec) :=
  OpenClaim.holds_of_wide 3 Tryd.f3 rfl rfl rfl rfl rfl rfl rfl ⟨rfl, rfl, rfl, rfl, rfl⟩ rfl rfl rfl rfl rfl (by kernel_rfl) Tryd.func3 (by kernel_rfl)
    (of_decide_eq_true (by kernel_rfl)) (by unfold Func.isWrapper; first | (rw [if_pos (by decide +kernel)]; kernel_rfl) | (rw [if_neg (by decide +kernel)]; exact ⟨rfl, rfl⟩))
    (fun os started H enc _ => lifted os started H enc)
theorem card : Claim7.holds Tryd.pinned (.plain (OpenSpec.ofChange Rows.fnExactCondNameSpec)) Rows.fnExactCondNameCard :=
  Claim7.holds_tied_plain_at .later [] [.widerDeep] true (true, "a5f044d701d22bfc601dc31b109cd54a2d487d7b30e7333b329ed1399478f12c") false
    over (fun _ h => by cases h) (by kernel_rfl) (fun _ h => by cases h) fnExactCondName_row_tie rfl ⟨rfl, rfl⟩ (by kernel_rfl) rfl
    (fun f fn hf hfn => by
      obtain rfl : f = 3 := Option.some.inj ((show Tryd.prog.funcNamed "loop.example/g00594/laws.FnExactCondName" = some 3 by kernel_rfl).symm.trans hf) |>.symm
      obtain rfl : fn = Tryd.f3 := (Option.some.inj (Tryd.func3.symm.trans hfn)).symm
      exact ⟨by kernel_rfl, fun j t ht => by
        rw [Tryd.params3] at ht
        have h3 : t = 3 := by
          rcases j with _ | j
          · simpa using ht.symm
          · simp at ht
        subst h3
        exact (show Tryd.prog.wantsStandIn 3 = false by kernel_rfl)⟩)
    (by kernel_rfl)
end Go.Proofs.YtnjobmbjeknlbaaDoor.fnExactCondName
namespace Go.Proofs.YtnjobmbjeknlbaaDoor
/-- The card, under a short name, for the claim. -/
theorem fnExactCondName_holds : Rows.FnExactCondNameCardSaid := fnExactCondName.card
#print axioms fnExactCondName_holds
end Go.Proofs.YtnjobmbjeknlbaaDoor
