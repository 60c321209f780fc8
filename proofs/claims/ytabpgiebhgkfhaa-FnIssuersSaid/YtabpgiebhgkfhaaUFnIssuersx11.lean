/- Written by this session's own program (wip/xprint, which runs over the kit's print): what the functions that the law reaches come to, each proved; and the law's row. Conditions: none. -/
import Derived.Test.YtabpgiebhgkfhaaUFnIssuersSq
import Derived.Test.YtabpgiebhgkfhaaUFnIssuersx0
import Derived.Test.YtabpgiebhgkfhaaUFnIssuersx10
namespace Go.Proofs.Ytabpgiebhgkfhaa.XFnIssuers
open Go.RowKit Go.Proofs.YtabpgiebhgkfhaaW.PrintWords Go.Proofs.YtabpgiebhgkfhaaW.PrintLast Go.Proofs.YtabpgiebhgkfhaaW.PrintMore Go.Proofs.YtabpgiebhgkfhaaSq
attribute [local go_sem] max2_int min2_int max_two min_two max_three min_three max_four min_four   -- for this text's walks alone
set_option linter.unusedVariables false
set_option linter.unusedSimpArgs false

/-! ### spec_IsFact: function 79 -/
def spec_IsFact.f (a0_0 : Int) (a0_1 : Int) (a0_2 : Int) (a0_3 : Int) (a0_4 : Int) (a0_5 : Int) : Option (Bool) := if a0_0 = 1 then ((spec_HasKind.f a0_1 1).bind fun t241 => (if t241 = true then ((spec_l1In.f a0_2 0 5).bind fun t242 => (if t242 = true then ((spec_l1In.f a0_3 0 9).bind fun t243 => (if t243 = true then ((spec_IsTime.f a0_4).bind fun t244 => (if t244 = true then ((spec_IsTime.f a0_5).bind fun t245 => (if t245 = true then (some (decide (a0_4 ≤ a0_5))) else (some false))) else (some false))) else (some false))) else (some false))) else (some false))) else (if a0_0 = 2 then ((spec_HasKind.f a0_1 1).bind fun t246 => (if t246 = true then ((spec_HasKind.f a0_2 2).bind fun t247 => (if t247 = true then ((spec_l1In.f a0_3 0 9).bind fun t248 => (if t248 = true then ((spec_IsTime.f a0_4).bind fun t249 => (if t249 = true then ((spec_IsTime.f a0_5).bind fun t250 => (if t250 = true then (some (decide (a0_4 ≤ a0_5))) else (some false))) else (some false))) else (some false))) else (some false))) else (some false))) else (if a0_0 = 3 then ((spec_HasKind.f a0_1 2).bind fun t251 => (if t251 = true then ((spec_l1In.f a0_2 0 3).bind fun t252 => (if t252 = true then ((spec_l1In.f a0_3 0 9).bind fun t253 => (if t253 = true then ((spec_IsTime.f a0_4).bind fun t254 => (if t254 = true then ((spec_IsTime.f a0_5).bind fun t255 => (if t255 = true then (some (decide (a0_4 ≤ a0_5))) else (some false))) else (some false))) else (some false))) else (some false))) else (some false))) else (if a0_0 = 4 then ((spec_HasKind.f a0_1 3).bind fun t256 => (if t256 = true then ((spec_l1In.f a0_2 0 3).bind fun t257 => (if t257 = true then ((spec_l1In.f a0_3 0 9).bind fun t258 => (if t258 = true then ((spec_IsTime.f a0_4).bind fun t259 => (if t259 = true then ((spec_IsTime.f a0_5).bind fun t260 => (if t260 = true then (some (decide (a0_4 ≤ a0_5))) else (some false))) else (some false))) else (some false))) else (some false))) else (some false))) else (some false))))
set_option maxRecDepth 100000 in
theorem zl79 {Q : Prop} (g : Q := by go_enter Try.func79, Try.ntmps79; go_wp2_with (first | ((with_reducible refine gate_dst (N := 1) rfl ?_); refine bx (N := 1) (cs := #[.int .i64 a0_0, .int .i64 a0_1, .int .i64 a0_2, .int .i64 a0_3, .int .i64 a0_4, .int .i64 a0_5]) (t := 55) ?_; intro gb240 hg w0q hbox hb; have BK240 := As_.mk (hbox); have GW240 := As_.mk ((by rw [hg]; exact (below_size sqh) : w.heap.size ≤ gb240)); have GE240 := As_.mk ((by rw [hg]; exact (below_size sqh) : w.heap.size ≤ gb240)); replace HB := As_.mk (below_step sqh hb); clear hb hbox hg; obtain ⟨hcz14_0, hcz14_1, hcz14_2, hcz14_3, hcz14_4, hcz14_5, hfz14_0, hfz14_1, hfz14_2, hfz14_3, hfz14_4, hfz14_5⟩ := sd6 BK240.out) | ((with_reducible refine gate_callee (f := 113) rfl ?_); refine goesL_ (some 10) rfl rfl Try.func113 sqk rfl #[.int .i64 a0_1, .int .i64 1] rfl sqm ?_; (with_reducible refine (spec_HasKind.calls a0_1 1 true _ A3.out).mono ?_); rintro e w' ⟨rfl, ⟨nd, rfl⟩⟩; refine ⟨_, rfl, ?_⟩) | (go_at_call 72; (with_reducible refine (spec_l1In.calls a0_2 0 5 true _ A5.out).mono ?_); rintro e w' ⟨rfl, ⟨nd, rfl⟩⟩) | (go_at_call 72; (with_reducible refine (spec_l1In.calls a0_3 0 9 true _ A7.out).mono ?_); rintro e w' ⟨rfl, ⟨nd, rfl⟩⟩) | (go_at_call 80; (with_reducible refine (spec_IsTime.calls a0_4 true _ A9.out).mono ?_); rintro e w' ⟨rfl, ⟨nd, rfl⟩⟩) | (go_at_call 80; (with_reducible refine (spec_IsTime.calls a0_5 true _ A11.out).mono ?_); rintro e w' ⟨rfl, ⟨nd, rfl⟩⟩) | ((with_reducible refine gate_dst (N := 1) rfl ?_); refine bx (N := 1) (cs := #[.int .i64 a0_0, .int .i64 a0_1, .int .i64 a0_2, .int .i64 a0_3, .int .i64 a0_4, .int .i64 a0_5]) (t := 55) ?_; intro gb240 hg w0q hbox hb; have BK240 := As_.mk (hbox); have GW240 := As_.mk ((by rw [hg]; exact (below_size sqh) : w.heap.size ≤ gb240)); have GE240 := As_.mk ((by rw [hg]; exact (below_size sqh) : w.heap.size ≤ gb240)); replace HB := As_.mk (below_step sqh hb); clear hb hbox hg; obtain ⟨hcz16_0, hcz16_1, hcz16_2, hcz16_3, hcz16_4, hcz16_5, hfz16_0, hfz16_1, hfz16_2, hfz16_3, hfz16_4, hfz16_5⟩ := sd6 BK240.out) | (go_at_call 80; (with_reducible refine (spec_IsTime.calls a0_5 false _ A11.out).mono ?_); rintro e w' ⟨rfl, ⟨nd, rfl⟩⟩) | ((with_reducible refine gate_dst (N := 1) rfl ?_); refine bx (N := 1) (cs := #[.int .i64 a0_0, .int .i64 a0_1, .int .i64 a0_2, .int .i64 a0_3, .int .i64 a0_4, .int .i64 a0_5]) (t := 55) ?_; intro gb240 hg w0q hbox hb; have BK240 := As_.mk (hbox); have GW240 := As_.mk ((by rw [hg]; exact (below_size sqh) : w.heap.size ≤ gb240)); have GE240 := As_.mk ((by rw [hg]; exact (below_size sqh) : w.heap.size ≤ gb240)); replace HB := As_.mk (below_step sqh hb); clear hb hbox hg; obtain ⟨hcz18_0, hcz18_1, hcz18_2, hcz18_3, hcz18_4, hcz18_5, hfz18_0, hfz18_1, hfz18_2, hfz18_3, hfz18_4, hfz18_5⟩ := sd6 BK240.out) | (go_at_call 80; (with_reducible refine (spec_IsTime.calls a0_4 false _ A9.out).mono ?_); rintro e w' ⟨rfl, ⟨nd, rfl⟩⟩) | ((with_reducible refine gate_dst (N := 1) rfl ?_); refine bx (N := 1) (cs := #[.int .i64 a0_0, .int .i64 a0_1, .int .i64 a0_2, .int .i64 a0_3, .int .i64 a0_4, .int .i64 a0_5]) (t := 55) ?_; intro gb240 hg w0q hbox hb; have BK240 := As_.mk (hbox); have GW240 := As_.mk ((by rw [hg]; exact (below_size sqh) : w.heap.size ≤ gb240)); have GE240 := As_.mk ((by rw [hg]; exact (below_size sqh) : w.heap.size ≤ gb240)); replace HB := As_.mk (below_step sqh hb); clear hb hbox hg; obtain ⟨hcz20_0, hcz20_1, hcz20_2, hcz20_3, hcz20_4, hcz20_5, hfz20_0, hfz20_1, hfz20_2, hfz20_3, hfz20_4, hfz20_5⟩ := sd6 BK240.out) | (go_at_call 72; (with_reducible refine (spec_l1In.calls a0_3 0 9 false _ A7.out).mono ?_); rintro e w' ⟨rfl, ⟨nd, rfl⟩⟩) | ((with_reducible refine gate_dst (N := 1) rfl ?_); refine bx (N := 1) (cs := #[.int .i64 a0_0, .int .i64 a0_1, .int .i64 a0_2, .int .i64 a0_3, .int .i64 a0_4, .int .i64 a0_5]) (t := 55) ?_; intro gb240 hg w0q hbox hb; have BK240 := As_.mk (hbox); have GW240 := As_.mk ((by rw [hg]; exact (below_size sqh) : w.heap.size ≤ gb240)); have GE240 := As_.mk ((by rw [hg]; exact (below_size sqh) : w.heap.size ≤ gb240)); replace HB := As_.mk (below_step sqh hb); clear hb hbox hg; obtain ⟨hcz22_0, hcz22_1, hcz22_2, hcz22_3, hcz22_4, hcz22_5, hfz22_0, hfz22_1, hfz22_2, hfz22_3, hfz22_4, hfz22_5⟩ := sd6 BK240.out) | (go_at_call 72; (with_reducible refine (spec_l1In.calls a0_2 0 5 false _ A5.out).mono ?_); rintro e w' ⟨rfl, ⟨nd, rfl⟩⟩) | ((with_reducible refine gate_dst (N := 1) rfl ?_); refine bx (N := 1) (cs := #[.int .i64 a0_0, .int .i64 a0_1, .int .i64 a0_2, .int .i64 a0_3, .int .i64 a0_4, .int .i64 a0_5]) (t := 55) ?_; intro gb240 hg w0q hbox hb; have BK240 := As_.mk (hbox); have GW240 := As_.mk ((by rw [hg]; exact (below_size sqh) : w.heap.size ≤ gb240)); have GE240 := As_.mk ((by rw [hg]; exact (below_size sqh) : w.heap.size ≤ gb240)); replace HB := As_.mk (below_step sqh hb); clear hb hbox hg; obtain ⟨hcz24_0, hcz24_1, hcz24_2, hcz24_3, hcz24_4, hcz24_5, hfz24_0, hfz24_1, hfz24_2, hfz24_3, hfz24_4, hfz24_5⟩ := sd6 BK240.out) | ((with_reducible refine gate_callee (f := 113) rfl ?_); refine goesL_ (some 10) rfl rfl Try.func113 sqk rfl #[.int .i64 a0_1, .int .i64 1] rfl sqm ?_; (with_reducible refine (spec_HasKind.calls a0_1 1 false _ A3.out).mono ?_); rintro e w' ⟨rfl, ⟨nd, rfl⟩⟩; refine ⟨_, rfl, ?_⟩) | ((with_reducible refine gate_dst (N := 1) rfl ?_); refine bx (N := 1) (cs := #[.int .i64 a0_0, .int .i64 a0_1, .int .i64 a0_2, .int .i64 a0_3, .int .i64 a0_4, .int .i64 a0_5]) (t := 55) ?_; intro gb240 hg w0q hbox hb; have BK240 := As_.mk (hbox); have GW240 := As_.mk ((by rw [hg]; exact (below_size sqh) : w.heap.size ≤ gb240)); have GE240 := As_.mk ((by rw [hg]; exact (below_size sqh) : w.heap.size ≤ gb240)); replace HB := As_.mk (below_step sqh hb); clear hb hbox hg; obtain ⟨hcz37_0, hcz37_1, hcz37_2, hcz37_3, hcz37_4, hcz37_5, hfz37_0, hfz37_1, hfz37_2, hfz37_3, hfz37_4, hfz37_5⟩ := sd6 BK240.out) | ((with_reducible refine gate_callee (f := 113) rfl ?_); refine goesL_ (some 20) rfl rfl Try.func113 sqk rfl #[.int .i64 a0_1, .int .i64 1] rfl sqm ?_; (with_reducible refine (spec_HasKind.calls a0_1 1 true _ A26.out).mono ?_); rintro e w' ⟨rfl, ⟨nd, rfl⟩⟩; refine ⟨_, rfl, ?_⟩) | (go_at_call 113; (with_reducible refine (spec_HasKind.calls a0_2 2 true _ A28.out).mono ?_); rintro e w' ⟨rfl, ⟨nd, rfl⟩⟩) | (go_at_call 72; (with_reducible refine (spec_l1In.calls a0_3 0 9 true _ A30.out).mono ?_); rintro e w' ⟨rfl, ⟨nd, rfl⟩⟩) | (go_at_call 80; (with_reducible refine (spec_IsTime.calls a0_4 true _ A32.out).mono ?_); rintro e w' ⟨rfl, ⟨nd, rfl⟩⟩) | (go_at_call 80; (with_reducible refine (spec_IsTime.calls a0_5 true _ A34.out).mono ?_); rintro e w' ⟨rfl, ⟨nd, rfl⟩⟩) | ((with_reducible refine gate_dst (N := 1) rfl ?_); refine bx (N := 1) (cs := #[.int .i64 a0_0, .int .i64 a0_1, .int .i64 a0_2, .int .i64 a0_3, .int .i64 a0_4, .int .i64 a0_5]) (t := 55) ?_; intro gb240 hg w0q hbox hb; have BK240 := As_.mk (hbox); have GW240 := As_.mk ((by rw [hg]; exact (below_size sqh) : w.heap.size ≤ gb240)); have GE240 := As_.mk ((by rw [hg]; exact (below_size sqh) : w.heap.size ≤ gb240)); replace HB := As_.mk (below_step sqh hb); clear hb hbox hg; obtain ⟨hcz39_0, hcz39_1, hcz39_2, hcz39_3, hcz39_4, hcz39_5, hfz39_0, hfz39_1, hfz39_2, hfz39_3, hfz39_4, hfz39_5⟩ := sd6 BK240.out) | (go_at_call 80; (with_reducible refine (spec_IsTime.calls a0_5 false _ A34.out).mono ?_); rintro e w' ⟨rfl, ⟨nd, rfl⟩⟩) | ((with_reducible refine gate_dst (N := 1) rfl ?_); refine bx (N := 1) (cs := #[.int .i64 a0_0, .int .i64 a0_1, .int .i64 a0_2, .int .i64 a0_3, .int .i64 a0_4, .int .i64 a0_5]) (t := 55) ?_; intro gb240 hg w0q hbox hb; have BK240 := As_.mk (hbox); have GW240 := As_.mk ((by rw [hg]; exact (below_size sqh) : w.heap.size ≤ gb240)); have GE240 := As_.mk ((by rw [hg]; exact (below_size sqh) : w.heap.size ≤ gb240)); replace HB := As_.mk (below_step sqh hb); clear hb hbox hg; obtain ⟨hcz41_0, hcz41_1, hcz41_2, hcz41_3, hcz41_4, hcz41_5, hfz41_0, hfz41_1, hfz41_2, hfz41_3, hfz41_4, hfz41_5⟩ := sd6 BK240.out) | (go_at_call 80; (with_reducible refine (spec_IsTime.calls a0_4 false _ A32.out).mono ?_); rintro e w' ⟨rfl, ⟨nd, rfl⟩⟩) | ((with_reducible refine gate_dst (N := 1) rfl ?_); refine bx (N := 1) (cs := #[.int .i64 a0_0, .int .i64 a0_1, .int .i64 a0_2, .int .i64 a0_3, .int .i64 a0_4, .int .i64 a0_5]) (t := 55) ?_; intro gb240 hg w0q hbox hb; have BK240 := As_.mk (hbox); have GW240 := As_.mk ((by rw [hg]; exact (below_size sqh) : w.heap.size ≤ gb240)); have GE240 := As_.mk ((by rw [hg]; exact (below_size sqh) : w.heap.size ≤ gb240)); replace HB := As_.mk (below_step sqh hb); clear hb hbox hg; obtain ⟨hcz43_0, hcz43_1, hcz43_2, hcz43_3, hcz43_4, hcz43_5, hfz43_0, hfz43_1, hfz43_2, hfz43_3, hfz43_4, hfz43_5⟩ := sd6 BK240.out) | (go_at_call 72; (with_reducible refine (spec_l1In.calls a0_3 0 9 false _ A30.out).mono ?_); rintro e w' ⟨rfl, ⟨nd, rfl⟩⟩) | ((with_reducible refine gate_dst (N := 1) rfl ?_); refine bx (N := 1) (cs := #[.int .i64 a0_0, .int .i64 a0_1, .int .i64 a0_2, .int .i64 a0_3, .int .i64 a0_4, .int .i64 a0_5]) (t := 55) ?_; intro gb240 hg w0q hbox hb; have BK240 := As_.mk (hbox); have GW240 := As_.mk ((by rw [hg]; exact (below_size sqh) : w.heap.size ≤ gb240)); have GE240 := As_.mk ((by rw [hg]; exact (below_size sqh) : w.heap.size ≤ gb240)); replace HB := As_.mk (below_step sqh hb); clear hb hbox hg; obtain ⟨hcz45_0, hcz45_1, hcz45_2, hcz45_3, hcz45_4, hcz45_5, hfz45_0, hfz45_1, hfz45_2, hfz45_3, hfz45_4, hfz45_5⟩ := sd6 BK240.out) | (go_at_call 113; (with_reducible refine (spec_HasKind.calls a0_2 2 false _ A28.out).mono ?_); rintro e w' ⟨rfl, ⟨nd, rfl⟩⟩) | ((with_reducible refine gate_dst (N := 1) rfl ?_); refine bx (N := 1) (cs := #[.int .i64 a0_0, .int .i64 a0_1, .int .i64 a0_2, .int .i64 a0_3, .int .i64 a0_4, .int .i64 a0_5]) (t := 55) ?_; intro gb240 hg w0q hbox hb; have BK240 := As_.mk (hbox); have GW240 := As_.mk ((by rw [hg]; exact (below_size sqh) : w.heap.size ≤ gb240)); have GE240 := As_.mk ((by rw [hg]; exact (below_size sqh) : w.heap.size ≤ gb240)); replace HB := As_.mk (below_step sqh hb); clear hb hbox hg; obtain ⟨hcz47_0, hcz47_1, hcz47_2, hcz47_3, hcz47_4, hcz47_5, hfz47_0, hfz47_1, hfz47_2, hfz47_3, hfz47_4, hfz47_5⟩ := sd6 BK240.out) | ((with_reducible refine gate_callee (f := 113) rfl ?_); refine goesL_ (some 20) rfl rfl Try.func113 sqk rfl #[.int .i64 a0_1, .int .i64 1] rfl sqm ?_; (with_reducible refine (spec_HasKind.calls a0_1 1 false _ A26.out).mono ?_); rintro e w' ⟨rfl, ⟨nd, rfl⟩⟩; refine ⟨_, rfl, ?_⟩) | ((with_reducible refine gate_dst (N := 1) rfl ?_); refine bx (N := 1) (cs := #[.int .i64 a0_0, .int .i64 a0_1, .int .i64 a0_2, .int .i64 a0_3, .int .i64 a0_4, .int .i64 a0_5]) (t := 55) ?_; intro gb240 hg w0q hbox hb; have BK240 := As_.mk (hbox); have GW240 := As_.mk ((by rw [hg]; exact (below_size sqh) : w.heap.size ≤ gb240)); have GE240 := As_.mk ((by rw [hg]; exact (below_size sqh) : w.heap.size ≤ gb240)); replace HB := As_.mk (below_step sqh hb); clear hb hbox hg; obtain ⟨hcz60_0, hcz60_1, hcz60_2, hcz60_3, hcz60_4, hcz60_5, hfz60_0, hfz60_1, hfz60_2, hfz60_3, hfz60_4, hfz60_5⟩ := sd6 BK240.out) | ((with_reducible refine gate_callee (f := 113) rfl ?_); refine goesL_ (some 30) rfl rfl Try.func113 sqk rfl #[.int .i64 a0_1, .int .i64 2] rfl sqm ?_; (with_reducible refine (spec_HasKind.calls a0_1 2 true _ A49.out).mono ?_); rintro e w' ⟨rfl, ⟨nd, rfl⟩⟩; refine ⟨_, rfl, ?_⟩) | (go_at_call 72; (with_reducible refine (spec_l1In.calls a0_2 0 3 true _ A51.out).mono ?_); rintro e w' ⟨rfl, ⟨nd, rfl⟩⟩) | (go_at_call 72; (with_reducible refine (spec_l1In.calls a0_3 0 9 true _ A53.out).mono ?_); rintro e w' ⟨rfl, ⟨nd, rfl⟩⟩) | (go_at_call 80; (with_reducible refine (spec_IsTime.calls a0_4 true _ A55.out).mono ?_); rintro e w' ⟨rfl, ⟨nd, rfl⟩⟩) | (go_at_call 80; (with_reducible refine (spec_IsTime.calls a0_5 true _ A57.out).mono ?_); rintro e w' ⟨rfl, ⟨nd, rfl⟩⟩) | ((with_reducible refine gate_dst (N := 1) rfl ?_); refine bx (N := 1) (cs := #[.int .i64 a0_0, .int .i64 a0_1, .int .i64 a0_2, .int .i64 a0_3, .int .i64 a0_4, .int .i64 a0_5]) (t := 55) ?_; intro gb240 hg w0q hbox hb; have BK240 := As_.mk (hbox); have GW240 := As_.mk ((by rw [hg]; exact (below_size sqh) : w.heap.size ≤ gb240)); have GE240 := As_.mk ((by rw [hg]; exact (below_size sqh) : w.heap.size ≤ gb240)); replace HB := As_.mk (below_step sqh hb); clear hb hbox hg; obtain ⟨hcz62_0, hcz62_1, hcz62_2, hcz62_3, hcz62_4, hcz62_5, hfz62_0, hfz62_1, hfz62_2, hfz62_3, hfz62_4, hfz62_5⟩ := sd6 BK240.out) | (go_at_call 80; (with_reducible refine (spec_IsTime.calls a0_5 false _ A57.out).mono ?_); rintro e w' ⟨rfl, ⟨nd, rfl⟩⟩) | ((with_reducible refine gate_dst (N := 1) rfl ?_); refine bx (N := 1) (cs := #[.int .i64 a0_0, .int .i64 a0_1, .int .i64 a0_2, .int .i64 a0_3, .int .i64 a0_4, .int .i64 a0_5]) (t := 55) ?_; intro gb240 hg w0q hbox hb; have BK240 := As_.mk (hbox); have GW240 := As_.mk ((by rw [hg]; exact (below_size sqh) : w.heap.size ≤ gb240)); have GE240 := As_.mk ((by rw [hg]; exact (below_size sqh) : w.heap.size ≤ gb240)); replace HB := As_.mk (below_step sqh hb); clear hb hbox hg; obtain ⟨hcz64_0, hcz64_1, hcz64_2, hcz64_3, hcz64_4, hcz64_5, hfz64_0, hfz64_1, hfz64_2, hfz64_3, hfz64_4, hfz64_5⟩ := sd6 BK240.out) | (go_at_call 80; (with_reducible refine (spec_IsTime.calls a0_4 false _ A55.out).mono ?_); rintro e w' ⟨rfl, ⟨nd, rfl⟩⟩) | ((with_reducible refine gate_dst (N := 1) rfl ?_); refine bx (N := 1) (cs := #[.int .i64 a0_0, .int .i64 a0_1, .int .i64 a0_2, .int .i64 a0_3, .int .i64 a0_4, .int .i64 a0_5]) (t := 55) ?_; intro gb240 hg w0q hbox hb; have BK240 := As_.mk (hbox); have GW240 := As_.mk ((by rw [hg]; exact (below_size sqh) : w.heap.size ≤ gb240)); have GE240 := As_.mk ((by rw [hg]; exact (below_size sqh) : w.heap.size ≤ gb240)); replace HB := As_.mk (below_step sqh hb); clear hb hbox hg; obtain ⟨hcz66_0, hcz66_1, hcz66_2, hcz66_3, hcz66_4, hcz66_5, hfz66_0, hfz66_1, hfz66_2, hfz66_3, hfz66_4, hfz66_5⟩ := sd6 BK240.out) | (go_at_call 72; (with_reducible refine (spec_l1In.calls a0_3 0 9 false _ A53.out).mono ?_); rintro e w' ⟨rfl, ⟨nd, rfl⟩⟩) | ((with_reducible refine gate_dst (N := 1) rfl ?_); refine bx (N := 1) (cs := #[.int .i64 a0_0, .int .i64 a0_1, .int .i64 a0_2, .int .i64 a0_3, .int .i64 a0_4, .int .i64 a0_5]) (t := 55) ?_; intro gb240 hg w0q hbox hb; have BK240 := As_.mk (hbox); have GW240 := As_.mk ((by rw [hg]; exact (below_size sqh) : w.heap.size ≤ gb240)); have GE240 := As_.mk ((by rw [hg]; exact (below_size sqh) : w.heap.size ≤ gb240)); replace HB := As_.mk (below_step sqh hb); clear hb hbox hg; obtain ⟨hcz68_0, hcz68_1, hcz68_2, hcz68_3, hcz68_4, hcz68_5, hfz68_0, hfz68_1, hfz68_2, hfz68_3, hfz68_4, hfz68_5⟩ := sd6 BK240.out) | (go_at_call 72; (with_reducible refine (spec_l1In.calls a0_2 0 3 false _ A51.out).mono ?_); rintro e w' ⟨rfl, ⟨nd, rfl⟩⟩) | ((with_reducible refine gate_dst (N := 1) rfl ?_); refine bx (N := 1) (cs := #[.int .i64 a0_0, .int .i64 a0_1, .int .i64 a0_2, .int .i64 a0_3, .int .i64 a0_4, .int .i64 a0_5]) (t := 55) ?_; intro gb240 hg w0q hbox hb; have BK240 := As_.mk (hbox); have GW240 := As_.mk ((by rw [hg]; exact (below_size sqh) : w.heap.size ≤ gb240)); have GE240 := As_.mk ((by rw [hg]; exact (below_size sqh) : w.heap.size ≤ gb240)); replace HB := As_.mk (below_step sqh hb); clear hb hbox hg; obtain ⟨hcz70_0, hcz70_1, hcz70_2, hcz70_3, hcz70_4, hcz70_5, hfz70_0, hfz70_1, hfz70_2, hfz70_3, hfz70_4, hfz70_5⟩ := sd6 BK240.out) | ((with_reducible refine gate_callee (f := 113) rfl ?_); refine goesL_ (some 30) rfl rfl Try.func113 sqk rfl #[.int .i64 a0_1, .int .i64 2] rfl sqm ?_; (with_reducible refine (spec_HasKind.calls a0_1 2 false _ A49.out).mono ?_); rintro e w' ⟨rfl, ⟨nd, rfl⟩⟩; refine ⟨_, rfl, ?_⟩) | ((with_reducible refine gate_dst (N := 1) rfl ?_); refine bx (N := 1) (cs := #[.int .i64 a0_0, .int .i64 a0_1, .int .i64 a0_2, .int .i64 a0_3, .int .i64 a0_4, .int .i64 a0_5]) (t := 55) ?_; intro gb240 hg w0q hbox hb; have BK240 := As_.mk (hbox); have GW240 := As_.mk ((by rw [hg]; exact (below_size sqh) : w.heap.size ≤ gb240)); have GE240 := As_.mk ((by rw [hg]; exact (below_size sqh) : w.heap.size ≤ gb240)); replace HB := As_.mk (below_step sqh hb); clear hb hbox hg; obtain ⟨hcz83_0, hcz83_1, hcz83_2, hcz83_3, hcz83_4, hcz83_5, hfz83_0, hfz83_1, hfz83_2, hfz83_3, hfz83_4, hfz83_5⟩ := sd6 BK240.out) | ((with_reducible refine gate_callee (f := 113) rfl ?_); refine goesL_ (some 40) rfl rfl Try.func113 sqk rfl #[.int .i64 a0_1, .int .i64 3] rfl sqm ?_; (with_reducible refine (spec_HasKind.calls a0_1 3 true _ A72.out).mono ?_); rintro e w' ⟨rfl, ⟨nd, rfl⟩⟩; refine ⟨_, rfl, ?_⟩) | (go_at_call 72; (with_reducible refine (spec_l1In.calls a0_2 0 3 true _ A74.out).mono ?_); rintro e w' ⟨rfl, ⟨nd, rfl⟩⟩) | (go_at_call 72; (with_reducible refine (spec_l1In.calls a0_3 0 9 true _ A76.out).mono ?_); rintro e w' ⟨rfl, ⟨nd, rfl⟩⟩) | (go_at_call 80; (with_reducible refine (spec_IsTime.calls a0_4 true _ A78.out).mono ?_); rintro e w' ⟨rfl, ⟨nd, rfl⟩⟩) | (go_at_call 80; (with_reducible refine (spec_IsTime.calls a0_5 true _ A80.out).mono ?_); rintro e w' ⟨rfl, ⟨nd, rfl⟩⟩) | ((with_reducible refine gate_dst (N := 1) rfl ?_); refine bx (N := 1) (cs := #[.int .i64 a0_0, .int .i64 a0_1, .int .i64 a0_2, .int .i64 a0_3, .int .i64 a0_4, .int .i64 a0_5]) (t := 55) ?_; intro gb240 hg w0q hbox hb; have BK240 := As_.mk (hbox); have GW240 := As_.mk ((by rw [hg]; exact (below_size sqh) : w.heap.size ≤ gb240)); have GE240 := As_.mk ((by rw [hg]; exact (below_size sqh) : w.heap.size ≤ gb240)); replace HB := As_.mk (below_step sqh hb); clear hb hbox hg; obtain ⟨hcz85_0, hcz85_1, hcz85_2, hcz85_3, hcz85_4, hcz85_5, hfz85_0, hfz85_1, hfz85_2, hfz85_3, hfz85_4, hfz85_5⟩ := sd6 BK240.out) | (go_at_call 80; (with_reducible refine (spec_IsTime.calls a0_5 false _ A80.out).mono ?_); rintro e w' ⟨rfl, ⟨nd, rfl⟩⟩) | ((with_reducible refine gate_dst (N := 1) rfl ?_); refine bx (N := 1) (cs := #[.int .i64 a0_0, .int .i64 a0_1, .int .i64 a0_2, .int .i64 a0_3, .int .i64 a0_4, .int .i64 a0_5]) (t := 55) ?_; intro gb240 hg w0q hbox hb; have BK240 := As_.mk (hbox); have GW240 := As_.mk ((by rw [hg]; exact (below_size sqh) : w.heap.size ≤ gb240)); have GE240 := As_.mk ((by rw [hg]; exact (below_size sqh) : w.heap.size ≤ gb240)); replace HB := As_.mk (below_step sqh hb); clear hb hbox hg; obtain ⟨hcz87_0, hcz87_1, hcz87_2, hcz87_3, hcz87_4, hcz87_5, hfz87_0, hfz87_1, hfz87_2, hfz87_3, hfz87_4, hfz87_5⟩ := sd6 BK240.out) | (go_at_call 80; (with_reducible refine (spec_IsTime.calls a0_4 false _ A78.out).mono ?_); rintro e w' ⟨rfl, ⟨nd, rfl⟩⟩) | ((with_reducible refine gate_dst (N := 1) rfl ?_); refine bx (N := 1) (cs := #[.int .i64 a0_0, .int .i64 a0_1, .int .i64 a0_2, .int .i64 a0_3, .int .i64 a0_4, .int .i64 a0_5]) (t := 55) ?_; intro gb240 hg w0q hbox hb; have BK240 := As_.mk (hbox); have GW240 := As_.mk ((by rw [hg]; exact (below_size sqh) : w.heap.size ≤ gb240)); have GE240 := As_.mk ((by rw [hg]; exact (below_size sqh) : w.heap.size ≤ gb240)); replace HB := As_.mk (below_step sqh hb); clear hb hbox hg; obtain ⟨hcz89_0, hcz89_1, hcz89_2, hcz89_3, hcz89_4, hcz89_5, hfz89_0, hfz89_1, hfz89_2, hfz89_3, hfz89_4, hfz89_5⟩ := sd6 BK240.out) | (go_at_call 72; (with_reducible refine (spec_l1In.calls a0_3 0 9 false _ A76.out).mono ?_); rintro e w' ⟨rfl, ⟨nd, rfl⟩⟩) | ((with_reducible refine gate_dst (N := 1) rfl ?_); refine bx (N := 1) (cs := #[.int .i64 a0_0, .int .i64 a0_1, .int .i64 a0_2, .int .i64 a0_3, .int .i64 a0_4, .int .i64 a0_5]) (t := 55) ?_; intro gb240 hg w0q hbox hb; have BK240 := As_.mk (hbox); have GW240 := As_.mk ((by rw [hg]; exact (below_size sqh) : w.heap.size ≤ gb240)); have GE240 := As_.mk ((by rw [hg]; exact (below_size sqh) : w.heap.size ≤ gb240)); replace HB := As_.mk (below_step sqh hb); clear hb hbox hg; obtain ⟨hcz91_0, hcz91_1, hcz91_2, hcz91_3, hcz91_4, hcz91_5, hfz91_0, hfz91_1, hfz91_2, hfz91_3, hfz91_4, hfz91_5⟩ := sd6 BK240.out) | (go_at_call 72; (with_reducible refine (spec_l1In.calls a0_2 0 3 false _ A74.out).mono ?_); rintro e w' ⟨rfl, ⟨nd, rfl⟩⟩) | ((with_reducible refine gate_dst (N := 1) rfl ?_); refine bx (N := 1) (cs := #[.int .i64 a0_0, .int .i64 a0_1, .int .i64 a0_2, .int .i64 a0_3, .int .i64 a0_4, .int .i64 a0_5]) (t := 55) ?_; intro gb240 hg w0q hbox hb; have BK240 := As_.mk (hbox); have GW240 := As_.mk ((by rw [hg]; exact (below_size sqh) : w.heap.size ≤ gb240)); have GE240 := As_.mk ((by rw [hg]; exact (below_size sqh) : w.heap.size ≤ gb240)); replace HB := As_.mk (below_step sqh hb); clear hb hbox hg; obtain ⟨hcz93_0, hcz93_1, hcz93_2, hcz93_3, hcz93_4, hcz93_5, hfz93_0, hfz93_1, hfz93_2, hfz93_3, hfz93_4, hfz93_5⟩ := sd6 BK240.out) | ((with_reducible refine gate_callee (f := 113) rfl ?_); refine goesL_ (some 40) rfl rfl Try.func113 sqk rfl #[.int .i64 a0_1, .int .i64 3] rfl sqm ?_; (with_reducible refine (spec_HasKind.calls a0_1 3 false _ A72.out).mono ?_); rintro e w' ⟨rfl, ⟨nd, rfl⟩⟩; refine ⟨_, rfl, ?_⟩) | ((with_reducible refine gate_dst (N := 1) rfl ?_); refine bx (N := 1) (cs := #[.int .i64 a0_0, .int .i64 a0_1, .int .i64 a0_2, .int .i64 a0_3, .int .i64 a0_4, .int .i64 a0_5]) (t := 55) ?_; intro gb240 hg w0q hbox hb; have BK240 := As_.mk (hbox); have GW240 := As_.mk ((by rw [hg]; exact (below_size sqh) : w.heap.size ≤ gb240)); have GE240 := As_.mk ((by rw [hg]; exact (below_size sqh) : w.heap.size ≤ gb240)); replace HB := As_.mk (below_step sqh hb); clear hb hbox hg; obtain ⟨hcz95_0, hcz95_1, hcz95_2, hcz95_3, hcz95_4, hcz95_5, hfz95_0, hfz95_1, hfz95_2, hfz95_3, hfz95_4, hfz95_5⟩ := sd6 BK240.out)); go_ret; exact ⟨sqe, sqh⟩) : Q := g
set_option maxHeartbeats 8000000 in
set_option maxRecDepth 100000 in
theorem spec_IsFact.calls (a0_0 : Int) (a0_1 : Int) (a0_2 : Int) (a0_3 : Int) (a0_4 : Int) (a0_5 : Int) (r : Bool) (w : World) (h : spec_IsFact.f a0_0 a0_1 a0_2 a0_3 a0_4 a0_5 = some r) :
  Calls Try.prog 79 #[.agg #[.int .i64 a0_0, .int .i64 a0_1, .int .i64 a0_2, .int .i64 a0_3, .int .i64 a0_4, .int .i64 a0_5]] w fun e w' => e = .returned (.bool r) ∧ Below w.heap.size w w' := by
 have hu55 := Try.underlying55
 have HB := As_.mk (Below.refl w.heap.size w)
 have H : (if a0_0 = 1 then ((spec_HasKind.f a0_1 1).bind fun t241 => (if t241 = true then ((spec_l1In.f a0_2 0 5).bind fun t242 => (if t242 = true then ((spec_l1In.f a0_3 0 9).bind fun t243 => (if t243 = true then ((spec_IsTime.f a0_4).bind fun t244 => (if t244 = true then ((spec_IsTime.f a0_5).bind fun t245 => (if t245 = true then (some (decide (a0_4 ≤ a0_5))) else (some false))) else (some false))) else (some false))) else (some false))) else (some false))) else (if a0_0 = 2 then ((spec_HasKind.f a0_1 1).bind fun t246 => (if t246 = true then ((spec_HasKind.f a0_2 2).bind fun t247 => (if t247 = true then ((spec_l1In.f a0_3 0 9).bind fun t248 => (if t248 = true then ((spec_IsTime.f a0_4).bind fun t249 => (if t249 = true then ((spec_IsTime.f a0_5).bind fun t250 => (if t250 = true then (some (decide (a0_4 ≤ a0_5))) else (some false))) else (some false))) else (some false))) else (some false))) else (some false))) else (if a0_0 = 3 then ((spec_HasKind.f a0_1 2).bind fun t251 => (if t251 = true then ((spec_l1In.f a0_2 0 3).bind fun t252 => (if t252 = true then ((spec_l1In.f a0_3 0 9).bind fun t253 => (if t253 = true then ((spec_IsTime.f a0_4).bind fun t254 => (if t254 = true then ((spec_IsTime.f a0_5).bind fun t255 => (if t255 = true then (some (decide (a0_4 ≤ a0_5))) else (some false))) else (some false))) else (some false))) else (some false))) else (some false))) else (if a0_0 = 4 then ((spec_HasKind.f a0_1 3).bind fun t256 => (if t256 = true then ((spec_l1In.f a0_2 0 3).bind fun t257 => (if t257 = true then ((spec_l1In.f a0_3 0 9).bind fun t258 => (if t258 = true then ((spec_IsTime.f a0_4).bind fun t259 => (if t259 = true then ((spec_IsTime.f a0_5).bind fun t260 => (if t260 = true then (some (decide (a0_4 ≤ a0_5))) else (some false))) else (some false))) else (some false))) else (some false))) else (some false))) else (some false))))) = some r := h
 clear h
 by_cases c2 : a0_0 = 1
 ·rw [if_pos c2] at H
  have c2b0 : (a0_0 == 1) = true := beq_iff_eq.mpr c2
  have c2b1 : (a0_0 != 1) = false := bne_eq_false_iff_eq.mpr c2
  clear c2
  obtain ⟨t241, A3, H⟩ := bA H
  by_cases c4 : t241 = true
  ·subst c4
   replace H := iT H
   obtain ⟨t242, A5, H⟩ := bA H
   by_cases c6 : t242 = true
   ·subst c6
    replace H := iT H
    obtain ⟨t243, A7, H⟩ := bA H
    by_cases c8 : t243 = true
    ·subst c8
     replace H := iT H
     obtain ⟨t244, A9, H⟩ := bA H
     by_cases c10 : t244 = true
     ·subst c10
      replace H := iT H
      obtain ⟨t245, A11, H⟩ := bA H
      by_cases c12 : t245 = true
      ·subst c12
       replace H := iT H
       obtain rfl := Option.some.inj H
       exact zl79
      ·replace c12 := Bool.eq_false_iff.mpr c12
       subst c12
       replace H := iF H
       obtain rfl := Option.some.inj H
       exact zl79
     ·replace c10 := Bool.eq_false_iff.mpr c10
      subst c10
      replace H := iF H
      obtain rfl := Option.some.inj H
      exact zl79
    ·replace c8 := Bool.eq_false_iff.mpr c8
     subst c8
     replace H := iF H
     obtain rfl := Option.some.inj H
     exact zl79
   ·replace c6 := Bool.eq_false_iff.mpr c6
    subst c6
    replace H := iF H
    obtain rfl := Option.some.inj H
    exact zl79
  ·replace c4 := Bool.eq_false_iff.mpr c4
   subst c4
   replace H := iF H
   obtain rfl := Option.some.inj H
   exact zl79
 ·rw [if_neg c2] at H
  have c2b0 : (a0_0 == 1) = false := beq_eq_false_iff_ne.mpr c2
  have c2b1 : (a0_0 != 1) = true := bne_iff_ne.mpr c2
  by_cases c25 : a0_0 = 2
  ·rw [if_pos c25] at H
   have c25b0 : (a0_0 == 2) = true := beq_iff_eq.mpr c25
   have c25b1 : (a0_0 != 2) = false := bne_eq_false_iff_eq.mpr c25
   clear c25
   obtain ⟨t246, A26, H⟩ := bA H
   by_cases c27 : t246 = true
   ·subst c27
    replace H := iT H
    obtain ⟨t247, A28, H⟩ := bA H
    by_cases c29 : t247 = true
    ·subst c29
     replace H := iT H
     obtain ⟨t248, A30, H⟩ := bA H
     by_cases c31 : t248 = true
     ·subst c31
      replace H := iT H
      obtain ⟨t249, A32, H⟩ := bA H
      by_cases c33 : t249 = true
      ·subst c33
       replace H := iT H
       obtain ⟨t250, A34, H⟩ := bA H
       by_cases c35 : t250 = true
       ·subst c35
        replace H := iT H
        obtain rfl := Option.some.inj H
        exact zl79
       ·replace c35 := Bool.eq_false_iff.mpr c35
        subst c35
        replace H := iF H
        obtain rfl := Option.some.inj H
        exact zl79
      ·replace c33 := Bool.eq_false_iff.mpr c33
       subst c33
       replace H := iF H
       obtain rfl := Option.some.inj H
       exact zl79
     ·replace c31 := Bool.eq_false_iff.mpr c31
      subst c31
      replace H := iF H
      obtain rfl := Option.some.inj H
      exact zl79
    ·replace c29 := Bool.eq_false_iff.mpr c29
     subst c29
     replace H := iF H
     obtain rfl := Option.some.inj H
     exact zl79
   ·replace c27 := Bool.eq_false_iff.mpr c27
    subst c27
    replace H := iF H
    obtain rfl := Option.some.inj H
    exact zl79
  ·rw [if_neg c25] at H
   have c25b0 : (a0_0 == 2) = false := beq_eq_false_iff_ne.mpr c25
   have c25b1 : (a0_0 != 2) = true := bne_iff_ne.mpr c25
   by_cases c48 : a0_0 = 3
   ·rw [if_pos c48] at H
    have c48b0 : (a0_0 == 3) = true := beq_iff_eq.mpr c48
    have c48b1 : (a0_0 != 3) = false := bne_eq_false_iff_eq.mpr c48
    clear c48
    obtain ⟨t251, A49, H⟩ := bA H
    by_cases c50 : t251 = true
    ·subst c50
     replace H := iT H
     obtain ⟨t252, A51, H⟩ := bA H
     by_cases c52 : t252 = true
     ·subst c52
      replace H := iT H
      obtain ⟨t253, A53, H⟩ := bA H
      by_cases c54 : t253 = true
      ·subst c54
       replace H := iT H
       obtain ⟨t254, A55, H⟩ := bA H
       by_cases c56 : t254 = true
       ·subst c56
        replace H := iT H
        obtain ⟨t255, A57, H⟩ := bA H
        by_cases c58 : t255 = true
        ·subst c58
         replace H := iT H
         obtain rfl := Option.some.inj H
         exact zl79
        ·replace c58 := Bool.eq_false_iff.mpr c58
         subst c58
         replace H := iF H
         obtain rfl := Option.some.inj H
         exact zl79
       ·replace c56 := Bool.eq_false_iff.mpr c56
        subst c56
        replace H := iF H
        obtain rfl := Option.some.inj H
        exact zl79
      ·replace c54 := Bool.eq_false_iff.mpr c54
       subst c54
       replace H := iF H
       obtain rfl := Option.some.inj H
       exact zl79
     ·replace c52 := Bool.eq_false_iff.mpr c52
      subst c52
      replace H := iF H
      obtain rfl := Option.some.inj H
      exact zl79
    ·replace c50 := Bool.eq_false_iff.mpr c50
     subst c50
     replace H := iF H
     obtain rfl := Option.some.inj H
     exact zl79
   ·rw [if_neg c48] at H
    have c48b0 : (a0_0 == 3) = false := beq_eq_false_iff_ne.mpr c48
    have c48b1 : (a0_0 != 3) = true := bne_iff_ne.mpr c48
    by_cases c71 : a0_0 = 4
    ·rw [if_pos c71] at H
     have c71b0 : (a0_0 == 4) = true := beq_iff_eq.mpr c71
     have c71b1 : (a0_0 != 4) = false := bne_eq_false_iff_eq.mpr c71
     clear c71
     obtain ⟨t256, A72, H⟩ := bA H
     by_cases c73 : t256 = true
     ·subst c73
      replace H := iT H
      obtain ⟨t257, A74, H⟩ := bA H
      by_cases c75 : t257 = true
      ·subst c75
       replace H := iT H
       obtain ⟨t258, A76, H⟩ := bA H
       by_cases c77 : t258 = true
       ·subst c77
        replace H := iT H
        obtain ⟨t259, A78, H⟩ := bA H
        by_cases c79 : t259 = true
        ·subst c79
         replace H := iT H
         obtain ⟨t260, A80, H⟩ := bA H
         by_cases c81 : t260 = true
         ·subst c81
          replace H := iT H
          obtain rfl := Option.some.inj H
          exact zl79
         ·replace c81 := Bool.eq_false_iff.mpr c81
          subst c81
          replace H := iF H
          obtain rfl := Option.some.inj H
          exact zl79
        ·replace c79 := Bool.eq_false_iff.mpr c79
         subst c79
         replace H := iF H
         obtain rfl := Option.some.inj H
         exact zl79
       ·replace c77 := Bool.eq_false_iff.mpr c77
        subst c77
        replace H := iF H
        obtain rfl := Option.some.inj H
        exact zl79
      ·replace c75 := Bool.eq_false_iff.mpr c75
       subst c75
       replace H := iF H
       obtain rfl := Option.some.inj H
       exact zl79
     ·replace c73 := Bool.eq_false_iff.mpr c73
      subst c73
      replace H := iF H
      obtain rfl := Option.some.inj H
      exact zl79
    ·rw [if_neg c71] at H
     have c71b0 : (a0_0 == 4) = false := beq_eq_false_iff_ne.mpr c71
     have c71b1 : (a0_0 != 4) = true := bne_iff_ne.mpr c71
     obtain rfl := Option.some.inj H
     exact zl79

/-! ### spec_Mod: function 129 -/
def spec_Mod.f (a0 : Int) (a1 : Int) : Option (Int) := (spec_l1In.f a1 1 1000000000000).bind fun t261 => (if t261 = true then (if a1 = 0 then (none) else (some (Int.tmod (wrap64 ((Int.tmod a0 a1) + a1)) a1))) else (some 0))
set_option maxHeartbeats 8000000 in
set_option maxRecDepth 100000 in
theorem spec_Mod.calls (a0 : Int) (a1 : Int) (r : Int) (w : World) (h : spec_Mod.f a0 a1 = some r) :
  Calls Try.prog 129 #[.int .i64 a0, .int .i64 a1] w fun e w' => e = .returned (.int .i64 r) ∧ Drawn0 w w' := by
 have H : ((spec_l1In.f a1 1 1000000000000).bind fun t261 => (if t261 = true then (if a1 = 0 then (none) else (some (Int.tmod (wrap64 ((Int.tmod a0 a1) + a1)) a1))) else (some 0))) = some r := h
 clear h
 obtain ⟨t261, A3, H⟩ := bA H
 by_cases c4 : t261 = true
 ·subst c4
  replace H := iT H
  by_cases c5 : a1 = 0
  ·rw [if_pos c5] at H
   exact absurd H (by simp)
  ·rw [if_neg c5] at H
   have c5b0 : (a1 == 0) = false := beq_eq_false_iff_ne.mpr c5
   have c5b1 : (a1 != 0) = true := bne_iff_ne.mpr c5
   obtain rfl := Option.some.inj H
   go_enter Try.func129, Try.ntmps129
   go_wp2_with (first | ((with_reducible refine gate_callee (f := 72) rfl ?_); refine goesL_ (some 6) rfl rfl Try.func72 sqk rfl #[.int .i64 a1, .int .i64 1, .int .i64 1000000000000] rfl sqm ?_; (with_reducible refine (spec_l1In.calls a1 1 1000000000000 true _ A3.out).mono ?_); rintro e w' ⟨rfl, ⟨nd, rfl⟩⟩; refine ⟨_, rfl, ?_⟩))
   go_ret
   exact ⟨sqr, by repeat (first | exact Drawn0.refl _ | apply Drawn0.step)⟩
 ·replace c4 := Bool.eq_false_iff.mpr c4
  subst c4
  replace H := iF H
  obtain rfl := Option.some.inj H
  go_enter Try.func129, Try.ntmps129
  go_wp2_with (first | ((with_reducible refine gate_callee (f := 72) rfl ?_); refine goesL_ (some 6) rfl rfl Try.func72 sqk rfl #[.int .i64 a1, .int .i64 1, .int .i64 1000000000000] rfl sqm ?_; (with_reducible refine (spec_l1In.calls a1 1 1000000000000 false _ A3.out).mono ?_); rintro e w' ⟨rfl, ⟨nd, rfl⟩⟩; refine ⟨_, rfl, ?_⟩))
  go_ret
  exact ⟨sqr, by repeat (first | exact Drawn0.refl _ | apply Drawn0.step)⟩

/-! ### spec_Hash: function 114 -/
def spec_Hash.l0 : Nat → List Int → Int → Int → Option (Int)
 | 0, _, _, _ => none
 | k + 1, x0, x3, x4 => if x4 < (x0.length : Int) then (if 0 ≤ x4 then ((spec_Mod.f (rd x0 x4) 2147483647).bind fun t263 => (spec_Hash.l0 k x0 (Int.tmod (wrap64 ((wrap64 ((wrap64 (x3 * 1000003)) + t263)) + 13)) 2147483647) (wrap64 (x4 + 1)))) else (none)) else (some x3)
def spec_Hash.f (k : Nat) (l0 : List Int) : Option (Int) := spec_Hash.l0 k l0 11 0
set_option maxHeartbeats 8000000 in
set_option maxRecDepth 100000 in
theorem spec_Hash.calls (k : Nat) (A0 : Option Addr) (c0 : Nat) (l0 : List Int) (r : Int) (w : World) (hr0 : Kd.C (Kd.int .i64) w A0 l0.length l0) (hc0 : l0.length ≤ c0) (h : spec_Hash.f k l0 = some r) :
  Calls Try.prog 114 #[.slice A0 l0.length c0] w fun e w' => e = .returned (.int .i64 r) ∧ Drawn0 w w' := by
 have HR0 := As_.mk hr0
 have HC0 := As_.mk hc0
 clear hr0 hc0
 have H : (spec_Hash.l0 k l0 11 0) = some r := h
 clear h
 have H' := As_.mk H
 clear H
 go_enter Try.func114, Try.ntmps114
 go_wp2
 go_loopg [3, 4] k (fun kq v3 v4 w' => ∃ (x3_1 : Int) (x4_1 : Int), v3 = .int .i64 x3_1 ∧ v4 = .int .i64 x4_1 ∧ As_ (spec_Hash.l0 kq l0 x3_1 x4_1 = some r) ∧ As_ (kq ≤ k) ∧ Drawn0 w w')
 case atStart => exact ⟨(11), (0), sqr, sqr, H', ⟨Nat.le_refl _⟩, by repeat (first | exact Drawn0.refl _ | apply Drawn0.step)⟩
 case round =>
  clear H'; try clear c1
  obtain ⟨x3_1, x4_1, rfl, rfl, HA, HK1, ⟨m1, rfl⟩⟩ := hrel
  cases gk with
  | zero => exact absurd HA.out (by simp [spec_Hash.l0])
  | succ k1 =>
   have H := HA.out
   clear HA
   simp only [spec_Hash.l0] at H
   by_cases c2 : x4_1 < (l0.length : Int)
   ·rw [if_pos c2] at H
    have c2b0 : decide (x4_1 < (l0.length : Int)) = true := decide_eq_true c2
    clear c2
    by_cases c3 : 0 ≤ x4_1
    ·rw [if_pos c3] at H
     have c3b0 : decide (0 ≤ x4_1) = true := decide_eq_true c3
     clear c3
     obtain ⟨t263, A4, H⟩ := bA H
     have H' := As_.mk H
     clear H
     have p262 : 0 ≤ (x4_1 : Int) := of_decide_eq_true sqs
     have q262 : x4_1 < (l0.length : Int) := of_decide_eq_true sqs
     obtain ⟨ad262, e262, hx262_0⟩ := Kd.at_int HR0.out x4_1 p262 q262
     cases e262
     replace p262 := eq_true p262
     replace q262 := eq_true q262
     go_wp2_with (first | ((with_reducible refine gate_callee (f := 129) rfl ?_); refine goesL_ (some 17) rfl rfl Try.func129 sqk rfl #[.int .i64 (rd l0 x4_1), .int .i64 2147483647] rfl sqm ?_; (with_reducible refine (spec_Mod.calls (rd l0 x4_1) 2147483647 t263 _ A4.out).mono ?_); rintro e w' ⟨rfl, ⟨nd, rfl⟩⟩; refine ⟨_, rfl, ?_⟩))
     go_roundg k1
     case measure => have := HK1.out; omega
     case rel => exact ⟨(Int.tmod (wrap64 ((wrap64 ((wrap64 (x3_1 * 1000003)) + t263)) + 13)) 2147483647), (wrap64 (x4_1 + 1)), sqr, sqr, H', ⟨by have := HK1.out; omega⟩, by repeat (first | exact Drawn0.refl _ | apply Drawn0.step)⟩
    ·rw [if_neg c3] at H
     exact absurd H (by simp)
   ·rw [if_neg c2] at H
    have c2b0 : decide (x4_1 < (l0.length : Int)) = false := decide_eq_false c2
    clear c2
    obtain rfl := Option.some.inj H
    go_wp2
    go_ret
    exact ⟨sqr, by repeat (first | exact Drawn0.refl _ | apply Drawn0.step)⟩

/-! ### spec_KeyedHash: function 85 -/
def spec_KeyedHash.f (k : Nat) (a0 : Int) (l1 : List Int) : Option (Int) := (some (([a0] : List Int) : List Int)).bind fun y264 => (if y264.length + l1.length < 17592186044416 then ((some (y264 ++ l1 : List Int)).bind fun y267 => (if y267.length < 17592186044416 then ((spec_Hash.f k (y267 ++ [a0])).bind fun t273 => (some t273)) else (none))) else (none))
set_option maxHeartbeats 8000000 in
set_option maxRecDepth 100000 in
theorem spec_KeyedHash.calls (k : Nat) (a0 : Int) (A1 : Option Addr) (c1 : Nat) (l1 : List Int) (r : Int) (w : World) (hr1 : Kd.C (Kd.int .i64) w A1 l1.length l1) (hc1 : l1.length ≤ c1) (h : spec_KeyedHash.f k a0 l1 = some r) :
  Calls Try.prog 85 #[.int .i64 a0, .slice A1 l1.length c1] w fun e w' => e = .returned (.int .i64 r) ∧ Below w.heap.size w w' := by
 have HR1 := As_.mk hr1
 have HC1 := As_.mk hc1
 clear hr1 hc1
 have HB := As_.mk (Below.refl w.heap.size w)
 have H : ((some (([a0] : List Int) : List Int)).bind fun y264 => (if y264.length + l1.length < 17592186044416 then ((some (y264 ++ l1 : List Int)).bind fun y267 => (if y267.length < 17592186044416 then ((spec_Hash.f k (y267 ++ [a0])).bind fun t273 => (some t273)) else (none))) else (none))) = some r := h
 clear h
 obtain ⟨y264, hy264⟩ : ∃ y_ : List Int, y_ = (([a0] : List Int)) := ⟨_, rfl⟩
 replace H : (if y264.length + l1.length < 17592186044416 then ((some (y264 ++ l1 : List Int)).bind fun y267 => (if y267.length < 17592186044416 then ((spec_Hash.f k (y267 ++ [a0])).bind fun t273 => (some t273)) else (none))) else (none)) = some r := by first | (rw [hy264]; with_reducible exact H) | (have H2_ := (Option.bind_some _ _).symm.trans H; rw [hy264]; with_reducible exact H2_) | (have H2_ := (Option.bind_some _ _).symm.trans H; with_reducible exact H2_) | with_reducible exact H | (rw [hy264]; exact H) | exact H
 have Ny264 := As_.mk hy264
 clear hy264
 by_cases c3 : y264.length + l1.length < 17592186044416
 ·rw [if_pos c3] at H
  have LMc3 := As_.mk c3
  clear c3
  obtain ⟨y267, hy267⟩ : ∃ y_ : List Int, y_ = (y264 ++ l1) := ⟨_, rfl⟩
  replace H : (if y267.length < 17592186044416 then ((spec_Hash.f k (y267 ++ [a0])).bind fun t273 => (some t273)) else (none)) = some r := by first | (rw [hy267]; with_reducible exact H) | (have H2_ := (Option.bind_some _ _).symm.trans H; rw [hy267]; with_reducible exact H2_) | (have H2_ := (Option.bind_some _ _).symm.trans H; with_reducible exact H2_) | with_reducible exact H | (rw [hy267]; exact H) | exact H
  have Ny267 := As_.mk hy267
  clear hy267
  by_cases c4 : y267.length < 17592186044416
  ·rw [if_pos c4] at H
   have LMc4 := As_.mk c4
   clear c4
   obtain ⟨y270, hy270⟩ : ∃ y_ : List Int, y_ = (y267 ++ [a0]) := ⟨_, rfl⟩
   replace H : ((spec_Hash.f k y270).bind fun t273 => (some t273)) = some r := by first | (rw [hy270]; with_reducible exact H) | (have H2_ := (Option.bind_some _ _).symm.trans H; rw [hy270]; with_reducible exact H2_) | (have H2_ := (Option.bind_some _ _).symm.trans H; with_reducible exact H2_) | with_reducible exact H | (rw [hy270]; exact H) | exact H
   have Ny270 := As_.mk hy270
   clear hy270
   obtain ⟨t273, A5, H⟩ := bA H
   obtain rfl := Option.some.inj H
   go_enter Try.func85, Try.ntmps85
   go_wp2_with (first | ((with_reducible refine gate_dst (N := 6) rfl ?_); refine Kd.R_lit (Kd.int .i64) _ 3 ?hg (N := 6) ?hd (xs := ([a0] : List Int)) (inner := [.int .i64 a0]) (ok := fun _ => True) (okp := fun _ => True) ?hr ?hp (fun _ hk => hk) trivial (Below.refl _ _) (Nat.le_refl _) (by simp) ?_; (case hd => rfl); (case hg => rfl); (case hr => first | (go_simp; done) | (go_simp; rfl)); (case hp => exact (Reps.one (show Kd.M (Kd.int .i64) _ _ _ a0 [.int .i64 a0] from rfl) (Reps.none _ _))); intro v265 w6 ho7 hb hg_ hnew_; clear hg_ hnew_; (first | rw [← Ny264.out] at ho7 | (simp only [Int.reduceToNat] at ho7; rw [← Ny264.out] at ho7)); have HO266 := As_.mk (Kd.R_lower ho7 (below_size sqh)); replace HB := As_.mk (below_step sqh hb); clear hb ho7) | ((with_reducible refine gate_builtin (b := .append) (xs := #[.tmp 6, .tmp 7]) rfl ?_); at_builtin; refine Kd.R_append_rows (Kd.int .i64) (w0 := w) w.heap.size rfl (.tmp 6) (.tmp 7) 43 3 (.int .i64 0) 8 rfl Try.underlying43 info3 rfl (by decide) (by omega) v265 y264 l1 _ _ _ (fun _ => True) (fun _ => False) rfl rfl ?aO ?aR (fun _ _ h => h) (fun _ h => h.elim) ?aF ?aB ?aS ?aL ?_; (case aR => repeat (first | exact (Kd.C_below HR1.out HB.out) | (with_reducible refine Kd.C_alloc ?_ _) | (with_reducible refine Kd.C_drewN ?_ _) | (with_reducible refine Kd.C_drew ?_))); (case aB => exact sqh); (case aF => exact (fun _ _ => trivial)); (case aO => exact (sqq HO266.out)); (case aS => exact (below_size sqh)); (case aL => have := LMc3.out; omega); intro v268 w8 ho hb hg hat; rw [← Ny267.out] at ho; replace HB := As_.mk (hb); have HO269 := As_.mk (ho); clear HO266; clear ho hb hg hat) | ((with_reducible refine gate_builtin (b := .append) (xs := #[.tmp 8, .tmp 10]) rfl ?_); at_builtin; refine Kd.R_append (Kd.int .i64) (w0 := w) w.heap.size rfl (.tmp 8) (.tmp 10) 43 3 (.int .i64 0) 8 rfl Try.underlying43 info3 rfl (by decide) (by omega) v268 y267 a0 [.int .i64 a0] (fun _ => True) (fun _ => False) rfl rfl ?aP (fun _ hk => hk.elim) ?aF ?aO ?aB ?aS ?aL ?_; (case aP => exact rfl); (case aB => exact sqh); (case aF => exact (fun _ _ => trivial)); (case aO => exact (sqq HO269.out)); (case aS => exact (below_size sqh)); (case aL => have := LMc4.out; omega); intro v271 w9 ho hb hg hat; rw [← Ny270.out] at ho; replace HB := As_.mk (hb); have HO272 := As_.mk (ho); clear HO269; clear ho hb hg hat; obtain ⟨Ao10, co10, eo10⟩ := Kd.R_slice HO272.out; subst eo10) | ((with_reducible refine gate_callee (f := 114) rfl ?_); refine goesL_ (some 12) rfl rfl Try.func114 sqk rfl #[.slice Ao10 y270.length co10] rfl sqm ?_; (with_reducible refine (spec_Hash.calls k _ _ y270 t273 _ ?side1 ?side2 A5.out).mono ?_); (case side1 => repeat (first | exact (Kd.R_reads' HO272.out).2.2 | (with_reducible refine Kd.C_alloc ?_ _) | (with_reducible refine Kd.C_drewN ?_ _) | (with_reducible refine Kd.C_drew ?_))); (case side2 => exact (Kd.R_reads' HO272.out).2.1); rintro e w' ⟨rfl, ⟨nd, rfl⟩⟩; refine ⟨_, rfl, ?_⟩))
   go_ret
   exact ⟨sqe, sqh⟩
  ·rw [if_neg c4] at H
   exact absurd H (by simp)
 ·rw [if_neg c3] at H
  exact absurd H (by simp)

/-! ### spec_FactInts: function 95 -/
def spec_FactInts.f (a0_0 : Int) (a0_1 : Int) (a0_2 : Int) (a0_3 : Int) (a0_4 : Int) (a0_5 : Int) : Option (List Int) := some (([a0_0, a0_1, a0_2, a0_3, a0_4, a0_5] : List Int))
set_option maxHeartbeats 8000000 in
set_option maxRecDepth 100000 in
theorem spec_FactInts.calls (a0_0 : Int) (a0_1 : Int) (a0_2 : Int) (a0_3 : Int) (a0_4 : Int) (a0_5 : Int) (r : List Int) (w : World) (h : spec_FactInts.f a0_0 a0_1 a0_2 a0_3 a0_4 a0_5 = some r) :
  Calls Try.prog 95 #[.agg #[.int .i64 a0_0, .int .i64 a0_1, .int .i64 a0_2, .int .i64 a0_3, .int .i64 a0_4, .int .i64 a0_5]] w fun e w' => ∃ v0_ : Value, e = .returned (v0_) ∧ Kd.R (Kd.int .i64) 3 w' w.heap.size (fun _ => True) v0_ r ∧ Below w.heap.size w w' := by
 have hu55 := Try.underlying55
 have HB := As_.mk (Below.refl w.heap.size w)
 have H : (some (([a0_0, a0_1, a0_2, a0_3, a0_4, a0_5] : List Int))) = some r := h
 clear h
 obtain ⟨y275, hy275⟩ : ∃ y_ : List Int, y_ = (([a0_0, a0_1, a0_2, a0_3, a0_4, a0_5] : List Int)) := ⟨_, rfl⟩
 replace H : (some y275) = some r := by first | (rw [hy275]; with_reducible exact H) | (have H2_ := (Option.bind_some _ _).symm.trans H; rw [hy275]; with_reducible exact H2_) | (have H2_ := (Option.bind_some _ _).symm.trans H; with_reducible exact H2_) | with_reducible exact H | (rw [hy275]; exact H) | exact H
 have Ny275 := As_.mk hy275
 clear hy275
 obtain rfl := Option.some.inj H
 go_enter Try.func95, Try.ntmps95
 go_wp2_with (first | ((with_reducible refine gate_dst (N := 1) rfl ?_); refine bx (N := 1) (cs := #[.int .i64 a0_0, .int .i64 a0_1, .int .i64 a0_2, .int .i64 a0_3, .int .i64 a0_4, .int .i64 a0_5]) (t := 55) ?_; intro gb274 hg w2 hbox hb; have BK274 := As_.mk (hbox); have GW274 := As_.mk ((by rw [hg]; exact (below_size sqh) : w.heap.size ≤ gb274)); have GE274 := As_.mk ((by rw [hg]; exact (below_size sqh) : w.heap.size ≤ gb274)); replace HB := As_.mk (below_step sqh hb); clear hb hbox hg; obtain ⟨hcz3_0, hcz3_1, hcz3_2, hcz3_3, hcz3_4, hcz3_5, hfz3_0, hfz3_1, hfz3_2, hfz3_3, hfz3_4, hfz3_5⟩ := sd6 BK274.out) | ((with_reducible refine gate_dst (N := 15) rfl ?_); refine Kd.R_lit (Kd.int .i64) _ 3 ?hg (N := 15) ?hd (xs := ([a0_0, a0_1, a0_2, a0_3, a0_4, a0_5] : List Int)) (inner := [.int .i64 a0_0, .int .i64 a0_1, .int .i64 a0_2, .int .i64 a0_3, .int .i64 a0_4, .int .i64 a0_5]) (ok := fun _ => True) (okp := fun _ => True) ?hr ?hp (fun _ hk => hk) trivial (Below.refl _ _) (Nat.le_refl _) (by simp) ?_; (case hd => rfl); (case hg => rfl); (case hr => first | (go_simp; done) | (go_simp; rfl)); (case hp => exact (Reps.one (show Kd.M (Kd.int .i64) _ _ _ a0_0 [.int .i64 a0_0] from rfl) (Reps.one (show Kd.M (Kd.int .i64) _ _ _ a0_1 [.int .i64 a0_1] from rfl) (Reps.one (show Kd.M (Kd.int .i64) _ _ _ a0_2 [.int .i64 a0_2] from rfl) (Reps.one (show Kd.M (Kd.int .i64) _ _ _ a0_3 [.int .i64 a0_3] from rfl) (Reps.one (show Kd.M (Kd.int .i64) _ _ _ a0_4 [.int .i64 a0_4] from rfl) (Reps.one (show Kd.M (Kd.int .i64) _ _ _ a0_5 [.int .i64 a0_5] from rfl) (Reps.none _ _)))))))); intro v276 w4 ho5 hb hg_ hnew_; clear hg_ hnew_; (first | rw [← Ny275.out] at ho5 | (simp only [Int.reduceToNat] at ho5; rw [← Ny275.out] at ho5)); have HO277 := As_.mk (Kd.R_lower ho5 (below_size sqh)); replace BK274 := As_.mk (blk_below (bo BK274) hb); replace HB := As_.mk (below_step sqh hb); clear hb ho5))
 go_ret
 exact ⟨_, sqe, by (with_reducible repeat (first | apply Kd.R_alloc | apply Kd.R_drewN | apply Kd.R_drew)); exact HO277.out, sqh⟩

end Go.Proofs.Ytabpgiebhgkfhaa.XFnIssuers
