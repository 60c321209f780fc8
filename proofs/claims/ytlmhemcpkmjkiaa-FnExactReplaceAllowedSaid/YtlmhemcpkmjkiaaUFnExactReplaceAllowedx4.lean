/- Written by this session's own program (wip/xprint, which runs over the kit's print): what the functions that the law reaches come to, each proved; and the law's row. Conditions: none. -/
import Derived.Test.YtlmhemcpkmjkiaaUFnExactReplaceAllowedSq
import Derived.Test.YtlmhemcpkmjkiaaUFnExactReplaceAllowedx0
import Derived.Test.YtlmhemcpkmjkiaaUFnExactReplaceAllowedx2
import Derived.Test.YtlmhemcpkmjkiaaUFnExactReplaceAllowedx3
namespace Go.Proofs.Ytlmhemcpkmjkiaa.XFnExactReplaceAllowed
open Go.RowKit Go.Proofs.YtlmhemcpkmjkiaaW.PrintWords Go.Proofs.YtlmhemcpkmjkiaaW.PrintLast Go.Proofs.YtlmhemcpkmjkiaaW.PrintMore Go.Proofs.YtlmhemcpkmjkiaaSq
attribute [local go_sem] max2_int min2_int max_two min_two max_three min_three max_four min_four   -- for this text's walks alone
set_option linter.unusedVariables false
set_option linter.unusedSimpArgs false

/-! ### spec_ReplaceAllowed: function 39 -/
def spec_ReplaceAllowed.j0 : Nat → Bool → Int → List Int → List Int → List Int → Int → List Int → List Int → List Int → Option (Int × List Int × List Int × List Int × Bool)
 | 0, _, _, _, _, _, _, _, _, _ => none
 | k + 1, x15, x164000, x164001, x164002, x164003, x165000, x165001, x165002, x165003 => if x15 = true then ((spec_l13Copy.f x164000 x164001 x164002 x164003).bind fun bt167 => (some (bt167.1, bt167.2.1, bt167.2.2.1, bt167.2.2.2, false))) else ((spec_l13Copy.f x165000 x165001 x165002 x165003).bind fun bt177 => (some (bt177.1, bt177.2.1, bt177.2.2.1, bt177.2.2.2, true)))
def spec_ReplaceAllowed.f (k : Nat) (a0_0 : Int) (l0_1 : List Int) (l0_2 : List Int) (l0_3 : List Int) (a1_0 : Int) (l1_1 : List Int) (l1_2 : List Int) (l1_3 : List Int) : Option (Int × List Int × List Int × List Int × Bool) := (spec_IsAllowed.f k a1_0 l1_1 l1_2 l1_3).bind fun t166 => (if t166 = true then (spec_ReplaceAllowed.j0 k (decide (a1_0 ≤ a0_0)) a0_0 l0_1 l0_2 l0_3 a1_0 l1_1 l1_2 l1_3) else (spec_ReplaceAllowed.j0 k true a0_0 l0_1 l0_2 l0_3 a1_0 l1_1 l1_2 l1_3))
set_option maxHeartbeats 8000000 in
set_option maxRecDepth 100000 in
theorem spec_ReplaceAllowed.calls (k : Nat) (a0_0 : Int) (A0_1 : Option Addr) (c0_1 : Nat) (l0_1 : List Int) (A0_2 : Option Addr) (c0_2 : Nat) (l0_2 : List Int) (A0_3 : Option Addr) (c0_3 : Nat) (l0_3 : List Int) (a1_0 : Int) (A1_1 : Option Addr) (c1_1 : Nat) (l1_1 : List Int) (A1_2 : Option Addr) (c1_2 : Nat) (l1_2 : List Int) (A1_3 : Option Addr) (c1_3 : Nat) (l1_3 : List Int) (r1 : Int) (r2 : List Int) (r3 : List Int) (r4 : List Int) (r5 : Bool) (w : World) (hr0_1 : Kd.C (Kd.int .i64) w A0_1 l0_1.length l0_1) (hc0_1 : l0_1.length ≤ c0_1) (hr0_2 : Kd.C (Kd.int .i64) w A0_2 l0_2.length l0_2) (hc0_2 : l0_2.length ≤ c0_2) (hr0_3 : Kd.C (Kd.int .i64) w A0_3 l0_3.length l0_3) (hc0_3 : l0_3.length ≤ c0_3) (hr1_1 : Kd.C (Kd.int .i64) w A1_1 l1_1.length l1_1) (hc1_1 : l1_1.length ≤ c1_1) (hr1_2 : Kd.C (Kd.int .i64) w A1_2 l1_2.length l1_2) (hc1_2 : l1_2.length ≤ c1_2) (hr1_3 : Kd.C (Kd.int .i64) w A1_3 l1_3.length l1_3) (hc1_3 : l1_3.length ≤ c1_3) (h : spec_ReplaceAllowed.f k a0_0 l0_1 l0_2 l0_3 a1_0 l1_1 l1_2 l1_3 = some (r1, r2, r3, r4, r5)) :
  Calls Try.prog 39 #[.agg #[.int .i64 a0_0, .slice A0_1 l0_1.length c0_1, .slice A0_2 l0_2.length c0_2, .slice A0_3 l0_3.length c0_3], .agg #[.int .i64 a1_0, .slice A1_1 l1_1.length c1_1, .slice A1_2 l1_2.length c1_2, .slice A1_3 l1_3.length c1_3]] w fun e w' => ∃ v1_ v2_ v3_ : Value, e = .returned (.tuple #[.agg #[.int .i64 r1, v1_, v2_, v3_], .bool r5]) ∧ Kd.R (Kd.int .i64) 3 w' w.heap.size (fun k_ => some k_ ≠ (v2_ : Value).ownBlock ∧ some k_ ≠ (v3_ : Value).ownBlock) v1_ r2 ∧ Kd.R (Kd.int .i64) 3 w' w.heap.size (fun k_ => some k_ ≠ (v1_ : Value).ownBlock ∧ some k_ ≠ (v3_ : Value).ownBlock) v2_ r3 ∧ Kd.R (Kd.int .i64) 3 w' w.heap.size (fun k_ => some k_ ≠ (v1_ : Value).ownBlock ∧ some k_ ≠ (v2_ : Value).ownBlock) v3_ r4 ∧ Below w.heap.size w w' := by
 have hu33 := Try.underlying33
 have HR0_1 := Aside0.mk hr0_1
 have HC0_1 := Aside0.mk hc0_1
 clear hr0_1 hc0_1
 have HR0_2 := Aside0.mk hr0_2
 have HC0_2 := Aside0.mk hc0_2
 clear hr0_2 hc0_2
 have HR0_3 := Aside0.mk hr0_3
 have HC0_3 := Aside0.mk hc0_3
 clear hr0_3 hc0_3
 have HR1_1 := Aside0.mk hr1_1
 have HC1_1 := Aside0.mk hc1_1
 clear hr1_1 hc1_1
 have HR1_2 := Aside0.mk hr1_2
 have HC1_2 := Aside0.mk hc1_2
 clear hr1_2 hc1_2
 have HR1_3 := Aside0.mk hr1_3
 have HC1_3 := Aside0.mk hc1_3
 clear hr1_3 hc1_3
 have HB := Aside0.mk (Below.refl w.heap.size w)
 have H : ((spec_IsAllowed.f k a1_0 l1_1 l1_2 l1_3).bind fun t166 => (if t166 = true then (spec_ReplaceAllowed.j0 k (decide (a1_0 ≤ a0_0)) a0_0 l0_1 l0_2 l0_3 a1_0 l1_1 l1_2 l1_3) else (spec_ReplaceAllowed.j0 k true a0_0 l0_1 l0_2 l0_3 a1_0 l1_1 l1_2 l1_3))) = some (r1, r2, r3, r4, r5) := h
 clear h
 have HC3 := Aside0.mk H
 clear H
 go_enter Try.func39, Try.ntmps39
 go_upto_region 1 with (first | ((with_reducible refine gate_dst (N := 2) rfl ?_); refine bx (N := 2) (cs := #[.int .i64 a0_0, .slice A0_1 l0_1.length c0_1, .slice A0_2 l0_2.length c0_2, .slice A0_3 l0_3.length c0_3]) (t := 33) ?_; intro gb163 hg w4 hbox hb; have BK163 := Aside0.mk (hbox); have GW163 := Aside0.mk ((by rw [hg]; exact (below_size sqh) : w.heap.size ≤ gb163)); have GE163 := Aside0.mk ((by rw [hg]; exact (below_size sqh) : w.heap.size ≤ gb163)); replace HB := Aside0.mk (below_step sqh hb); clear hb hbox hg) | ((with_reducible refine gate_dst (N := 3) rfl ?_); refine bx (N := 3) (cs := #[.int .i64 a1_0, .slice A1_1 l1_1.length c1_1, .slice A1_2 l1_2.length c1_2, .slice A1_3 l1_3.length c1_3]) (t := 33) ?_; intro gb164 hg w5 hbox hb; have BK164 := Aside0.mk (hbox); have GW164 := Aside0.mk ((by rw [hg]; exact (below_size sqh) : w.heap.size ≤ gb164)); have GE164 := Aside0.mk ((by rw [hg]; exact (below_size sqh) : w.heap.size ≤ gb164)); replace HB := Aside0.mk (below_step sqh hb); have NB163_164 := Aside0.mk ((by rw [hg]; exact Nat.ne_of_lt (blk_lt (bo BK163)) : gb163 ≠ gb164)); have NB164_163 := Aside0.mk ((by rw [hg]; exact Nat.ne_of_gt (blk_lt (bo BK163)) : gb164 ≠ gb163)); replace BK163 := Aside0.mk (blk_below (bo BK163) hb); clear hb hbox hg) | ((with_reducible refine gate_dst (N := 4) rfl ?_); refine bx (N := 4) (cs := #[.int .i64 0, .slice none 0 0, .slice none 0 0, .slice none 0 0]) (t := 33) ?_; intro gb165 hg w6 hbox hb; have BK165 := Aside0.mk (hbox); have GW165 := Aside0.mk ((by rw [hg]; exact (below_size sqh) : w.heap.size ≤ gb165)); have GE165 := Aside0.mk ((by rw [hg]; exact (below_size sqh) : w.heap.size ≤ gb165)); replace HB := Aside0.mk (below_step sqh hb); have NB163_165 := Aside0.mk ((by rw [hg]; exact Nat.ne_of_lt (blk_lt (bo BK163)) : gb163 ≠ gb165)); have NB165_163 := Aside0.mk ((by rw [hg]; exact Nat.ne_of_gt (blk_lt (bo BK163)) : gb165 ≠ gb163)); replace BK163 := Aside0.mk (blk_below (bo BK163) hb); have NB164_165 := Aside0.mk ((by rw [hg]; exact Nat.ne_of_lt (blk_lt (bo BK164)) : gb164 ≠ gb165)); have NB165_164 := Aside0.mk ((by rw [hg]; exact Nat.ne_of_gt (blk_lt (bo BK164)) : gb165 ≠ gb164)); replace BK164 := Aside0.mk (blk_below (bo BK164) hb); clear hb hbox hg))
 (try simp only [Act.put, List.setIfInBounds_toArray, List.set_cons_zero, List.set_cons_succ])
 go_cut [15] (fun v15 wc => ∃ (kq : Nat) (x15_2 : Bool), v15 = .bool x15_2 ∧ Aside0 (spec_ReplaceAllowed.j0 kq x15_2 a0_0 l0_1 l0_2 l0_3 a1_0 l1_1 l1_2 l1_3 = some (r1, r2, r3, r4, r5)) ∧ Aside0 (kq ≤ k) ∧ Aside0 (wc.heap[gb163]? = some (.cells #[.int .i64 a0_0, (.slice A0_1 l0_1.length c0_1), (.slice A0_2 l0_2.length c0_2), (.slice A0_3 l0_3.length c0_3)] 33 (0, 0))) ∧ Aside0 (wc.heap[gb164]? = some (.cells #[.int .i64 a1_0, (.slice A1_1 l1_1.length c1_1), (.slice A1_2 l1_2.length c1_2), (.slice A1_3 l1_3.length c1_3)] 33 (0, 0))) ∧ Aside0 (wc.heap[gb165]? = some (.cells #[.int .i64 0, (.slice none 0 0), (.slice none 0 0), (.slice none 0 0)] 33 (0, 0))) ∧ Aside0 (Below w.heap.size w wc))
 case first =>
  have H := HC3.out
  clear HC3
  obtain ⟨t166, A7, H⟩ := bA H
  by_cases c8 : t166 = true
  ·subst c8
   replace H := iT H
   have H' := Aside0.mk H
   clear H
   have hnb9 := NB164_163.out
   have hnc9 := NB163_164.out
   have hnb10 := NB164_165.out
   have hnc10 := NB165_164.out
   obtain ⟨hcz11_0, hcz11_1, hcz11_2, hcz11_3, hfz11_0, hfz11_1, hfz11_2, hfz11_3⟩ := sd4 BK164.out
   go_wp2_with (first | ((with_reducible refine gate_callee (f := 31) rfl ?_); refine goesL_ (some 7) rfl rfl Try.func31 sqk rfl #[.agg #[.int .i64 a1_0, .slice A1_1 l1_1.length c1_1, .slice A1_2 l1_2.length c1_2, .slice A1_3 l1_3.length c1_3]] rfl sqm ?_; (with_reducible refine (spec_IsAllowed.calls k a1_0 _ _ l1_1 _ _ l1_2 _ _ l1_3 true _ ?side1 ?side2 ?side3 ?side4 ?side5 ?side6 A7.out).mono ?_); (case side1 => exact sqn (Kd.C_below HR1_1.out HB.out)); (case side2 => exact HC1_1.out); (case side3 => exact sqn (Kd.C_below HR1_2.out HB.out)); (case side4 => exact HC1_2.out); (case side5 => exact sqn (Kd.C_below HR1_3.out HB.out)); (case side6 => exact HC1_3.out); rintro e w12 ⟨rfl, hb⟩; refine ⟨_, rfl, ?_⟩; replace BK163 := Aside0.mk (blk_below (bo BK163) hb); replace BK164 := Aside0.mk (blk_below (bo BK164) hb); replace BK165 := Aside0.mk (blk_below (bo BK165) hb); replace HB := Aside0.mk (below_step sqh hb); (try clear hb); obtain ⟨hcz13_0, hcz13_1, hcz13_2, hcz13_3, hfz13_0, hfz13_1, hfz13_2, hfz13_3⟩ := sd4 BK164.out; have hnb14 := NB163_165.out; have hnc14 := NB165_163.out; obtain ⟨hcz15_0, hcz15_1, hcz15_2, hcz15_3, hfz15_0, hfz15_1, hfz15_2, hfz15_3⟩ := sd4 BK163.out))
   go_meet
   case rel => exact ⟨_, (decide (a1_0 ≤ a0_0)), sqr, H', ⟨sqo⟩, ⟨sqb BK163.out⟩, ⟨sqb BK164.out⟩, ⟨sqb BK165.out⟩, ⟨sqh⟩⟩
  ·replace c8 := Bool.eq_false_iff.mpr c8
   subst c8
   replace H := iF H
   have H' := Aside0.mk H
   clear H
   have hnb16 := NB164_163.out
   have hnc16 := NB163_164.out
   have hnb17 := NB164_165.out
   have hnc17 := NB165_164.out
   obtain ⟨hcz18_0, hcz18_1, hcz18_2, hcz18_3, hfz18_0, hfz18_1, hfz18_2, hfz18_3⟩ := sd4 BK164.out
   go_wp2_with (first | ((with_reducible refine gate_callee (f := 31) rfl ?_); refine goesL_ (some 7) rfl rfl Try.func31 sqk rfl #[.agg #[.int .i64 a1_0, .slice A1_1 l1_1.length c1_1, .slice A1_2 l1_2.length c1_2, .slice A1_3 l1_3.length c1_3]] rfl sqm ?_; (with_reducible refine (spec_IsAllowed.calls k a1_0 _ _ l1_1 _ _ l1_2 _ _ l1_3 false _ ?side1 ?side2 ?side3 ?side4 ?side5 ?side6 A7.out).mono ?_); (case side1 => exact sqn (Kd.C_below HR1_1.out HB.out)); (case side2 => exact HC1_1.out); (case side3 => exact sqn (Kd.C_below HR1_2.out HB.out)); (case side4 => exact HC1_2.out); (case side5 => exact sqn (Kd.C_below HR1_3.out HB.out)); (case side6 => exact HC1_3.out); rintro e w19 ⟨rfl, hb⟩; refine ⟨_, rfl, ?_⟩; replace BK163 := Aside0.mk (blk_below (bo BK163) hb); replace BK164 := Aside0.mk (blk_below (bo BK164) hb); replace BK165 := Aside0.mk (blk_below (bo BK165) hb); replace HB := Aside0.mk (below_step sqh hb); (try clear hb)))
   go_meet
   case rel => exact ⟨_, (true), sqr, H', ⟨sqo⟩, ⟨sqb BK163.out⟩, ⟨sqb BK164.out⟩, ⟨sqb BK165.out⟩, ⟨sqh⟩⟩
 case rest =>
  clear HC3; try clear c1; try clear p2; try clear c3; try clear c8; try clear c9; try clear c10; try clear c14; try clear c16; try clear c17; try clear hcz11_0; try clear hcz11_1; try clear hcz11_2; try clear hcz11_3; try clear hcz13_0; try clear hcz13_1; try clear hcz13_2; try clear hcz13_3; try clear hcz15_0; try clear hcz15_1; try clear hcz15_2; try clear hcz15_3; try clear hcz18_0; try clear hcz18_1; try clear hcz18_2; try clear hcz18_3; try clear hfz11_0; try clear hfz11_1; try clear hfz11_2; try clear hfz11_3; try clear hfz13_0; try clear hfz13_1; try clear hfz13_2; try clear hfz13_3; try clear hfz15_0; try clear hfz15_1; try clear hfz15_2; try clear hfz15_3; try clear hfz18_0; try clear hfz18_1; try clear hfz18_2; try clear hfz18_3
  obtain ⟨kq, x15_2, rfl, HA, HJ2, BK163, BK164, BK165, HB⟩ := hcut
  cases kq with
  | zero => exact absurd HA.out (by simp [spec_ReplaceAllowed.j0])
  | succ kj2 =>
   have H := HA.out
   clear HA
   simp only [spec_ReplaceAllowed.j0] at H
   by_cases c20 : x15_2 = true
   ·subst c20
    replace H := iT H
    obtain ⟨⟨t167, t168, t171, t174⟩, A21, H⟩ := bA H
    dsimp only at H
    simp only [Option.some.injEq, Prod.mk.injEq] at H
    obtain ⟨rfl, rfl, rfl, rfl, rfl⟩ := H
    have hnb22 := NB163_164.out
    have hnc22 := NB164_163.out
    have hnb23 := NB163_165.out
    have hnc23 := NB165_163.out
    obtain ⟨hcz24_0, hcz24_1, hcz24_2, hcz24_3, hfz24_0, hfz24_1, hfz24_2, hfz24_3⟩ := sd4 BK163.out
    go_wp2_with (first | ((with_reducible refine gate_callee (f := 93) rfl ?_); refine goesL_ (some 17) rfl rfl Try.func93 sqk rfl #[.agg #[.int .i64 a0_0, .slice A0_1 l0_1.length c0_1, .slice A0_2 l0_2.length c0_2, .slice A0_3 l0_3.length c0_3]] rfl sqm ?_; (with_reducible refine (spec_l13Copy.calls a0_0 _ _ l0_1 _ _ l0_2 _ _ l0_3 t167 t168 t171 t174 _ ?side1 ?side2 ?side3 ?side4 ?side5 ?side6 A21.out).mono ?_); (case side1 => exact sqn (Kd.C_below HR0_1.out HB.out)); (case side2 => exact HC0_1.out); (case side3 => exact sqn (Kd.C_below HR0_2.out HB.out)); (case side4 => exact HC0_2.out); (case side5 => exact sqn (Kd.C_below HR0_3.out HB.out)); (case side6 => exact HC0_3.out); rintro e w25 ⟨v169, v172, v175, rfl, ho0, ho1, ho2, hb⟩; refine ⟨_, rfl, ?_⟩; have HO170 := Aside0.mk (Kd.R_lower ho0 (below_size sqh)); have HO173 := Aside0.mk (Kd.R_lower ho1 (below_size sqh)); have HO176 := Aside0.mk (Kd.R_lower ho2 (below_size sqh)); replace BK163 := Aside0.mk (blk_below (bo BK163) hb); replace BK164 := Aside0.mk (blk_below (bo BK164) hb); replace BK165 := Aside0.mk (blk_below (bo BK165) hb); replace HB := Aside0.mk (below_step sqh hb); (try clear hb); (try clear ho0); (try clear ho1); (try clear ho2); have hnb26 := NB165_164.out; have hnc26 := NB164_165.out; obtain ⟨hcz27_0, hcz27_1, hcz27_2, hcz27_3, hfz27_0, hfz27_1, hfz27_2, hfz27_3⟩ := sd4 BK165.out; obtain ⟨Ao28, co28, eo28⟩ := Kd.R_slice HO170.out; subst eo28; obtain ⟨Ao29, co29, eo29⟩ := Kd.R_slice HO173.out; subst eo29; obtain ⟨Ao30, co30, eo30⟩ := Kd.R_slice HO176.out; subst eo30))
    refine bodyPost_ret (results_ct rfl _ _ gb165 33 #[.int .i64 t167, .slice Ao28 t168.length co28, .slice Ao29 t171.length co29, .slice Ao30 t174.length co30] (0, 0) _ rfl ?_ Try.underlying33 rfl sqk) rfl ?_; exact bp BK165
    exact ⟨_, _, _, sqe, by (with_reducible repeat (first | apply Kd.R_alloc | apply Kd.R_drewN | apply Kd.R_drew)); exact Kd.R_mono (Kd.R_far (p := ⟨gb165, 3, none⟩) (Kd.R_far (p := ⟨gb165, 2, none⟩) (Kd.R_far (p := ⟨gb165, 1, none⟩) (Kd.R_far (p := ⟨gb165, 0, none⟩) (Kd.R_types HO170.out BK165.out (by decide)) (fun _ hk => hk.2) (.int .i64 t167)) (fun _ hk => hk.2) (.slice Ao28 t168.length co28)) (fun _ hk => hk.2) (.slice Ao29 t171.length co29)) (fun _ hk => hk.2) (.slice Ao30 t174.length co30)) (fun _ hk => ⟨hk.1.1, hk.1.2⟩), by (with_reducible repeat (first | apply Kd.R_alloc | apply Kd.R_drewN | apply Kd.R_drew)); exact Kd.R_mono (Kd.R_far (p := ⟨gb165, 3, none⟩) (Kd.R_far (p := ⟨gb165, 2, none⟩) (Kd.R_far (p := ⟨gb165, 1, none⟩) (Kd.R_far (p := ⟨gb165, 0, none⟩) (Kd.R_types HO173.out BK165.out (by decide)) (fun _ hk => hk.2) (.int .i64 t167)) (fun _ hk => hk.2) (.slice Ao28 t168.length co28)) (fun _ hk => hk.2) (.slice Ao29 t171.length co29)) (fun _ hk => hk.2) (.slice Ao30 t174.length co30)) (fun _ hk => ⟨hk.1.1, hk.1.2⟩), by (with_reducible repeat (first | apply Kd.R_alloc | apply Kd.R_drewN | apply Kd.R_drew)); exact Kd.R_mono (Kd.R_far (p := ⟨gb165, 3, none⟩) (Kd.R_far (p := ⟨gb165, 2, none⟩) (Kd.R_far (p := ⟨gb165, 1, none⟩) (Kd.R_far (p := ⟨gb165, 0, none⟩) (Kd.R_types HO176.out BK165.out (by decide)) (fun _ hk => hk.2) (.int .i64 t167)) (fun _ hk => hk.2) (.slice Ao28 t168.length co28)) (fun _ hk => hk.2) (.slice Ao29 t171.length co29)) (fun _ hk => hk.2) (.slice Ao30 t174.length co30)) (fun _ hk => ⟨hk.1.1, hk.1.2⟩), sqh⟩
   ·replace c20 := Bool.eq_false_iff.mpr c20
    subst c20
    replace H := iF H
    obtain ⟨⟨t177, t178, t181, t184⟩, A31, H⟩ := bA H
    dsimp only at H
    simp only [Option.some.injEq, Prod.mk.injEq] at H
    obtain ⟨rfl, rfl, rfl, rfl, rfl⟩ := H
    have hnb32 := NB164_163.out
    have hnc32 := NB163_164.out
    have hnb33 := NB164_165.out
    have hnc33 := NB165_164.out
    obtain ⟨hcz34_0, hcz34_1, hcz34_2, hcz34_3, hfz34_0, hfz34_1, hfz34_2, hfz34_3⟩ := sd4 BK164.out
    go_wp2_with (first | ((with_reducible refine gate_callee (f := 93) rfl ?_); refine goesL_ (some 19) rfl rfl Try.func93 sqk rfl #[.agg #[.int .i64 a1_0, .slice A1_1 l1_1.length c1_1, .slice A1_2 l1_2.length c1_2, .slice A1_3 l1_3.length c1_3]] rfl sqm ?_; (with_reducible refine (spec_l13Copy.calls a1_0 _ _ l1_1 _ _ l1_2 _ _ l1_3 t177 t178 t181 t184 _ ?side1 ?side2 ?side3 ?side4 ?side5 ?side6 A31.out).mono ?_); (case side1 => exact sqn (Kd.C_below HR1_1.out HB.out)); (case side2 => exact HC1_1.out); (case side3 => exact sqn (Kd.C_below HR1_2.out HB.out)); (case side4 => exact HC1_2.out); (case side5 => exact sqn (Kd.C_below HR1_3.out HB.out)); (case side6 => exact HC1_3.out); rintro e w35 ⟨v179, v182, v185, rfl, ho0, ho1, ho2, hb⟩; refine ⟨_, rfl, ?_⟩; have HO180 := Aside0.mk (Kd.R_lower ho0 (below_size sqh)); have HO183 := Aside0.mk (Kd.R_lower ho1 (below_size sqh)); have HO186 := Aside0.mk (Kd.R_lower ho2 (below_size sqh)); replace BK163 := Aside0.mk (blk_below (bo BK163) hb); replace BK164 := Aside0.mk (blk_below (bo BK164) hb); replace BK165 := Aside0.mk (blk_below (bo BK165) hb); replace HB := Aside0.mk (below_step sqh hb); (try clear hb); (try clear ho0); (try clear ho1); (try clear ho2); have hnb36 := NB165_163.out; have hnc36 := NB163_165.out; obtain ⟨hcz37_0, hcz37_1, hcz37_2, hcz37_3, hfz37_0, hfz37_1, hfz37_2, hfz37_3⟩ := sd4 BK165.out; obtain ⟨Ao38, co38, eo38⟩ := Kd.R_slice HO180.out; subst eo38; obtain ⟨Ao39, co39, eo39⟩ := Kd.R_slice HO183.out; subst eo39; obtain ⟨Ao40, co40, eo40⟩ := Kd.R_slice HO186.out; subst eo40))
    refine bodyPost_ret (results_ct rfl _ _ gb165 33 #[.int .i64 t177, .slice Ao38 t178.length co38, .slice Ao39 t181.length co39, .slice Ao40 t184.length co40] (0, 0) _ rfl ?_ Try.underlying33 rfl sqk) rfl ?_; exact bp BK165
    exact ⟨_, _, _, sqe, by (with_reducible repeat (first | apply Kd.R_alloc | apply Kd.R_drewN | apply Kd.R_drew)); exact Kd.R_mono (Kd.R_far (p := ⟨gb165, 3, none⟩) (Kd.R_far (p := ⟨gb165, 2, none⟩) (Kd.R_far (p := ⟨gb165, 1, none⟩) (Kd.R_far (p := ⟨gb165, 0, none⟩) (Kd.R_types HO180.out BK165.out (by decide)) (fun _ hk => hk.2) (.int .i64 t177)) (fun _ hk => hk.2) (.slice Ao38 t178.length co38)) (fun _ hk => hk.2) (.slice Ao39 t181.length co39)) (fun _ hk => hk.2) (.slice Ao40 t184.length co40)) (fun _ hk => ⟨hk.1.1, hk.1.2⟩), by (with_reducible repeat (first | apply Kd.R_alloc | apply Kd.R_drewN | apply Kd.R_drew)); exact Kd.R_mono (Kd.R_far (p := ⟨gb165, 3, none⟩) (Kd.R_far (p := ⟨gb165, 2, none⟩) (Kd.R_far (p := ⟨gb165, 1, none⟩) (Kd.R_far (p := ⟨gb165, 0, none⟩) (Kd.R_types HO183.out BK165.out (by decide)) (fun _ hk => hk.2) (.int .i64 t177)) (fun _ hk => hk.2) (.slice Ao38 t178.length co38)) (fun _ hk => hk.2) (.slice Ao39 t181.length co39)) (fun _ hk => hk.2) (.slice Ao40 t184.length co40)) (fun _ hk => ⟨hk.1.1, hk.1.2⟩), by (with_reducible repeat (first | apply Kd.R_alloc | apply Kd.R_drewN | apply Kd.R_drew)); exact Kd.R_mono (Kd.R_far (p := ⟨gb165, 3, none⟩) (Kd.R_far (p := ⟨gb165, 2, none⟩) (Kd.R_far (p := ⟨gb165, 1, none⟩) (Kd.R_far (p := ⟨gb165, 0, none⟩) (Kd.R_types HO186.out BK165.out (by decide)) (fun _ hk => hk.2) (.int .i64 t177)) (fun _ hk => hk.2) (.slice Ao38 t178.length co38)) (fun _ hk => hk.2) (.slice Ao39 t181.length co39)) (fun _ hk => hk.2) (.slice Ao40 t184.length co40)) (fun _ hk => ⟨hk.1.1, hk.1.2⟩), sqh⟩

/-! ### impl_InRange: function 70 -/
def impl_InRange.f (a0 : Int) (a1 : Int) (a2 : Int) : Option (Bool) := if a1 ≤ a0 then (some (decide (a0 ≤ a2))) else (some false)
set_option maxHeartbeats 8000000 in
set_option maxRecDepth 100000 in
theorem impl_InRange.calls (a0 : Int) (a1 : Int) (a2 : Int) (r : Bool) (w : World) (h : impl_InRange.f a0 a1 a2 = some r) :
  Calls Try.prog 70 #[.int .i64 a0, .int .i64 a1, .int .i64 a2] w fun e w' => e = .returned (.bool r) ∧ Drawn0 w w' := by
 have H : (if a1 ≤ a0 then (some (decide (a0 ≤ a2))) else (some false)) = some r := h
 clear h
 by_cases c4 : a1 ≤ a0
 ·rw [if_pos c4] at H
  have c4b0 : decide (a1 ≤ a0) = true := decide_eq_true c4
  clear c4
  obtain rfl := Option.some.inj H
  go_enter Try.func70, Try.ntmps70
  go_wp2
  go_ret
  exact ⟨sqr, by repeat (first | exact Drawn0.refl _ | apply Drawn0.step)⟩
 ·rw [if_neg c4] at H
  have c4b0 : decide (a1 ≤ a0) = false := decide_eq_false c4
  clear c4
  obtain rfl := Option.some.inj H
  go_enter Try.func70, Try.ntmps70
  go_wp2
  go_ret
  exact ⟨sqr, by repeat (first | exact Drawn0.refl _ | apply Drawn0.step)⟩

/-! ### impl_isAscending: function 79 -/
def impl_isAscending.l0 : Nat → List Int → Int → Int → List Int → Int → Int → Option (Bool)
 | 0, _, _, _, _, _, _ => none
 | k + 1, x0, x1, x2, x9, x10, x11 => if x11 < x10 then (if 0 ≤ x11 then (if x11 < (x9.length : Int) then ((impl_InRange.f (rd x9 x11) x1 x2).bind fun t188 => (if t188 = true then (if x11 > 0 then (if 0 ≤ (wrap64 (x11 - 1)) then (if (wrap64 (x11 - 1)) < (x0.length : Int) then (if (rd x0 (wrap64 (x11 - 1))) ≥ (rd x9 x11) then (some false) else (impl_isAscending.l0 k x0 x1 x2 x9 x10 (wrap64 (x11 + 1)))) else (none)) else (none)) else (impl_isAscending.l0 k x0 x1 x2 x9 x10 (wrap64 (x11 + 1)))) else (some false))) else (none)) else (none)) else (some true)
def impl_isAscending.f (k : Nat) (l0 : List Int) (a1 : Int) (a2 : Int) : Option (Bool) := impl_isAscending.l0 k l0 a1 a2 l0 (l0.length : Int) 0
set_option maxHeartbeats 8000000 in
set_option maxRecDepth 100000 in
theorem impl_isAscending.calls (k : Nat) (A0 : Option Addr) (c0 : Nat) (l0 : List Int) (a1 : Int) (a2 : Int) (r : Bool) (w : World) (hr0 : Kd.C (Kd.int .i64) w A0 l0.length l0) (hc0 : l0.length ≤ c0) (h : impl_isAscending.f k l0 a1 a2 = some r) :
  Calls Try.prog 79 #[.slice A0 l0.length c0, .int .i64 a1, .int .i64 a2] w fun e w' => e = .returned (.bool r) ∧ Drawn0 w w' := by
 have HR0 := Aside0.mk hr0
 have HC0 := Aside0.mk hc0
 clear hr0 hc0
 have H : (impl_isAscending.l0 k l0 a1 a2 l0 (l0.length : Int) 0) = some r := h
 clear h
 have H' := Aside0.mk H
 clear H
 go_enter Try.func79, Try.ntmps79
 go_wp2
 go_loopg [11] k (fun kq v11 w' => ∃ (x11_1 : Int), v11 = .int .i64 x11_1 ∧ Aside0 (impl_isAscending.l0 kq l0 a1 a2 l0 (l0.length : Int) x11_1 = some r) ∧ Aside0 (kq ≤ k) ∧ Drawn0 w w')
 case atStart => exact ⟨(0), sqr, H', ⟨Nat.le_refl _⟩, by repeat (first | exact Drawn0.refl _ | apply Drawn0.step)⟩
 case round =>
  clear H'; try clear p2
  obtain ⟨x11_1, rfl, HA, HK1, ⟨m1, rfl⟩⟩ := hrel
  cases gk with
  | zero => exact absurd HA.out (by simp [impl_isAscending.l0])
  | succ k1 =>
   have H := HA.out
   clear HA
   simp only [impl_isAscending.l0] at H
   by_cases c4 : x11_1 < (l0.length : Int)
   ·rw [if_pos c4] at H
    have c4b0 : decide (x11_1 < (l0.length : Int)) = true := decide_eq_true c4
    clear c4
    by_cases c5 : 0 ≤ x11_1
    ·rw [if_pos c5] at H
     have c5b0 : decide (0 ≤ x11_1) = true := decide_eq_true c5
     clear c5
     by_cases c6 : x11_1 < (l0.length : Int)
     ·rw [if_pos c6] at H
      have c6b0 : decide (x11_1 < (l0.length : Int)) = true := decide_eq_true c6
      clear c6
      obtain ⟨t188, A7, H⟩ := bA H
      by_cases c8 : t188 = true
      ·subst c8
       replace H := iT H
       by_cases c9 : x11_1 > 0
       ·rw [if_pos c9] at H
        have c9b0 : decide (0 < x11_1) = true := decide_eq_true c9
        clear c9
        obtain ⟨ji10, hji10⟩ : ∃ j_ : Int, (wrap64 (x11_1 - 1)) = j_ := ⟨_, rfl⟩
        replace H : (if 0 ≤ (ji10) then (if (ji10) < (l0.length : Int) then (if (rd l0 (ji10)) ≥ (rd l0 x11_1) then (some false) else (impl_isAscending.l0 k1 l0 a1 a2 l0 (l0.length : Int) (wrap64 (x11_1 + 1)))) else (none)) else (none)) = some r := by first | (rw [hji10] at H; exact H) | (simp only [hji10] at H ⊢; exact H)
        (try rw [hji10] at A7)
        have hji10w : (IntKind.i64.wrap (x11_1 - 1)) = ji10 := (i64_w _).trans hji10
        by_cases c11 : 0 ≤ (ji10)
        ·rw [if_pos c11] at H
         have c11b0 : decide (0 ≤ (ji10)) = true := decide_eq_true c11
         clear c11
         by_cases c12 : (ji10) < (l0.length : Int)
         ·rw [if_pos c12] at H
          have c12b0 : decide ((ji10) < (l0.length : Int)) = true := decide_eq_true c12
          clear c12
          by_cases c13 : (rd l0 (ji10)) ≥ (rd l0 x11_1)
          ·rw [if_pos c13] at H
           have c13b0 : decide ((rd l0 x11_1) ≤ (rd l0 (ji10))) = true := decide_eq_true c13
           clear c13
           obtain rfl := Option.some.inj H
           have p187 : 0 ≤ (x11_1 : Int) := of_decide_eq_true sqs
           have q187 : x11_1 < (l0.length : Int) := of_decide_eq_true sqs
           obtain ⟨ad187, e187, hx187_0⟩ := Kd.at_int HR0.out x11_1 p187 q187
           cases e187
           replace p187 := eq_true p187
           replace q187 := eq_true q187
           go_wp2_with (first | ((with_reducible refine gate_callee (f := 70) rfl ?_); refine goesL_ (some 19) rfl rfl Try.func70 sqk rfl #[.int .i64 (rd l0 x11_1), .int .i64 a1, .int .i64 a2] rfl sqm ?_; (with_reducible refine (impl_InRange.calls (rd l0 x11_1) a1 a2 true _ A7.out).mono ?_); rintro e w' ⟨rfl, ⟨nd, rfl⟩⟩; refine ⟨_, rfl, ?_⟩; have p189 : 0 ≤ ((ji10) : Int) := of_decide_eq_true sqs; have q189 : (ji10) < (l0.length : Int) := of_decide_eq_true sqs; obtain ⟨ad189, e189, hx189_0⟩ := Kd.at_int HR0.out (ji10) p189 q189; obtain rfl : ad187 = ad189 := (by injection e189); replace p189 := eq_true p189; replace q189 := eq_true q189))
           go_ret
           exact ⟨by first | rfl | (simp; done) | (simp only [← hji10] <;> (first | rfl | simp)) | (simp [*]; done), by repeat (first | exact Drawn0.refl _ | apply Drawn0.step)⟩
          ·rw [if_neg c13] at H
           have c13b0 : decide ((rd l0 x11_1) ≤ (rd l0 (ji10))) = false := decide_eq_false c13
           clear c13
           have H' := Aside0.mk H
           clear H
           have p187 : 0 ≤ (x11_1 : Int) := of_decide_eq_true sqs
           have q187 : x11_1 < (l0.length : Int) := of_decide_eq_true sqs
           obtain ⟨ad187, e187, hx187_0⟩ := Kd.at_int HR0.out x11_1 p187 q187
           cases e187
           replace p187 := eq_true p187
           replace q187 := eq_true q187
           go_wp2_with (first | ((with_reducible refine gate_callee (f := 70) rfl ?_); refine goesL_ (some 19) rfl rfl Try.func70 sqk rfl #[.int .i64 (rd l0 x11_1), .int .i64 a1, .int .i64 a2] rfl sqm ?_; (with_reducible refine (impl_InRange.calls (rd l0 x11_1) a1 a2 true _ A7.out).mono ?_); rintro e w' ⟨rfl, ⟨nd, rfl⟩⟩; refine ⟨_, rfl, ?_⟩; have p189 : 0 ≤ ((ji10) : Int) := of_decide_eq_true sqs; have q189 : (ji10) < (l0.length : Int) := of_decide_eq_true sqs; obtain ⟨ad189, e189, hx189_0⟩ := Kd.at_int HR0.out (ji10) p189 q189; obtain rfl : ad187 = ad189 := (by injection e189); replace p189 := eq_true p189; replace q189 := eq_true q189))
           go_roundg k1
           case measure => have := HK1.out; omega
           case rel => exact ⟨(wrap64 (x11_1 + 1)), sqr, H', ⟨by have := HK1.out; omega⟩, by repeat (first | exact Drawn0.refl _ | apply Drawn0.step)⟩
         ·rw [if_neg c12] at H
          exact absurd H (by simp)
        ·rw [if_neg c11] at H
         exact absurd H (by simp)
       ·rw [if_neg c9] at H
        have c9b0 : decide (0 < x11_1) = false := decide_eq_false c9
        clear c9
        have H' := Aside0.mk H
        clear H
        have p187 : 0 ≤ (x11_1 : Int) := of_decide_eq_true sqs
        have q187 : x11_1 < (l0.length : Int) := of_decide_eq_true sqs
        obtain ⟨ad187, e187, hx187_0⟩ := Kd.at_int HR0.out x11_1 p187 q187
        cases e187
        replace p187 := eq_true p187
        replace q187 := eq_true q187
        go_wp2_with (first | ((with_reducible refine gate_callee (f := 70) rfl ?_); refine goesL_ (some 19) rfl rfl Try.func70 sqk rfl #[.int .i64 (rd l0 x11_1), .int .i64 a1, .int .i64 a2] rfl sqm ?_; (with_reducible refine (impl_InRange.calls (rd l0 x11_1) a1 a2 true _ A7.out).mono ?_); rintro e w' ⟨rfl, ⟨nd, rfl⟩⟩; refine ⟨_, rfl, ?_⟩))
        go_roundg k1
        case measure => have := HK1.out; omega
        case rel => exact ⟨(wrap64 (x11_1 + 1)), sqr, H', ⟨by have := HK1.out; omega⟩, by repeat (first | exact Drawn0.refl _ | apply Drawn0.step)⟩
      ·replace c8 := Bool.eq_false_iff.mpr c8
       subst c8
       replace H := iF H
       obtain rfl := Option.some.inj H
       have p187 : 0 ≤ (x11_1 : Int) := of_decide_eq_true sqs
       have q187 : x11_1 < (l0.length : Int) := of_decide_eq_true sqs
       obtain ⟨ad187, e187, hx187_0⟩ := Kd.at_int HR0.out x11_1 p187 q187
       cases e187
       replace p187 := eq_true p187
       replace q187 := eq_true q187
       go_wp2_with (first | ((with_reducible refine gate_callee (f := 70) rfl ?_); refine goesL_ (some 19) rfl rfl Try.func70 sqk rfl #[.int .i64 (rd l0 x11_1), .int .i64 a1, .int .i64 a2] rfl sqm ?_; (with_reducible refine (impl_InRange.calls (rd l0 x11_1) a1 a2 false _ A7.out).mono ?_); rintro e w' ⟨rfl, ⟨nd, rfl⟩⟩; refine ⟨_, rfl, ?_⟩))
       go_ret
       exact ⟨sqr, by repeat (first | exact Drawn0.refl _ | apply Drawn0.step)⟩
     ·rw [if_neg c6] at H
      exact absurd H (by simp)
    ·rw [if_neg c5] at H
     exact absurd H (by simp)
   ·rw [if_neg c4] at H
    have c4b0 : decide (x11_1 < (l0.length : Int)) = false := decide_eq_false c4
    clear c4
    obtain rfl := Option.some.inj H
    go_wp2
    go_ret
    exact ⟨sqr, by repeat (first | exact Drawn0.refl _ | apply Drawn0.step)⟩

/-! ### slices_Index_int_int: function 125 -/
def slices_Index_int_int.l0 : Nat → List Int → Int → Int → Int → Option (Int)
 | 0, _, _, _, _ => none
 | k + 1, x0, x1, x7, x8 => if x8 < x7 then (if 0 ≤ x8 then (if x8 < (x0.length : Int) then (if x1 = (rd x0 x8) then (some x8) else (slices_Index_int_int.l0 k x0 x1 x7 (wrap64 (x8 + 1)))) else (none)) else (none)) else (some (-1))
def slices_Index_int_int.f (k : Nat) (l0 : List Int) (a1 : Int) : Option (Int) := slices_Index_int_int.l0 k l0 a1 (l0.length : Int) 0
set_option maxHeartbeats 8000000 in
set_option maxRecDepth 100000 in
theorem slices_Index_int_int.calls (k : Nat) (A0 : Option Addr) (c0 : Nat) (l0 : List Int) (a1 : Int) (r : Int) (w : World) (hr0 : Kd.C (Kd.int .i64) w A0 l0.length l0) (hc0 : l0.length ≤ c0) (h : slices_Index_int_int.f k l0 a1 = some r) :
  Calls Try.prog 125 #[.slice A0 l0.length c0, .int .i64 a1] w fun e w' => e = .returned (.int .i64 r) ∧ Drawn0 w w' := by
 have HR0 := Aside0.mk hr0
 have HC0 := Aside0.mk hc0
 clear hr0 hc0
 have H : (slices_Index_int_int.l0 k l0 a1 (l0.length : Int) 0) = some r := h
 clear h
 have H' := Aside0.mk H
 clear H
 go_enter Try.func125, Try.ntmps125
 go_wp2
 go_loopg [8] k (fun kq v8 w' => ∃ (x8_1 : Int), v8 = .int .i64 x8_1 ∧ Aside0 (slices_Index_int_int.l0 kq l0 a1 (l0.length : Int) x8_1 = some r) ∧ Aside0 (kq ≤ k) ∧ Drawn0 w w')
 case atStart => exact ⟨(0), sqr, H', ⟨Nat.le_refl _⟩, by repeat (first | exact Drawn0.refl _ | apply Drawn0.step)⟩
 case round =>
  clear H'; try clear c1; try clear p2
  obtain ⟨x8_1, rfl, HA, HK1, ⟨m1, rfl⟩⟩ := hrel
  cases gk with
  | zero => exact absurd HA.out (by simp [slices_Index_int_int.l0])
  | succ k1 =>
   have H := HA.out
   clear HA
   simp only [slices_Index_int_int.l0] at H
   by_cases c3 : x8_1 < (l0.length : Int)
   ·rw [if_pos c3] at H
    have c3b0 : decide (x8_1 < (l0.length : Int)) = true := decide_eq_true c3
    clear c3
    by_cases c4 : 0 ≤ x8_1
    ·rw [if_pos c4] at H
     have c4b0 : decide (0 ≤ x8_1) = true := decide_eq_true c4
     clear c4
     by_cases c5 : x8_1 < (l0.length : Int)
     ·rw [if_pos c5] at H
      have c5b0 : decide (x8_1 < (l0.length : Int)) = true := decide_eq_true c5
      clear c5
      by_cases c6 : a1 = (rd l0 x8_1)
      ·rw [if_pos c6] at H
       have c6b0 : (a1 == (rd l0 x8_1)) = true := beq_iff_eq.mpr c6
       have c6b1 : (a1 != (rd l0 x8_1)) = false := bne_eq_false_iff_eq.mpr c6
       clear c6
       obtain rfl := Option.some.inj H
       have p190 : 0 ≤ (x8_1 : Int) := of_decide_eq_true sqs
       have q190 : x8_1 < (l0.length : Int) := of_decide_eq_true sqs
       obtain ⟨ad190, e190, hx190_0⟩ := Kd.at_int HR0.out x8_1 p190 q190
       cases e190
       replace p190 := eq_true p190
       replace q190 := eq_true q190
       go_wp2
       go_ret
       exact ⟨sqr, by repeat (first | exact Drawn0.refl _ | apply Drawn0.step)⟩
      ·rw [if_neg c6] at H
       have c6b0 : (a1 == (rd l0 x8_1)) = false := beq_eq_false_iff_ne.mpr c6
       have c6b1 : (a1 != (rd l0 x8_1)) = true := bne_iff_ne.mpr c6
       have H' := Aside0.mk H
       clear H
       have p190 : 0 ≤ (x8_1 : Int) := of_decide_eq_true sqs
       have q190 : x8_1 < (l0.length : Int) := of_decide_eq_true sqs
       obtain ⟨ad190, e190, hx190_0⟩ := Kd.at_int HR0.out x8_1 p190 q190
       cases e190
       replace p190 := eq_true p190
       replace q190 := eq_true q190
       go_wp2
       go_roundg k1
       case measure => have := HK1.out; omega
       case rel => exact ⟨(wrap64 (x8_1 + 1)), sqr, H', ⟨by have := HK1.out; omega⟩, by repeat (first | exact Drawn0.refl _ | apply Drawn0.step)⟩
     ·rw [if_neg c5] at H
      exact absurd H (by simp)
    ·rw [if_neg c4] at H
     exact absurd H (by simp)
   ·rw [if_neg c3] at H
    have c3b0 : decide (x8_1 < (l0.length : Int)) = false := decide_eq_false c3
    clear c3
    obtain rfl := Option.some.inj H
    go_wp2
    go_ret
    exact ⟨sqr, by repeat (first | exact Drawn0.refl _ | apply Drawn0.step)⟩

/-! ### slices_Contains_int_int: function 75 -/
def slices_Contains_int_int.f (k : Nat) (l0 : List Int) (a1 : Int) : Option (Bool) := (slices_Index_int_int.f k l0 a1).bind fun t191 => (some (decide (t191 ≥ 0)))
set_option maxHeartbeats 8000000 in
set_option maxRecDepth 100000 in
theorem slices_Contains_int_int.calls (k : Nat) (A0 : Option Addr) (c0 : Nat) (l0 : List Int) (a1 : Int) (r : Bool) (w : World) (hr0 : Kd.C (Kd.int .i64) w A0 l0.length l0) (hc0 : l0.length ≤ c0) (h : slices_Contains_int_int.f k l0 a1 = some r) :
  Calls Try.prog 75 #[.slice A0 l0.length c0, .int .i64 a1] w fun e w' => e = .returned (.bool r) ∧ Drawn0 w w' := by
 have HR0 := Aside0.mk hr0
 have HC0 := Aside0.mk hc0
 clear hr0 hc0
 have H : ((slices_Index_int_int.f k l0 a1).bind fun t191 => (some (decide (t191 ≥ 0)))) = some r := h
 clear h
 obtain ⟨t191, A3, H⟩ := bA H
 obtain rfl := Option.some.inj H
 go_enter Try.func75, Try.ntmps75
 go_wp2_with (first | ((with_reducible refine gate_callee (f := 125) rfl ?_); refine goesL_ (some 7) rfl rfl Try.func125 sqk rfl #[.slice A0 l0.length c0, .int .i64 a1] rfl sqm ?_; (with_reducible refine (slices_Index_int_int.calls k _ _ l0 a1 t191 _ ?side1 ?side2 A3.out).mono ?_); (case side1 => repeat (first | exact HR0.out | (with_reducible refine Kd.C_alloc ?_ _) | (with_reducible refine Kd.C_drewN ?_ _) | (with_reducible refine Kd.C_drew ?_))); (case side2 => exact HC0.out); rintro e w' ⟨rfl, ⟨nd, rfl⟩⟩; refine ⟨_, rfl, ?_⟩))
 go_ret
 exact ⟨sqr, by repeat (first | exact Drawn0.refl _ | apply Drawn0.step)⟩

-- NOT PRINTED: function 141 (slices_IndexFunc_int_int)

-- NOT PRINTED: function 127 (slices_ContainsFunc_int_int)

/-! ### impl_areApart: function 80 -/
/-- The first index of l at which p, or -1. -/
def impl_areApart.idx (p : Int → Bool) (l : List Int) : Int := ((List.range l.length).find? fun i => p (l.getD i 0)).elim (-1) fun i => (i : Int)
theorem impl_areApart.idx_hit (p : Int → Bool) (l : List Int) (i : Nat) (hi : i < l.length) (hp : p (l.getD i 0) = true) (hn : ∀ j, j < i → p (l.getD j 0) = false) : impl_areApart.idx p l = (i : Int) := by
 have hf : ((List.range l.length).find? fun i => p (l.getD i 0)) = some i := by
  rw [List.find?_range_eq_some]
  exact ⟨hp, by simpa using hi, fun j hj => by simpa using hn j hj⟩
 unfold impl_areApart.idx
 rw [hf]
 rfl
theorem impl_areApart.idx_miss (p : Int → Bool) (l : List Int) (hn : ∀ j, j < l.length → p (l.getD j 0) = false) : impl_areApart.idx p l = -1 := by
 have hf : ((List.range l.length).find? fun i => p (l.getD i 0)) = none := by
  rw [List.find?_eq_none]
  intro x hx
  have := hn x (by simpa using hx)
  simpa using this
 unfold impl_areApart.idx
 rw [hf]
 rfl
theorem impl_areApart.idx_cases (p : Int → Bool) (l : List Int) : impl_areApart.idx p l = -1 ∨ ∃ i : Nat, i < l.length ∧ impl_areApart.idx p l = (i : Int) := by
 unfold impl_areApart.idx
 cases hf : (List.range l.length).find? fun i => p (l.getD i 0) with
 | none => exact .inl rfl
 | some i =>
  rw [List.find?_range_eq_some] at hf
  exact .inr ⟨i, by simpa using hf.2.1, rfl⟩
def impl_areApart.has (l : List Int) (n : Int) : Bool := (List.range l.length).any fun i => l.getD i 0 == n
theorem impl_areApart.has_of (l : List Int) (n : Int) (hl : l.length ≤ 1099511627776) : ∃ k, slices_Contains_int_int.f k l n = some (impl_areApart.has l n) := by
 have h1 : slices_Index_int_int.f (l.length + 1) l n = some (((List.range l.length).find? fun i => l.getD i 0 == n).elim (-1) fun i => (i : Int)) := by
  unfold slices_Index_int_int.f
  refine Go.Proofs.YtlmhemcpkmjkiaaLib.findLoop (fun k i => slices_Index_int_int.l0 k l n (l.length : Int) i) l.length 0 (fun i => l.getD i 0 == n) (fun i => (i : Int)) (-1) ?_ ?_ ?_ (l.length + 1) (by omega)
  ·intro k i _ hi hp
   have hp' : ¬ l.getD i 0 = n := by simpa using hp
   simp only [slices_Index_int_int.l0, Go.Proofs.YtlmhemcpkmjkiaaLib.rd_nat]
   rw [if_pos (by omega), if_pos (by omega), if_pos (by omega), if_neg (fun h => hp' h.symm), Go.Proofs.YtlmhemcpkmjkiaaLib.wrap_succ hi hl]
  ·intro k i _ hi hp
   have hp' : l.getD i 0 = n := by simpa using hp
   simp only [slices_Index_int_int.l0, Go.Proofs.YtlmhemcpkmjkiaaLib.rd_nat]
   rw [if_pos (by omega), if_pos (by omega), if_pos (by omega), if_pos hp'.symm]
  ·intro k _
   simp only [slices_Index_int_int.l0]
   rw [if_neg (by omega)]
 refine ⟨l.length + 1, ?_⟩
 unfold slices_Contains_int_int.f impl_areApart.has
 rw [h1, Option.bind_some]
 congr 1
 cases hf : (List.range l.length).find? fun i => l.getD i 0 == n with
 | none =>
  rw [List.find?_eq_none] at hf
  show decide ((-1 : Int) ≥ 0) = _
  rw [eq_comm, show decide ((-1 : Int) ≥ 0) = false from rfl, List.any_eq_false]
  exact hf
 | some i =>
  rw [List.find?_range_eq_some] at hf
  show decide ((i : Int) ≥ 0) = _
  rw [eq_comm, decide_eq_true (show (i : Int) ≥ 0 by omega), List.any_eq_true]
  exact ⟨i, hf.2.1, hf.1⟩
def impl_areApart.out (b : List Int) (n : Int) : Bool := impl_areApart.has b n
set_option maxRecDepth 100000 in
set_option maxHeartbeats 1000000 in
theorem impl_areApart.closure (n : Int) (b : List Int) (Ab : Option Addr) (cb : Nat) (B1 : Nat) (W : World) (h1 : W.cell? ⟨B1, 0, none⟩ = some (.slice Ab b.length cb)) (hrb : Kd.C (Kd.int .i64) W Ab b.length b) (hcb : b.length ≤ cb) (hlb : b.length ≤ 1099511627776) :
  Calls Try.prog 128 #[.int .i64 n, .pointer (some ⟨B1, 0, none⟩)] W fun e w' => e = .returned (.bool (impl_areApart.out b n)) ∧ Below W.heap.size W w' := by
 obtain ⟨k, hk⟩ := impl_areApart.has_of b n hlb
 have HK := Aside0.mk hk
 have HR := Aside0.mk hrb
 have HC := Aside0.mk hcb
 clear hk hrb hcb
 unfold impl_areApart.out
 generalize impl_areApart.has b n = r at HK ⊢
 go_enter Try.func128, Try.ntmps128
 go_wp2_with (first | (go_at_call 75; refine (slices_Contains_int_int.calls k _ _ b n r _ HR.out HC.out HK.out).mono ?_; rintro e w' ⟨rfl, ⟨nd, rfl⟩⟩))
 go_ret
 exact ⟨rfl, by repeat (first | exact Below.refl _ _ | apply pw_below_drewN | apply below_drew)⟩
set_option maxRecDepth 100000 in
set_option maxHeartbeats 4000000 in
theorem impl_areApart.indexFunc (A : Option Addr) (c : Nat) (l : List Int) (b : List Int) (Ab : Option Addr) (cb : Nat) (B1 : Nat) (w : World) (hr : Kd.C (Kd.int .i64) w A l.length l) (h1 : w.cell? ⟨B1, 0, none⟩ = some (.slice Ab b.length cb)) (hrb : Kd.C (Kd.int .i64) w Ab b.length b) (hcb : b.length ≤ cb) (hlb : b.length ≤ 1099511627776) :
  Calls Try.prog 141 #[.slice A l.length c, .func (.func 128) #[] #[.pointer (some ⟨B1, 0, none⟩)]] w fun e w' => e = .returned (.int .i64 (impl_areApart.idx (impl_areApart.out b) l)) ∧ Below w.heap.size w w' := by
 have hb1 := World.block_lt_of_cell? w _ h1
 have HR := Aside0.mk hr
 have hmax : l.length ≤ 9223372036854775807 := Kd.C_max hr
 clear hr
 have H1 := Aside0.mk h1
 clear h1
 have HB1 := Aside0.mk hb1
 clear hb1
 have Xhrb := Aside0.mk hrb
 clear hrb
 have Xhcb := Aside0.mk hcb
 clear hcb
 have Xhlb := Aside0.mk hlb
 clear hlb
 go_enter Try.func141, Try.ntmps141
 go_wp2
 go_loopg [5, 8] l.length (fun gg _ s8 wr => ∃ kk : Nat, kk ≤ l.length ∧ l.length - kk ≤ gg ∧ s8 = .int .i64 kk ∧ Aside0 (Below w.heap.size w wr) ∧ Aside0 (∀ j, j < kk → impl_areApart.out b (l.getD j 0) = false))
 case atStart => exact ⟨0, Nat.zero_le _, by omega, rfl, ⟨Below.refl _ w⟩, ⟨fun j hj => absurd hj (Nat.not_lt_zero _)⟩⟩
 case round =>
  obtain ⟨kk, hkk, hg, rfl, BW, AA⟩ := hrel
  by_cases hlt : kk < l.length
  ·have hltz : (kk : Int) < (l.length : Int) := by omega
   obtain ⟨ad, e, hx0⟩ := Kd.at_int HR.out (kk : Int) (by omega) hltz
   subst e
   replace hx0 := (BW.out.cell (World.block_lt_of_cell? w _ hx0)).trans hx0
   rw [Int.toNat_natCast] at hx0
   have hcall := impl_areApart.closure (rd l (kk : Int)) b Ab cb B1 wr ((BW.out.cell (p := ⟨B1, 0, none⟩) HB1.out).trans H1.out) (Kd.C_below Xhrb.out BW.out) (Xhcb.out) (Xhlb.out)
   have hrd : rd l (kk : Int) = l.getD kk 0 := by unfold rd; rw [Int.toNat_natCast]
   generalize hy : rd l (kk : Int) = y at hx0 hcall hrd
   clear hy
   have HY := Aside0.mk hrd
   clear hrd
   cases hq : impl_areApart.out b y with
   | true =>
    rw [hq] at hcall
    have HQ := Aside0.mk hq
    clear hq
    go_wp2_with (first | (go_at_call 128; refine hcall.mono ?_; rintro e w' ⟨rfl, hb'⟩))
    go_ret
    exact ⟨by rw [impl_areApart.idx_hit (impl_areApart.out b) l kk hlt (by rw [← HY.out]; exact HQ.out) AA.out]; rfl, below_then BW.out BW.out.size hb'⟩
   | false =>
    rw [hq] at hcall
    have HQ := Aside0.mk hq
    clear hq
    go_wp2_with (first | (go_at_call 128; refine hcall.mono ?_; rintro e w' ⟨rfl, hb'⟩))
    go_roundg (l.length - (kk + 1))
    case measure => omega
    case rel =>
     refine ⟨kk + 1, by omega, by omega, by go_num, ⟨below_then BW.out BW.out.size hb'⟩, ⟨fun j hj => ?_⟩⟩
     rcases Nat.lt_succ_iff_lt_or_eq.1 hj with hj | rfl
     ·exact AA.out j hj
     ·rw [← HY.out]; exact HQ.out
  ·have hltz : ¬ (kk : Int) < (l.length : Int) := by omega
   obtain rfl : kk = l.length := by omega
   go_wp2
   go_ret
   exact ⟨by rw [impl_areApart.idx_miss (impl_areApart.out b) l AA.out]; rfl, BW.out⟩
set_option maxRecDepth 100000 in
set_option maxHeartbeats 1000000 in
theorem impl_areApart.containsFunc (A : Option Addr) (c : Nat) (l : List Int) (b : List Int) (Ab : Option Addr) (cb : Nat) (B1 : Nat) (w : World) (hr : Kd.C (Kd.int .i64) w A l.length l) (h1 : w.cell? ⟨B1, 0, none⟩ = some (.slice Ab b.length cb)) (hrb : Kd.C (Kd.int .i64) w Ab b.length b) (hcb : b.length ≤ cb) (hlb : b.length ≤ 1099511627776) :
  Calls Try.prog 127 #[.slice A l.length c, .func (.func 128) #[] #[.pointer (some ⟨B1, 0, none⟩)]] w fun e w' => e = .returned (.bool (decide (0 ≤ impl_areApart.idx (impl_areApart.out b) l))) ∧ Below w.heap.size w w' := by
 have hcall := impl_areApart.indexFunc A c l b Ab cb B1 w hr h1 hrb hcb hlb
 clear hr h1 hrb hcb hlb
 generalize impl_areApart.idx (impl_areApart.out b) l = r at hcall ⊢
 go_enter Try.func127, Try.ntmps127
 go_wp2_with (first | (go_at_call 141; refine hcall.mono ?_; rintro e w' ⟨rfl, hb'⟩))
 go_ret
 exact ⟨rfl, hb'⟩
/-- No number occurs in both. -/
def impl_areApart.f (l0 l1 : List Int) : Option (Bool) := if l1.length ≤ 1099511627776 then some (!decide (0 ≤ impl_areApart.idx (impl_areApart.out l1) l0)) else none
set_option maxRecDepth 100000 in
set_option maxHeartbeats 1000000 in
theorem impl_areApart.calls (A0 : Option Addr) (c0 : Nat) (l0 : List Int) (A1 : Option Addr) (c1 : Nat) (l1 : List Int) (r : Bool) (w : World) (hr0 : Kd.C (Kd.int .i64) w A0 l0.length l0) (hc0 : l0.length ≤ c0) (hr1 : Kd.C (Kd.int .i64) w A1 l1.length l1) (hc1 : l1.length ≤ c1) (h : impl_areApart.f l0 l1 = some r) :
  Calls Try.prog 80 #[.slice A0 l0.length c0, .slice A1 l1.length c1] w fun e w' => e = .returned (.bool r) ∧ Below w.heap.size w w' := by
 unfold impl_areApart.f at h
 split at h
 ·rename_i hl
  obtain rfl := Option.some.inj h
  have hcall := impl_areApart.containsFunc A0 c0 l0 l1 A1 c1 w.heap.size (w.alloc (.cells #[.slice A1 l1.length c1] 28)) (Kd.C_alloc hr0 _) (by simp) (Kd.C_alloc hr1 _) hc1 hl
  clear hr0 hc0 hr1 hc1 h hl
  generalize decide (0 ≤ impl_areApart.idx (impl_areApart.out l1) l0) = r at hcall ⊢
  go_enter Try.func80, Try.ntmps80
  go_wp2_with (first | (go_at_call 127; refine hcall.mono ?_; rintro e w' ⟨rfl, hb'⟩))
  go_ret
  exact ⟨rfl, ((Below.refl w.heap.size w).alloc (Nat.le_refl _) _).trans (hb'.mono (by simp))⟩
 ·cases h

end Go.Proofs.Ytlmhemcpkmjkiaa.XFnExactReplaceAllowed
