/- Part 8 of 10 of the proof of FnTake: functions on lists and numbers, contracts of Go functions, plain lemmas. -/
import Derived.Test.YtjhfjnknajhanaaCTake5
import Derived.Test.YtjhfjnknajhanaaCTake7
import Derived.Test.YtjhfjnknajhanaaCTake6
namespace Go.Proofs.Ytjhfjnknajhanaa.P
open Go.RowKit Go.Proofs.YtjhfjnknajhanaaW.PrintWords Go.Proofs.YtjhfjnknajhanaaW.PrintLast Go.Proofs.YtjhfjnknajhanaaW.PrintMore
attribute [local go_sem] max2_int min2_int max_two min_two max_three min_three max_four min_four
set_option linter.unusedVariables false
set_option linter.unusedSimpArgs false
/-! ### spec_l01Cur_badQuery: function 159 -/
set_option maxHeartbeats 8000000 in
set_option maxRecDepth 100000 in
theorem spec_l01Cur_badQuery.calls (k : Nat) (g : Nat) (s0_0 : List Int) (s0_1 : Int) (s0_2 : Int) (r1 : List (S231)) (r2 : List (S231)) (r3 : Int) (r4 : Int) (r5 : Int) (r6 : Int) (r7 : Int) (r8 : Int) (r9 : Int) (w0 w : World) (hI : IsS213 w0 w g s0_0 s0_1 s0_2) (hB : Below w0.heap.size w0 w) (h : spec_l01Cur_badQuery.f k s0_0 s0_1 s0_2 = some (r1, r2, r3, r4, r5, r6, r7, r8, r9)) :
  Calls Try.prog 159 #[.pointer (some ⟨g, 0, none⟩)] w fun e w' => ∃ v0_ v1_ : Value, e = .returned (.agg #[v0_, v1_, .int .i64 r3, .int .i64 r4, .int .i64 r5, .int .i64 r6, .int .i64 r7]) ∧ Kd.R k231 231 w' w.heap.size (fun k_ => some k_ ≠ (v1_ : Value).ownBlock) v0_ r1 ∧ Kd.R k231 231 w' w.heap.size (fun k_ => some k_ ≠ (v0_ : Value).ownBlock) v1_ r2 ∧ IsS213 w0 w' g s0_0 r8 r9 ∧ Below w0.heap.size w0 w' ∧ KeepBut w w' g none := by
 have hu102 := Try.underlying102
 have hu100 := Try.underlying100
 have HI0 := Aside0.mk hI
 have HK := Aside0.mk (KeepBut.refl w g none)
 have HL := Aside0.mk hB.size
 clear hI
 have HW0 := Aside0.mk hB.size
 have HB := Aside0.mk hB
 clear hB
 have H : ((spec_l01Cur_query.f k s0_0 s0_1 s0_2).bind fun bt102 => ((spec_l01Cur_pick.f s0_0 bt102.2.2.2.2.2.2.2.1 bt102.2.2.2.2.2.2.2.2 12).bind fun bt116 => (if bt116.1 = 0 then ((spec_l01Cur_badExpr.f k s0_0 bt116.2.1 bt116.2.2).bind fun bt119 => (some (bt119.1, bt102.2.1, bt102.2.2.1, bt102.2.2.2.1, bt102.2.2.2.2.1, bt102.2.2.2.2.2.1, bt102.2.2.2.2.2.2.1, bt119.2.1, bt119.2.2))) else (if bt116.1 = 1 then (some (bt102.1, ([] : List (S231)), bt102.2.2.1, bt102.2.2.2.1, bt102.2.2.2.2.1, bt102.2.2.2.2.2.1, bt102.2.2.2.2.2.2.1, bt116.2.1, bt116.2.2)) else (if bt116.1 = 2 then ((spec_l01Cur_badWin.f k s0_0 bt116.2.1 bt116.2.2).bind fun bt124 => (some (bt102.1, bt102.2.1, bt124.1, bt124.2.1, bt124.2.2.1, bt102.2.2.2.2.2.1, bt102.2.2.2.2.2.2.1, bt124.2.2.2.1, bt124.2.2.2.2))) else (if bt116.1 = 3 then ((spec_l01Cur_aggKind.f k s0_0 bt116.2.1 bt116.2.2).bind fun bt129 => (some (bt102.1, bt102.2.1, bt102.2.2.1, bt102.2.2.2.1, bt102.2.2.2.2.1, bt129.1, bt129.2.1, bt129.2.2.1, bt129.2.2.2))) else (some (bt102.1, bt102.2.1, bt102.2.2.1, bt102.2.2.2.1, bt102.2.2.2.2.1, bt102.2.2.2.2.2.1, bt102.2.2.2.2.2.2.1, bt116.2.1, bt116.2.2)))))))) = some (r1, r2, r3, r4, r5, r6, r7, r8, r9) := h
 clear h
 replace H := qB H
 obtain ⟨⟨t102, t105, t108, t109, t110, t111, t112, t113, t114⟩, A2, H⟩ := H
 try dsimp only at H
 replace H := qB H
 obtain ⟨⟨t116, t117, t118⟩, A3, H⟩ := H
 try dsimp only at H
 by_cases c4 : t116 = 0
 ·rw [if_pos c4] at H
  have c4b0 : (t116 == 0) = true := beq_iff_eq.mpr c4; have c4b1 : (t116 != 0) = false := bne_eq_false_iff_eq.mpr c4; clear c4; replace H := qB H; obtain ⟨⟨t119, t122, t123⟩, A5, H⟩ := H
  try dsimp only at H
  simp only [Option.some.injEq, Prod.mk.injEq] at H
  obtain ⟨rfl, rfl, rfl, rfl, rfl, rfl, rfl, rfl, rfl⟩ := H; go_enter Try.func159, Try.ntmps159
  go_wp2_with (first | ((with_reducible refine gate_dst (N := 2) rfl ?_); refine box_event ?hg (N := 2) ?hd (cs := #[.slice none 0 0, .slice none 0 0, .int .i64 0, .int .i64 0, .int .i64 0, .int .i64 0, .int .i64 0]) (t := 102) ?hr ?_; (case hd => rfl); (case hg => rfl); (case hr => exact qz5); intro gb101 hg w6 hbox hb; have h_ := qA8 (IsS213.below (qz313 HI0.out) hb) (KeepBut.trans qz408 (KeepBut.of_below hb g none) (.inl rfl)) (below_step (qz314 HI0.out) hb) (hbox) ((qz414 : w.heap.size ≤ gb101)) ((Nat.le_trans HW0.out (qz414 : w.heap.size ≤ gb101) : w0.heap.size ≤ gb101)) ((qz415 HI0.out : g ≠ gb101)) ((qz416 HI0.out : gb101 ≠ g)); clear HI0 HK HB; obtain ⟨HI0, HK, HB, BK101, GW101, GE101, NB0_101, NB101_0⟩ := h_; clear hb hbox hg) | ((with_reducible refine gate_callee (f := 228) rfl ?_); refine goesL_ (some 5) rfl rfl Try.func228 (by kernel_rfl) rfl #[.pointer (some ⟨g, 0, none⟩)] rfl qz1 ?_; (with_reducible refine (spec_l01Cur_query.calls k g s0_0 s0_1 s0_2 t102 t105 t108 t109 t110 t111 t112 t113 t114 w0 _ ?side1 ?side2 A2.out).mono ?_); (case side1 => exact qz289 HI0.out NB0_101.out); (case side2 => exact qz290 HI0.out GE101.out); rintro e w7 ⟨v103, v106, rfl, ho0, ho1, hi, hb, hk⟩; refine ⟨_, rfl, ?_⟩; have h_ := qA6 (KeepBut.blk hk (g' := gb101) (o := .cells #[.slice none 0 0, .slice none 0 0, .int .i64 0, .int .i64 0, .int .i64 0, .int .i64 0, .int .i64 0] 102 (0, 0)) (qz8 BK101.out) NB101_0.out (by simp)) (Kd.R_lower ho0 (keep_size (w := w) (g := g) (row := none) (qz417 GW101.out))) (Kd.R_lower ho1 (keep_size (w := w) (g := g) (row := none) (qz417 GW101.out))) (KeepBut.trans (qz417 GW101.out) hk (.inl rfl)) (hb) (hi); clear BK101 HK HB HI0; obtain ⟨BK101, HO104, HO107, HK, HB, HI0⟩ := h_; (try clear hb); (try clear hb2); (try clear hk); (try clear hi); (try clear ho0); (try clear ho1)) | ((with_reducible refine gate_dst (N := 3) rfl ?_); refine box_event ?hg (N := 3) ?hd (cs := #[.slice none 0 0, .slice none 0 0, .int .i64 0, .int .i64 0, .int .i64 0, .int .i64 0, .int .i64 0]) (t := 102) ?hr ?_; (case hd => rfl); (case hg => rfl); (case hr => exact qz5); intro gb115 hg w8 hbox hb; have h_ := qA13 (Kd.R_below (qz21 HO104.out) hb) (Kd.R_below (qz21 HO107.out) hb) (IsS213.below (qz289 HI0.out NB0_101.out) hb) (blk_below (g := gb101) (o := .cells #[.slice none 0 0, .slice none 0 0, .int .i64 0, .int .i64 0, .int .i64 0, .int .i64 0, .int .i64 0] 102 (0, 0)) (qz8 BK101.out) hb) (KeepBut.trans (qz417 GW101.out) (KeepBut.of_below hb g none) (.inl rfl)) (below_step (qz290 HI0.out GE101.out) hb) (hbox) ((qz418 GW101.out : w.heap.size ≤ gb115)) ((Nat.le_trans HW0.out (qz418 GW101.out : w.heap.size ≤ gb115) : w0.heap.size ≤ gb115)) ((qz324 BK101.out : gb101 ≠ gb115)) ((qz325 BK101.out : gb115 ≠ gb101)) ((qz456 HI0.out NB0_101.out : g ≠ gb115)) ((qz457 HI0.out NB0_101.out : gb115 ≠ g)); clear HO104 HO107 HI0 BK101 HK HB; obtain ⟨HO104, HO107, HI0, BK101, HK, HB, BK115, GW115, GE115, NB101_115, NB115_101, NB0_115, NB115_0⟩ := h_; clear hb hbox hg; obtain ⟨Ao9, co9, eo9⟩ := Kd.R_slice HO104.out; subst eo9; have hnb10 := NB115_101.out; have hnc10 := NB101_115.out; have hnb11 := NB115_0.out; have hnc11 := NB0_115.out; obtain ⟨hcz12_0, hcz12_1, hcz12_2, hcz12_3, hcz12_4, hcz12_5, hcz12_6⟩ := qC7 BK115.out; obtain ⟨hfz12_0, hfz12_1, hfz12_2, hfz12_3, hfz12_4, hfz12_5, hfz12_6⟩ := qF7 BK115.out; obtain ⟨Ao13, co13, eo13⟩ := Kd.R_slice HO107.out; subst eo13) | ((with_reducible refine gate_callee (f := 134) rfl ?_); refine goesL_ (some 7) rfl rfl Try.func134 (by kernel_rfl) rfl #[.pointer (some ⟨g, 0, none⟩), .int .i64 12] rfl qz1 ?_; (with_reducible refine (spec_l01Cur_pick.calls g s0_0 t113 t114 12 t116 t117 t118 w0 _ ?side1 ?side2 A3.out).mono ?_); (case side1 => exact qz295 HI0.out NB0_101.out NB0_115.out); (case side2 => exact qz296 HI0.out GE101.out GE115.out); rintro e w14 ⟨rfl, hi, hb, hk⟩; refine ⟨_, rfl, ?_⟩; have h_ := qA7 (KeepBut.blk hk (g' := gb101) (o := .cells #[.slice none 0 0, .slice none 0 0, .int .i64 0, .int .i64 0, .int .i64 0, .int .i64 0, .int .i64 0] 102 (0, 0)) (qz328 NB101_115.out BK101.out) NB101_0.out (by simp)) (Kd.R_mono (Kd.R_keep (IsS213.apart (show IsS213 w0 _ g s0_0 t113 t114 from by repeat (first | (with_reducible first | exact HI0.out | apply IsS213.alloc | apply IsS213.drewN | apply IsS213.drew | apply IsS213.set_1 | apply IsS213.set_2 | refine IsS213.far ?_ NB0_101.out _ | refine IsS213.far ?_ NB0_115.out _) | exact HI0.out)) (qz458 HO104.out BK115.out) (by decide)) hk (fun _ h => h.2)) (fun _ h => h.1)) (Kd.R_mono (Kd.R_keep (IsS213.apart (show IsS213 w0 _ g s0_0 t113 t114 from by repeat (first | (with_reducible first | exact HI0.out | apply IsS213.alloc | apply IsS213.drewN | apply IsS213.drew | apply IsS213.set_1 | apply IsS213.set_2 | refine IsS213.far ?_ NB0_101.out _ | refine IsS213.far ?_ NB0_115.out _) | exact HI0.out)) (qz458 HO107.out BK115.out) (by decide)) hk (fun _ h => h.2)) (fun _ h => h.1)) (KeepBut.blk hk (g' := gb115) (o := .cells #[.slice Ao9 t102.length co9, .slice Ao13 t105.length co13, .int .i64 t108, .int .i64 t109, .int .i64 t110, .int .i64 t111, .int .i64 t112] 102 (0, 0)) (by (with_reducible repeat (first | refine blk_drewN ?_ _ | refine blk_drew ?_ | refine blk_alloc ?_ _)); refine blk_put (cs := #[.slice Ao9 t102.length co9, .slice Ao13 t105.length co13, .int .i64 t108, .int .i64 t109, .int .i64 t110, .int .i64 t111, .int .i64 0]) ?_ 6 _ rfl; (with_reducible repeat (first | refine blk_drewN ?_ _ | refine blk_drew ?_ | refine blk_alloc ?_ _)); refine blk_put (cs := #[.slice Ao9 t102.length co9, .slice Ao13 t105.length co13, .int .i64 t108, .int .i64 t109, .int .i64 t110, .int .i64 0, .int .i64 0]) ?_ 5 _ rfl; (with_reducible repeat (first | refine blk_drewN ?_ _ | refine blk_drew ?_ | refine blk_alloc ?_ _)); refine blk_put (cs := #[.slice Ao9 t102.length co9, .slice Ao13 t105.length co13, .int .i64 t108, .int .i64 t109, .int .i64 0, .int .i64 0, .int .i64 0]) ?_ 4 _ rfl; (with_reducible repeat (first | refine blk_drewN ?_ _ | refine blk_drew ?_ | refine blk_alloc ?_ _)); refine blk_put (cs := #[.slice Ao9 t102.length co9, .slice Ao13 t105.length co13, .int .i64 t108, .int .i64 0, .int .i64 0, .int .i64 0, .int .i64 0]) ?_ 3 _ rfl; (with_reducible repeat (first | refine blk_drewN ?_ _ | refine blk_drew ?_ | refine blk_alloc ?_ _)); refine blk_put (cs := #[.slice Ao9 t102.length co9, .slice Ao13 t105.length co13, .int .i64 0, .int .i64 0, .int .i64 0, .int .i64 0, .int .i64 0]) ?_ 2 _ rfl; (with_reducible repeat (first | refine blk_drewN ?_ _ | refine blk_drew ?_ | refine blk_alloc ?_ _)); refine blk_put (cs := #[.slice Ao9 t102.length co9, .slice none 0 0, .int .i64 0, .int .i64 0, .int .i64 0, .int .i64 0, .int .i64 0]) ?_ 1 _ rfl; (with_reducible repeat (first | refine blk_drewN ?_ _ | refine blk_drew ?_ | refine blk_alloc ?_ _)); refine blk_put (cs := #[.slice none 0 0, .slice none 0 0, .int .i64 0, .int .i64 0, .int .i64 0, .int .i64 0, .int .i64 0]) ?_ 0 _ rfl; (with_reducible repeat (first | refine blk_drewN ?_ _ | refine blk_drew ?_ | refine blk_alloc ?_ _)); exact BK115.out) NB115_0.out (by simp)) (KeepBut.trans (qz421 GW101.out GW115.out) hk (.inl rfl)) (hb) (hi); clear BK101 HO104 HO107 BK115 HK HB HI0; obtain ⟨BK101, HO104, HO107, BK115, HK, HB, HI0⟩ := h_; (try clear hb); (try clear hb2); (try clear hk); (try clear hi)) | ((with_reducible refine gate_callee (f := 233) rfl ?_); refine goesL_ (some 11) rfl rfl Try.func233 (by kernel_rfl) rfl #[.pointer (some ⟨g, 0, none⟩)] rfl qz1 ?_; (with_reducible refine (spec_l01Cur_badExpr.calls k g s0_0 t117 t118 t119 t122 t123 w0 _ ?side1 ?side2 A5.out).mono ?_); (case side1 => exact qz295 HI0.out NB0_101.out NB0_115.out); (case side2 => exact qz296 HI0.out GE101.out GE115.out); rintro e w15 ⟨v120, rfl, ho0, hi, hb, hk⟩; refine ⟨_, rfl, ?_⟩; have h_ := qA8 (KeepBut.blk hk (g' := gb101) (o := .cells #[.slice none 0 0, .slice none 0 0, .int .i64 0, .int .i64 0, .int .i64 0, .int .i64 0, .int .i64 0] 102 (0, 0)) (qz8 BK101.out) NB101_0.out (by simp)) (Kd.R_mono (Kd.R_told (Kd.R_oldK (IsS213.apart (show IsS213 w0 _ g s0_0 t117 t118 from by repeat (first | (with_reducible first | exact HI0.out | apply IsS213.alloc | apply IsS213.drewN | apply IsS213.drew | apply IsS213.set_1 | apply IsS213.set_2 | refine IsS213.far ?_ NB0_101.out _ | refine IsS213.far ?_ NB0_115.out _) | exact HI0.out)) (qz21 HO104.out) (by decide)) hk) (Kd.R_base ho0)) (fun _ h_ => h_.1)) (Kd.R_mono (Kd.R_told (Kd.R_oldK (IsS213.apart (show IsS213 w0 _ g s0_0 t117 t118 from by repeat (first | (with_reducible first | exact HI0.out | apply IsS213.alloc | apply IsS213.drewN | apply IsS213.drew | apply IsS213.set_1 | apply IsS213.set_2 | refine IsS213.far ?_ NB0_101.out _ | refine IsS213.far ?_ NB0_115.out _) | exact HI0.out)) (qz21 HO107.out) (by decide)) hk) (Kd.R_base ho0)) (fun _ h_ => h_.1)) (KeepBut.blk hk (g' := gb115) (o := .cells #[.slice Ao9 t102.length co9, .slice Ao13 t105.length co13, .int .i64 t108, .int .i64 t109, .int .i64 t110, .int .i64 t111, .int .i64 t112] 102 (0, 0)) (qz8 BK115.out) NB115_0.out (by simp)) (Kd.R_lower (Kd.R_new' (Kd.R_new' ho0 (Kd.R_lt (qz21 HO104.out))) (Kd.R_lt (qz21 HO107.out))) (keep_size (w := w) (g := g) (row := none) (qz421 GW101.out GW115.out))) (KeepBut.trans (qz421 GW101.out GW115.out) hk (.inl rfl)) (hb) (hi); clear BK101 HO104 HO107 BK115 HK HB HI0; obtain ⟨BK101, HO104, HO107, BK115, HO121, HK, HB, HI0⟩ := h_; (try clear hb); (try clear hb2); (try clear hk); (try clear hi); (try clear ho0); obtain ⟨Ao16, co16, eo16⟩ := Kd.R_slice HO121.out; subst eo16; obtain ⟨hcz17_0, hcz17_1, hcz17_2, hcz17_3, hcz17_4, hcz17_5, hcz17_6⟩ := qC7 BK115.out; obtain ⟨hfz17_0, hfz17_1, hfz17_2, hfz17_3, hfz17_4, hfz17_5, hfz17_6⟩ := qF7 BK115.out; have hnb18 := NB101_0.out; have hnc18 := NB0_101.out; obtain ⟨hcz19_0, hcz19_1, hcz19_2, hcz19_3, hcz19_4, hcz19_5, hcz19_6⟩ := qC7 BK101.out; obtain ⟨hfz19_0, hfz19_1, hfz19_2, hfz19_3, hfz19_4, hfz19_5, hfz19_6⟩ := qF7 BK101.out))
  refine bodyPost_ret (results_cell_row rfl _ _ gb101 102 #[.slice Ao16 t119.length co16, .slice Ao13 t105.length co13, .int .i64 t108, .int .i64 t109, .int .i64 t110, .int .i64 t111, .int .i64 t112] (0, 0) _ rfl (by (with_reducible repeat (first | refine blk_drewN ?_ _ | refine blk_drew ?_ | refine blk_alloc ?_ _)); refine blk_put (cs := #[.slice Ao16 t119.length co16, .slice Ao13 t105.length co13, .int .i64 t108, .int .i64 t109, .int .i64 t110, .int .i64 t111, .int .i64 0]) ?_ 6 _ rfl; (with_reducible repeat (first | refine blk_drewN ?_ _ | refine blk_drew ?_ | refine blk_alloc ?_ _)); refine blk_put (cs := #[.slice Ao16 t119.length co16, .slice Ao13 t105.length co13, .int .i64 t108, .int .i64 t109, .int .i64 t110, .int .i64 0, .int .i64 0]) ?_ 5 _ rfl; (with_reducible repeat (first | refine blk_drewN ?_ _ | refine blk_drew ?_ | refine blk_alloc ?_ _)); refine blk_put (cs := #[.slice Ao16 t119.length co16, .slice Ao13 t105.length co13, .int .i64 t108, .int .i64 t109, .int .i64 0, .int .i64 0, .int .i64 0]) ?_ 4 _ rfl; (with_reducible repeat (first | refine blk_drewN ?_ _ | refine blk_drew ?_ | refine blk_alloc ?_ _)); refine blk_put (cs := #[.slice Ao16 t119.length co16, .slice Ao13 t105.length co13, .int .i64 t108, .int .i64 0, .int .i64 0, .int .i64 0, .int .i64 0]) ?_ 3 _ rfl; (with_reducible repeat (first | refine blk_drewN ?_ _ | refine blk_drew ?_ | refine blk_alloc ?_ _)); refine blk_put (cs := #[.slice Ao16 t119.length co16, .slice Ao13 t105.length co13, .int .i64 0, .int .i64 0, .int .i64 0, .int .i64 0, .int .i64 0]) ?_ 2 _ rfl; (with_reducible repeat (first | refine blk_drewN ?_ _ | refine blk_drew ?_ | refine blk_alloc ?_ _)); refine blk_put (cs := #[.slice Ao16 t119.length co16, .slice none 0 0, .int .i64 0, .int .i64 0, .int .i64 0, .int .i64 0, .int .i64 0]) ?_ 1 _ rfl; (with_reducible repeat (first | refine blk_drewN ?_ _ | refine blk_drew ?_ | refine blk_alloc ?_ _)); refine blk_put (cs := #[.slice none 0 0, .slice none 0 0, .int .i64 0, .int .i64 0, .int .i64 0, .int .i64 0, .int .i64 0]) ?_ 0 _ rfl; (with_reducible repeat (first | refine blk_drewN ?_ _ | refine blk_drew ?_ | refine blk_alloc ?_ _)); refine blk_far ?_ NB101_115.out _; (with_reducible repeat (first | refine blk_drewN ?_ _ | refine blk_drew ?_ | refine blk_alloc ?_ _)); exact BK101.out) Try.underlying102 rfl (by kernel_rfl)) rfl ?_
  exact ⟨_, _, qz13, qz459 HO121.out BK115.out BK101.out, qz459 HO107.out BK115.out BK101.out, qz295 HI0.out NB0_101.out NB0_115.out, qz296 HI0.out GE101.out GE115.out, qz421 GW101.out GW115.out⟩
 ·rw [if_neg c4] at H
  have c4b0 : (t116 == 0) = false := beq_eq_false_iff_ne.mpr c4; have c4b1 : (t116 != 0) = true := bne_iff_ne.mpr c4
  by_cases c20 : t116 = 1
  ·rw [if_pos c20] at H
   have c20b0 : (t116 == 1) = true := beq_iff_eq.mpr c20; have c20b1 : (t116 != 1) = false := bne_eq_false_iff_eq.mpr c20; clear c20; simp only [Option.some.injEq, Prod.mk.injEq] at H; obtain ⟨rfl, rfl, rfl, rfl, rfl, rfl, rfl, rfl, rfl⟩ := H; go_enter Try.func159, Try.ntmps159
   go_wp2_with (first | ((with_reducible refine gate_dst (N := 2) rfl ?_); refine box_event ?hg (N := 2) ?hd (cs := #[.slice none 0 0, .slice none 0 0, .int .i64 0, .int .i64 0, .int .i64 0, .int .i64 0, .int .i64 0]) (t := 102) ?hr ?_; (case hd => rfl); (case hg => rfl); (case hr => exact qz5); intro gb101 hg w21 hbox hb; have h_ := qA8 (IsS213.below (qz313 HI0.out) hb) (KeepBut.trans qz408 (KeepBut.of_below hb g none) (.inl rfl)) (below_step (qz314 HI0.out) hb) (hbox) ((qz414 : w.heap.size ≤ gb101)) ((Nat.le_trans HW0.out (qz414 : w.heap.size ≤ gb101) : w0.heap.size ≤ gb101)) ((qz415 HI0.out : g ≠ gb101)) ((qz416 HI0.out : gb101 ≠ g)); clear HI0 HK HB; obtain ⟨HI0, HK, HB, BK101, GW101, GE101, NB0_101, NB101_0⟩ := h_; clear hb hbox hg) | ((with_reducible refine gate_callee (f := 228) rfl ?_); refine goesL_ (some 5) rfl rfl Try.func228 (by kernel_rfl) rfl #[.pointer (some ⟨g, 0, none⟩)] rfl qz1 ?_; (with_reducible refine (spec_l01Cur_query.calls k g s0_0 s0_1 s0_2 t102 t105 t108 t109 t110 t111 t112 t113 t114 w0 _ ?side1 ?side2 A2.out).mono ?_); (case side1 => exact qz289 HI0.out NB0_101.out); (case side2 => exact qz290 HI0.out GE101.out); rintro e w22 ⟨v103, v106, rfl, ho0, ho1, hi, hb, hk⟩; refine ⟨_, rfl, ?_⟩; have h_ := qA6 (KeepBut.blk hk (g' := gb101) (o := .cells #[.slice none 0 0, .slice none 0 0, .int .i64 0, .int .i64 0, .int .i64 0, .int .i64 0, .int .i64 0] 102 (0, 0)) (qz8 BK101.out) NB101_0.out (by simp)) (Kd.R_lower ho0 (keep_size (w := w) (g := g) (row := none) (qz417 GW101.out))) (Kd.R_lower ho1 (keep_size (w := w) (g := g) (row := none) (qz417 GW101.out))) (KeepBut.trans (qz417 GW101.out) hk (.inl rfl)) (hb) (hi); clear BK101 HK HB HI0; obtain ⟨BK101, HO104, HO107, HK, HB, HI0⟩ := h_; (try clear hb); (try clear hb2); (try clear hk); (try clear hi); (try clear ho0); (try clear ho1)) | ((with_reducible refine gate_dst (N := 3) rfl ?_); refine box_event ?hg (N := 3) ?hd (cs := #[.slice none 0 0, .slice none 0 0, .int .i64 0, .int .i64 0, .int .i64 0, .int .i64 0, .int .i64 0]) (t := 102) ?hr ?_; (case hd => rfl); (case hg => rfl); (case hr => exact qz5); intro gb115 hg w23 hbox hb; have h_ := qA13 (Kd.R_below (qz21 HO104.out) hb) (Kd.R_below (qz21 HO107.out) hb) (IsS213.below (qz289 HI0.out NB0_101.out) hb) (blk_below (g := gb101) (o := .cells #[.slice none 0 0, .slice none 0 0, .int .i64 0, .int .i64 0, .int .i64 0, .int .i64 0, .int .i64 0] 102 (0, 0)) (qz8 BK101.out) hb) (KeepBut.trans (qz417 GW101.out) (KeepBut.of_below hb g none) (.inl rfl)) (below_step (qz290 HI0.out GE101.out) hb) (hbox) ((qz418 GW101.out : w.heap.size ≤ gb115)) ((Nat.le_trans HW0.out (qz418 GW101.out : w.heap.size ≤ gb115) : w0.heap.size ≤ gb115)) ((qz324 BK101.out : gb101 ≠ gb115)) ((qz325 BK101.out : gb115 ≠ gb101)) ((qz456 HI0.out NB0_101.out : g ≠ gb115)) ((qz457 HI0.out NB0_101.out : gb115 ≠ g)); clear HO104 HO107 HI0 BK101 HK HB; obtain ⟨HO104, HO107, HI0, BK101, HK, HB, BK115, GW115, GE115, NB101_115, NB115_101, NB0_115, NB115_0⟩ := h_; clear hb hbox hg; obtain ⟨Ao24, co24, eo24⟩ := Kd.R_slice HO104.out; subst eo24; have hnb25 := NB115_101.out; have hnc25 := NB101_115.out; have hnb26 := NB115_0.out; have hnc26 := NB0_115.out; obtain ⟨hcz27_0, hcz27_1, hcz27_2, hcz27_3, hcz27_4, hcz27_5, hcz27_6⟩ := qC7 BK115.out; obtain ⟨hfz27_0, hfz27_1, hfz27_2, hfz27_3, hfz27_4, hfz27_5, hfz27_6⟩ := qF7 BK115.out; obtain ⟨Ao28, co28, eo28⟩ := Kd.R_slice HO107.out; subst eo28) | ((with_reducible refine gate_callee (f := 134) rfl ?_); refine goesL_ (some 7) rfl rfl Try.func134 (by kernel_rfl) rfl #[.pointer (some ⟨g, 0, none⟩), .int .i64 12] rfl qz1 ?_; (with_reducible refine (spec_l01Cur_pick.calls g s0_0 t113 t114 12 t116 t117 t118 w0 _ ?side1 ?side2 A3.out).mono ?_); (case side1 => exact qz295 HI0.out NB0_101.out NB0_115.out); (case side2 => exact qz296 HI0.out GE101.out GE115.out); rintro e w29 ⟨rfl, hi, hb, hk⟩; refine ⟨_, rfl, ?_⟩; have h_ := qA7 (KeepBut.blk hk (g' := gb101) (o := .cells #[.slice none 0 0, .slice none 0 0, .int .i64 0, .int .i64 0, .int .i64 0, .int .i64 0, .int .i64 0] 102 (0, 0)) (qz328 NB101_115.out BK101.out) NB101_0.out (by simp)) (Kd.R_mono (Kd.R_keep (IsS213.apart (show IsS213 w0 _ g s0_0 t113 t114 from by repeat (first | (with_reducible first | exact HI0.out | apply IsS213.alloc | apply IsS213.drewN | apply IsS213.drew | apply IsS213.set_1 | apply IsS213.set_2 | refine IsS213.far ?_ NB0_101.out _ | refine IsS213.far ?_ NB0_115.out _) | exact HI0.out)) (qz460 HO104.out BK115.out) (by decide)) hk (fun _ h => h.2)) (fun _ h => h.1)) (Kd.R_mono (Kd.R_keep (IsS213.apart (show IsS213 w0 _ g s0_0 t113 t114 from by repeat (first | (with_reducible first | exact HI0.out | apply IsS213.alloc | apply IsS213.drewN | apply IsS213.drew | apply IsS213.set_1 | apply IsS213.set_2 | refine IsS213.far ?_ NB0_101.out _ | refine IsS213.far ?_ NB0_115.out _) | exact HI0.out)) (qz460 HO107.out BK115.out) (by decide)) hk (fun _ h => h.2)) (fun _ h => h.1)) (KeepBut.blk hk (g' := gb115) (o := .cells #[.slice Ao24 t102.length co24, .slice Ao28 t105.length co28, .int .i64 t108, .int .i64 t109, .int .i64 t110, .int .i64 t111, .int .i64 t112] 102 (0, 0)) (by (with_reducible repeat (first | refine blk_drewN ?_ _ | refine blk_drew ?_ | refine blk_alloc ?_ _)); refine blk_put (cs := #[.slice Ao24 t102.length co24, .slice Ao28 t105.length co28, .int .i64 t108, .int .i64 t109, .int .i64 t110, .int .i64 t111, .int .i64 0]) ?_ 6 _ rfl; (with_reducible repeat (first | refine blk_drewN ?_ _ | refine blk_drew ?_ | refine blk_alloc ?_ _)); refine blk_put (cs := #[.slice Ao24 t102.length co24, .slice Ao28 t105.length co28, .int .i64 t108, .int .i64 t109, .int .i64 t110, .int .i64 0, .int .i64 0]) ?_ 5 _ rfl; (with_reducible repeat (first | refine blk_drewN ?_ _ | refine blk_drew ?_ | refine blk_alloc ?_ _)); refine blk_put (cs := #[.slice Ao24 t102.length co24, .slice Ao28 t105.length co28, .int .i64 t108, .int .i64 t109, .int .i64 0, .int .i64 0, .int .i64 0]) ?_ 4 _ rfl; (with_reducible repeat (first | refine blk_drewN ?_ _ | refine blk_drew ?_ | refine blk_alloc ?_ _)); refine blk_put (cs := #[.slice Ao24 t102.length co24, .slice Ao28 t105.length co28, .int .i64 t108, .int .i64 0, .int .i64 0, .int .i64 0, .int .i64 0]) ?_ 3 _ rfl; (with_reducible repeat (first | refine blk_drewN ?_ _ | refine blk_drew ?_ | refine blk_alloc ?_ _)); refine blk_put (cs := #[.slice Ao24 t102.length co24, .slice Ao28 t105.length co28, .int .i64 0, .int .i64 0, .int .i64 0, .int .i64 0, .int .i64 0]) ?_ 2 _ rfl; (with_reducible repeat (first | refine blk_drewN ?_ _ | refine blk_drew ?_ | refine blk_alloc ?_ _)); refine blk_put (cs := #[.slice Ao24 t102.length co24, .slice none 0 0, .int .i64 0, .int .i64 0, .int .i64 0, .int .i64 0, .int .i64 0]) ?_ 1 _ rfl; (with_reducible repeat (first | refine blk_drewN ?_ _ | refine blk_drew ?_ | refine blk_alloc ?_ _)); refine blk_put (cs := #[.slice none 0 0, .slice none 0 0, .int .i64 0, .int .i64 0, .int .i64 0, .int .i64 0, .int .i64 0]) ?_ 0 _ rfl; (with_reducible repeat (first | refine blk_drewN ?_ _ | refine blk_drew ?_ | refine blk_alloc ?_ _)); exact BK115.out) NB115_0.out (by simp)) (KeepBut.trans (qz421 GW101.out GW115.out) hk (.inl rfl)) (hb) (hi); clear BK101 HO104 HO107 BK115 HK HB HI0; obtain ⟨BK101, HO104, HO107, BK115, HK, HB, HI0⟩ := h_; (try clear hb); (try clear hb2); (try clear hk); (try clear hi); obtain ⟨hcz30_0, hcz30_1, hcz30_2, hcz30_3, hcz30_4, hcz30_5, hcz30_6⟩ := qC7 BK115.out; obtain ⟨hfz30_0, hfz30_1, hfz30_2, hfz30_3, hfz30_4, hfz30_5, hfz30_6⟩ := qF7 BK115.out; have hnb31 := NB101_0.out; have hnc31 := NB0_101.out; obtain ⟨hcz32_0, hcz32_1, hcz32_2, hcz32_3, hcz32_4, hcz32_5, hcz32_6⟩ := qC7 BK101.out; obtain ⟨hfz32_0, hfz32_1, hfz32_2, hfz32_3, hfz32_4, hfz32_5, hfz32_6⟩ := qF7 BK101.out))
   refine bodyPost_ret (results_cell_row rfl _ _ gb101 102 #[.slice Ao24 t102.length co24, .slice none 0 0, .int .i64 t108, .int .i64 t109, .int .i64 t110, .int .i64 t111, .int .i64 t112] (0, 0) _ rfl (by (with_reducible repeat (first | refine blk_drewN ?_ _ | refine blk_drew ?_ | refine blk_alloc ?_ _)); refine blk_put (cs := #[.slice Ao24 t102.length co24, .slice none 0 0, .int .i64 t108, .int .i64 t109, .int .i64 t110, .int .i64 t111, .int .i64 0]) ?_ 6 _ rfl; (with_reducible repeat (first | refine blk_drewN ?_ _ | refine blk_drew ?_ | refine blk_alloc ?_ _)); refine blk_put (cs := #[.slice Ao24 t102.length co24, .slice none 0 0, .int .i64 t108, .int .i64 t109, .int .i64 t110, .int .i64 0, .int .i64 0]) ?_ 5 _ rfl; (with_reducible repeat (first | refine blk_drewN ?_ _ | refine blk_drew ?_ | refine blk_alloc ?_ _)); refine blk_put (cs := #[.slice Ao24 t102.length co24, .slice none 0 0, .int .i64 t108, .int .i64 t109, .int .i64 0, .int .i64 0, .int .i64 0]) ?_ 4 _ rfl; (with_reducible repeat (first | refine blk_drewN ?_ _ | refine blk_drew ?_ | refine blk_alloc ?_ _)); refine blk_put (cs := #[.slice Ao24 t102.length co24, .slice none 0 0, .int .i64 t108, .int .i64 0, .int .i64 0, .int .i64 0, .int .i64 0]) ?_ 3 _ rfl; (with_reducible repeat (first | refine blk_drewN ?_ _ | refine blk_drew ?_ | refine blk_alloc ?_ _)); refine blk_put (cs := #[.slice Ao24 t102.length co24, .slice none 0 0, .int .i64 0, .int .i64 0, .int .i64 0, .int .i64 0, .int .i64 0]) ?_ 2 _ rfl; (with_reducible repeat (first | refine blk_drewN ?_ _ | refine blk_drew ?_ | refine blk_alloc ?_ _)); refine blk_put (cs := #[.slice Ao24 t102.length co24, .slice none 0 0, .int .i64 0, .int .i64 0, .int .i64 0, .int .i64 0, .int .i64 0]) ?_ 1 _ rfl; (with_reducible repeat (first | refine blk_drewN ?_ _ | refine blk_drew ?_ | refine blk_alloc ?_ _)); refine blk_put (cs := #[.slice none 0 0, .slice none 0 0, .int .i64 0, .int .i64 0, .int .i64 0, .int .i64 0, .int .i64 0]) ?_ 0 _ rfl; (with_reducible repeat (first | refine blk_drewN ?_ _ | refine blk_drew ?_ | refine blk_alloc ?_ _)); refine blk_far ?_ NB101_115.out _; (with_reducible repeat (first | refine blk_drewN ?_ _ | refine blk_drew ?_ | refine blk_alloc ?_ _)); exact BK101.out) Try.underlying102 rfl (by kernel_rfl)) rfl ?_
   exact ⟨_, _, qz13, by (with_reducible repeat (first | apply Kd.R_alloc | apply Kd.R_drewN | apply Kd.R_drew)); exact Kd.R_mono (Kd.R_far (p := ⟨gb101, 6, none⟩) (Kd.R_far (p := ⟨gb101, 5, none⟩) (Kd.R_far (p := ⟨gb101, 4, none⟩) (Kd.R_far (p := ⟨gb101, 3, none⟩) (Kd.R_far (p := ⟨gb101, 2, none⟩) (Kd.R_far (p := ⟨gb101, 1, none⟩) (Kd.R_far (p := ⟨gb101, 0, none⟩) (Kd.R_far (p := ⟨gb115, 1, none⟩) (Kd.R_types (Kd.R_types HO104.out BK115.out (by decide)) BK101.out (by decide)) (fun _ hk => hk.1.2) (.slice none 0 0)) (fun _ hk => hk.2) (.slice Ao24 t102.length co24)) (fun _ hk => hk.2) (.slice none 0 0)) (fun _ hk => hk.2) (.int .i64 t108)) (fun _ hk => hk.2) (.int .i64 t109)) (fun _ hk => hk.2) (.int .i64 t110)) (fun _ hk => hk.2) (.int .i64 t111)) (fun _ hk => hk.2) (.int .i64 t112)) (fun _ hk => (by simp [Value.ownBlock])), qz15, qz295 HI0.out NB0_101.out NB0_115.out, qz296 HI0.out GE101.out GE115.out, qz421 GW101.out GW115.out⟩
  ·rw [if_neg c20] at H
   have c20b0 : (t116 == 1) = false := beq_eq_false_iff_ne.mpr c20; have c20b1 : (t116 != 1) = true := bne_iff_ne.mpr c20
   by_cases c33 : t116 = 2
   ·rw [if_pos c33] at H
    have c33b0 : (t116 == 2) = true := beq_iff_eq.mpr c33; have c33b1 : (t116 != 2) = false := bne_eq_false_iff_eq.mpr c33; clear c33; replace H := qB H; obtain ⟨⟨t124, t125, t126, t127, t128⟩, A34, H⟩ := H
    try dsimp only at H
    simp only [Option.some.injEq, Prod.mk.injEq] at H
    obtain ⟨rfl, rfl, rfl, rfl, rfl, rfl, rfl, rfl, rfl⟩ := H; go_enter Try.func159, Try.ntmps159
    go_wp2_with (first | ((with_reducible refine gate_dst (N := 2) rfl ?_); refine box_event ?hg (N := 2) ?hd (cs := #[.slice none 0 0, .slice none 0 0, .int .i64 0, .int .i64 0, .int .i64 0, .int .i64 0, .int .i64 0]) (t := 102) ?hr ?_; (case hd => rfl); (case hg => rfl); (case hr => exact qz5); intro gb101 hg w35 hbox hb; have h_ := qA8 (IsS213.below (qz313 HI0.out) hb) (KeepBut.trans qz408 (KeepBut.of_below hb g none) (.inl rfl)) (below_step (qz314 HI0.out) hb) (hbox) ((qz414 : w.heap.size ≤ gb101)) ((Nat.le_trans HW0.out (qz414 : w.heap.size ≤ gb101) : w0.heap.size ≤ gb101)) ((qz415 HI0.out : g ≠ gb101)) ((qz416 HI0.out : gb101 ≠ g)); clear HI0 HK HB; obtain ⟨HI0, HK, HB, BK101, GW101, GE101, NB0_101, NB101_0⟩ := h_; clear hb hbox hg) | ((with_reducible refine gate_callee (f := 228) rfl ?_); refine goesL_ (some 5) rfl rfl Try.func228 (by kernel_rfl) rfl #[.pointer (some ⟨g, 0, none⟩)] rfl qz1 ?_; (with_reducible refine (spec_l01Cur_query.calls k g s0_0 s0_1 s0_2 t102 t105 t108 t109 t110 t111 t112 t113 t114 w0 _ ?side1 ?side2 A2.out).mono ?_); (case side1 => exact qz289 HI0.out NB0_101.out); (case side2 => exact qz290 HI0.out GE101.out); rintro e w36 ⟨v103, v106, rfl, ho0, ho1, hi, hb, hk⟩; refine ⟨_, rfl, ?_⟩; have h_ := qA6 (KeepBut.blk hk (g' := gb101) (o := .cells #[.slice none 0 0, .slice none 0 0, .int .i64 0, .int .i64 0, .int .i64 0, .int .i64 0, .int .i64 0] 102 (0, 0)) (qz8 BK101.out) NB101_0.out (by simp)) (Kd.R_lower ho0 (keep_size (w := w) (g := g) (row := none) (qz417 GW101.out))) (Kd.R_lower ho1 (keep_size (w := w) (g := g) (row := none) (qz417 GW101.out))) (KeepBut.trans (qz417 GW101.out) hk (.inl rfl)) (hb) (hi); clear BK101 HK HB HI0; obtain ⟨BK101, HO104, HO107, HK, HB, HI0⟩ := h_; (try clear hb); (try clear hb2); (try clear hk); (try clear hi); (try clear ho0); (try clear ho1)) | ((with_reducible refine gate_dst (N := 3) rfl ?_); refine box_event ?hg (N := 3) ?hd (cs := #[.slice none 0 0, .slice none 0 0, .int .i64 0, .int .i64 0, .int .i64 0, .int .i64 0, .int .i64 0]) (t := 102) ?hr ?_; (case hd => rfl); (case hg => rfl); (case hr => exact qz5); intro gb115 hg w37 hbox hb; have h_ := qA13 (Kd.R_below (qz21 HO104.out) hb) (Kd.R_below (qz21 HO107.out) hb) (IsS213.below (qz289 HI0.out NB0_101.out) hb) (blk_below (g := gb101) (o := .cells #[.slice none 0 0, .slice none 0 0, .int .i64 0, .int .i64 0, .int .i64 0, .int .i64 0, .int .i64 0] 102 (0, 0)) (qz8 BK101.out) hb) (KeepBut.trans (qz417 GW101.out) (KeepBut.of_below hb g none) (.inl rfl)) (below_step (qz290 HI0.out GE101.out) hb) (hbox) ((qz418 GW101.out : w.heap.size ≤ gb115)) ((Nat.le_trans HW0.out (qz418 GW101.out : w.heap.size ≤ gb115) : w0.heap.size ≤ gb115)) ((qz324 BK101.out : gb101 ≠ gb115)) ((qz325 BK101.out : gb115 ≠ gb101)) ((qz456 HI0.out NB0_101.out : g ≠ gb115)) ((qz457 HI0.out NB0_101.out : gb115 ≠ g)); clear HO104 HO107 HI0 BK101 HK HB; obtain ⟨HO104, HO107, HI0, BK101, HK, HB, BK115, GW115, GE115, NB101_115, NB115_101, NB0_115, NB115_0⟩ := h_; clear hb hbox hg; obtain ⟨Ao38, co38, eo38⟩ := Kd.R_slice HO104.out; subst eo38; have hnb39 := NB115_101.out; have hnc39 := NB101_115.out; have hnb40 := NB115_0.out; have hnc40 := NB0_115.out; obtain ⟨hcz41_0, hcz41_1, hcz41_2, hcz41_3, hcz41_4, hcz41_5, hcz41_6⟩ := qC7 BK115.out; obtain ⟨hfz41_0, hfz41_1, hfz41_2, hfz41_3, hfz41_4, hfz41_5, hfz41_6⟩ := qF7 BK115.out; obtain ⟨Ao42, co42, eo42⟩ := Kd.R_slice HO107.out; subst eo42) | ((with_reducible refine gate_callee (f := 134) rfl ?_); refine goesL_ (some 7) rfl rfl Try.func134 (by kernel_rfl) rfl #[.pointer (some ⟨g, 0, none⟩), .int .i64 12] rfl qz1 ?_; (with_reducible refine (spec_l01Cur_pick.calls g s0_0 t113 t114 12 t116 t117 t118 w0 _ ?side1 ?side2 A3.out).mono ?_); (case side1 => exact qz295 HI0.out NB0_101.out NB0_115.out); (case side2 => exact qz296 HI0.out GE101.out GE115.out); rintro e w43 ⟨rfl, hi, hb, hk⟩; refine ⟨_, rfl, ?_⟩; have h_ := qA7 (KeepBut.blk hk (g' := gb101) (o := .cells #[.slice none 0 0, .slice none 0 0, .int .i64 0, .int .i64 0, .int .i64 0, .int .i64 0, .int .i64 0] 102 (0, 0)) (qz328 NB101_115.out BK101.out) NB101_0.out (by simp)) (Kd.R_mono (Kd.R_keep (IsS213.apart (show IsS213 w0 _ g s0_0 t113 t114 from by repeat (first | (with_reducible first | exact HI0.out | apply IsS213.alloc | apply IsS213.drewN | apply IsS213.drew | apply IsS213.set_1 | apply IsS213.set_2 | refine IsS213.far ?_ NB0_101.out _ | refine IsS213.far ?_ NB0_115.out _) | exact HI0.out)) (qz461 HO104.out BK115.out) (by decide)) hk (fun _ h => h.2)) (fun _ h => h.1)) (Kd.R_mono (Kd.R_keep (IsS213.apart (show IsS213 w0 _ g s0_0 t113 t114 from by repeat (first | (with_reducible first | exact HI0.out | apply IsS213.alloc | apply IsS213.drewN | apply IsS213.drew | apply IsS213.set_1 | apply IsS213.set_2 | refine IsS213.far ?_ NB0_101.out _ | refine IsS213.far ?_ NB0_115.out _) | exact HI0.out)) (qz461 HO107.out BK115.out) (by decide)) hk (fun _ h => h.2)) (fun _ h => h.1)) (KeepBut.blk hk (g' := gb115) (o := .cells #[.slice Ao38 t102.length co38, .slice Ao42 t105.length co42, .int .i64 t108, .int .i64 t109, .int .i64 t110, .int .i64 t111, .int .i64 t112] 102 (0, 0)) (by (with_reducible repeat (first | refine blk_drewN ?_ _ | refine blk_drew ?_ | refine blk_alloc ?_ _)); refine blk_put (cs := #[.slice Ao38 t102.length co38, .slice Ao42 t105.length co42, .int .i64 t108, .int .i64 t109, .int .i64 t110, .int .i64 t111, .int .i64 0]) ?_ 6 _ rfl; (with_reducible repeat (first | refine blk_drewN ?_ _ | refine blk_drew ?_ | refine blk_alloc ?_ _)); refine blk_put (cs := #[.slice Ao38 t102.length co38, .slice Ao42 t105.length co42, .int .i64 t108, .int .i64 t109, .int .i64 t110, .int .i64 0, .int .i64 0]) ?_ 5 _ rfl; (with_reducible repeat (first | refine blk_drewN ?_ _ | refine blk_drew ?_ | refine blk_alloc ?_ _)); refine blk_put (cs := #[.slice Ao38 t102.length co38, .slice Ao42 t105.length co42, .int .i64 t108, .int .i64 t109, .int .i64 0, .int .i64 0, .int .i64 0]) ?_ 4 _ rfl; (with_reducible repeat (first | refine blk_drewN ?_ _ | refine blk_drew ?_ | refine blk_alloc ?_ _)); refine blk_put (cs := #[.slice Ao38 t102.length co38, .slice Ao42 t105.length co42, .int .i64 t108, .int .i64 0, .int .i64 0, .int .i64 0, .int .i64 0]) ?_ 3 _ rfl; (with_reducible repeat (first | refine blk_drewN ?_ _ | refine blk_drew ?_ | refine blk_alloc ?_ _)); refine blk_put (cs := #[.slice Ao38 t102.length co38, .slice Ao42 t105.length co42, .int .i64 0, .int .i64 0, .int .i64 0, .int .i64 0, .int .i64 0]) ?_ 2 _ rfl; (with_reducible repeat (first | refine blk_drewN ?_ _ | refine blk_drew ?_ | refine blk_alloc ?_ _)); refine blk_put (cs := #[.slice Ao38 t102.length co38, .slice none 0 0, .int .i64 0, .int .i64 0, .int .i64 0, .int .i64 0, .int .i64 0]) ?_ 1 _ rfl; (with_reducible repeat (first | refine blk_drewN ?_ _ | refine blk_drew ?_ | refine blk_alloc ?_ _)); refine blk_put (cs := #[.slice none 0 0, .slice none 0 0, .int .i64 0, .int .i64 0, .int .i64 0, .int .i64 0, .int .i64 0]) ?_ 0 _ rfl; (with_reducible repeat (first | refine blk_drewN ?_ _ | refine blk_drew ?_ | refine blk_alloc ?_ _)); exact BK115.out) NB115_0.out (by simp)) (KeepBut.trans (qz421 GW101.out GW115.out) hk (.inl rfl)) (hb) (hi); clear BK101 HO104 HO107 BK115 HK HB HI0; obtain ⟨BK101, HO104, HO107, BK115, HK, HB, HI0⟩ := h_; (try clear hb); (try clear hb2); (try clear hk); (try clear hi)) | ((with_reducible refine gate_callee (f := 234) rfl ?_); refine goesL_ (some 19) rfl rfl Try.func234 (by kernel_rfl) rfl #[.pointer (some ⟨g, 0, none⟩)] rfl qz1 ?_; (with_reducible refine (spec_l01Cur_badWin.calls k g s0_0 t117 t118 t124 t125 t126 t127 t128 w0 _ ?side1 ?side2 A34.out).mono ?_); (case side1 => exact qz295 HI0.out NB0_101.out NB0_115.out); (case side2 => exact qz296 HI0.out GE101.out GE115.out); rintro e w44 ⟨rfl, hi, hb, hk⟩; refine ⟨_, rfl, ?_⟩; have h_ := qA7 (KeepBut.blk hk (g' := gb101) (o := .cells #[.slice none 0 0, .slice none 0 0, .int .i64 0, .int .i64 0, .int .i64 0, .int .i64 0, .int .i64 0] 102 (0, 0)) (qz8 BK101.out) NB101_0.out (by simp)) (Kd.R_mono (Kd.R_keep (IsS213.apart (show IsS213 w0 _ g s0_0 t117 t118 from by repeat (first | (with_reducible first | exact HI0.out | apply IsS213.alloc | apply IsS213.drewN | apply IsS213.drew | apply IsS213.set_1 | apply IsS213.set_2 | refine IsS213.far ?_ NB0_101.out _ | refine IsS213.far ?_ NB0_115.out _) | exact HI0.out)) (qz21 HO104.out) (by decide)) hk (fun _ h => h.2)) (fun _ h => h.1)) (Kd.R_mono (Kd.R_keep (IsS213.apart (show IsS213 w0 _ g s0_0 t117 t118 from by repeat (first | (with_reducible first | exact HI0.out | apply IsS213.alloc | apply IsS213.drewN | apply IsS213.drew | apply IsS213.set_1 | apply IsS213.set_2 | refine IsS213.far ?_ NB0_101.out _ | refine IsS213.far ?_ NB0_115.out _) | exact HI0.out)) (qz21 HO107.out) (by decide)) hk (fun _ h => h.2)) (fun _ h => h.1)) (KeepBut.blk hk (g' := gb115) (o := .cells #[.slice Ao38 t102.length co38, .slice Ao42 t105.length co42, .int .i64 t108, .int .i64 t109, .int .i64 t110, .int .i64 t111, .int .i64 t112] 102 (0, 0)) (qz8 BK115.out) NB115_0.out (by simp)) (KeepBut.trans (qz421 GW101.out GW115.out) hk (.inl rfl)) (hb) (hi); clear BK101 HO104 HO107 BK115 HK HB HI0; obtain ⟨BK101, HO104, HO107, BK115, HK, HB, HI0⟩ := h_; (try clear hb); (try clear hb2); (try clear hk); (try clear hi); obtain ⟨hcz45_0, hcz45_1, hcz45_2, hcz45_3, hcz45_4, hcz45_5, hcz45_6⟩ := qC7 BK115.out; obtain ⟨hfz45_0, hfz45_1, hfz45_2, hfz45_3, hfz45_4, hfz45_5, hfz45_6⟩ := qF7 BK115.out; have hnb46 := NB101_0.out; have hnc46 := NB0_101.out; obtain ⟨hcz47_0, hcz47_1, hcz47_2, hcz47_3, hcz47_4, hcz47_5, hcz47_6⟩ := qC7 BK101.out; obtain ⟨hfz47_0, hfz47_1, hfz47_2, hfz47_3, hfz47_4, hfz47_5, hfz47_6⟩ := qF7 BK101.out))
    refine bodyPost_ret (results_cell_row rfl _ _ gb101 102 #[.slice Ao38 t102.length co38, .slice Ao42 t105.length co42, .int .i64 t124, .int .i64 t125, .int .i64 t126, .int .i64 t111, .int .i64 t112] (0, 0) _ rfl (by (with_reducible repeat (first | refine blk_drewN ?_ _ | refine blk_drew ?_ | refine blk_alloc ?_ _)); refine blk_put (cs := #[.slice Ao38 t102.length co38, .slice Ao42 t105.length co42, .int .i64 t124, .int .i64 t125, .int .i64 t126, .int .i64 t111, .int .i64 0]) ?_ 6 _ rfl; (with_reducible repeat (first | refine blk_drewN ?_ _ | refine blk_drew ?_ | refine blk_alloc ?_ _)); refine blk_put (cs := #[.slice Ao38 t102.length co38, .slice Ao42 t105.length co42, .int .i64 t124, .int .i64 t125, .int .i64 t126, .int .i64 0, .int .i64 0]) ?_ 5 _ rfl; (with_reducible repeat (first | refine blk_drewN ?_ _ | refine blk_drew ?_ | refine blk_alloc ?_ _)); refine blk_put (cs := #[.slice Ao38 t102.length co38, .slice Ao42 t105.length co42, .int .i64 t124, .int .i64 t125, .int .i64 0, .int .i64 0, .int .i64 0]) ?_ 4 _ rfl; (with_reducible repeat (first | refine blk_drewN ?_ _ | refine blk_drew ?_ | refine blk_alloc ?_ _)); refine blk_put (cs := #[.slice Ao38 t102.length co38, .slice Ao42 t105.length co42, .int .i64 t124, .int .i64 0, .int .i64 0, .int .i64 0, .int .i64 0]) ?_ 3 _ rfl; (with_reducible repeat (first | refine blk_drewN ?_ _ | refine blk_drew ?_ | refine blk_alloc ?_ _)); refine blk_put (cs := #[.slice Ao38 t102.length co38, .slice Ao42 t105.length co42, .int .i64 0, .int .i64 0, .int .i64 0, .int .i64 0, .int .i64 0]) ?_ 2 _ rfl; (with_reducible repeat (first | refine blk_drewN ?_ _ | refine blk_drew ?_ | refine blk_alloc ?_ _)); refine blk_put (cs := #[.slice Ao38 t102.length co38, .slice none 0 0, .int .i64 0, .int .i64 0, .int .i64 0, .int .i64 0, .int .i64 0]) ?_ 1 _ rfl; (with_reducible repeat (first | refine blk_drewN ?_ _ | refine blk_drew ?_ | refine blk_alloc ?_ _)); refine blk_put (cs := #[.slice none 0 0, .slice none 0 0, .int .i64 0, .int .i64 0, .int .i64 0, .int .i64 0, .int .i64 0]) ?_ 0 _ rfl; (with_reducible repeat (first | refine blk_drewN ?_ _ | refine blk_drew ?_ | refine blk_alloc ?_ _)); refine blk_far ?_ NB101_115.out _; (with_reducible repeat (first | refine blk_drewN ?_ _ | refine blk_drew ?_ | refine blk_alloc ?_ _)); refine blk_far ?_ NB101_115.out _; (with_reducible repeat (first | refine blk_drewN ?_ _ | refine blk_drew ?_ | refine blk_alloc ?_ _)); refine blk_far ?_ NB101_115.out _; (with_reducible repeat (first | refine blk_drewN ?_ _ | refine blk_drew ?_ | refine blk_alloc ?_ _)); exact BK101.out) Try.underlying102 rfl (by kernel_rfl)) rfl ?_
    exact ⟨_, _, qz13, qz462 HO104.out BK115.out BK101.out, qz462 HO107.out BK115.out BK101.out, qz295 HI0.out NB0_101.out NB0_115.out, qz296 HI0.out GE101.out GE115.out, qz421 GW101.out GW115.out⟩
   ·rw [if_neg c33] at H
    have c33b0 : (t116 == 2) = false := beq_eq_false_iff_ne.mpr c33; have c33b1 : (t116 != 2) = true := bne_iff_ne.mpr c33
    by_cases c48 : t116 = 3
    ·rw [if_pos c48] at H
     have c48b0 : (t116 == 3) = true := beq_iff_eq.mpr c48; have c48b1 : (t116 != 3) = false := bne_eq_false_iff_eq.mpr c48; clear c48; replace H := qB H; obtain ⟨⟨t129, t130, t131, t132⟩, A49, H⟩ := H
     try dsimp only at H
     simp only [Option.some.injEq, Prod.mk.injEq] at H
     obtain ⟨rfl, rfl, rfl, rfl, rfl, rfl, rfl, rfl, rfl⟩ := H; go_enter Try.func159, Try.ntmps159
     go_wp2_with (first | ((with_reducible refine gate_dst (N := 2) rfl ?_); refine box_event ?hg (N := 2) ?hd (cs := #[.slice none 0 0, .slice none 0 0, .int .i64 0, .int .i64 0, .int .i64 0, .int .i64 0, .int .i64 0]) (t := 102) ?hr ?_; (case hd => rfl); (case hg => rfl); (case hr => exact qz5); intro gb101 hg w50 hbox hb; have h_ := qA8 (IsS213.below (qz313 HI0.out) hb) (KeepBut.trans qz408 (KeepBut.of_below hb g none) (.inl rfl)) (below_step (qz314 HI0.out) hb) (hbox) ((qz414 : w.heap.size ≤ gb101)) ((Nat.le_trans HW0.out (qz414 : w.heap.size ≤ gb101) : w0.heap.size ≤ gb101)) ((qz415 HI0.out : g ≠ gb101)) ((qz416 HI0.out : gb101 ≠ g)); clear HI0 HK HB; obtain ⟨HI0, HK, HB, BK101, GW101, GE101, NB0_101, NB101_0⟩ := h_; clear hb hbox hg) | ((with_reducible refine gate_callee (f := 228) rfl ?_); refine goesL_ (some 5) rfl rfl Try.func228 (by kernel_rfl) rfl #[.pointer (some ⟨g, 0, none⟩)] rfl qz1 ?_; (with_reducible refine (spec_l01Cur_query.calls k g s0_0 s0_1 s0_2 t102 t105 t108 t109 t110 t111 t112 t113 t114 w0 _ ?side1 ?side2 A2.out).mono ?_); (case side1 => exact qz289 HI0.out NB0_101.out); (case side2 => exact qz290 HI0.out GE101.out); rintro e w51 ⟨v103, v106, rfl, ho0, ho1, hi, hb, hk⟩; refine ⟨_, rfl, ?_⟩; have h_ := qA6 (KeepBut.blk hk (g' := gb101) (o := .cells #[.slice none 0 0, .slice none 0 0, .int .i64 0, .int .i64 0, .int .i64 0, .int .i64 0, .int .i64 0] 102 (0, 0)) (qz8 BK101.out) NB101_0.out (by simp)) (Kd.R_lower ho0 (keep_size (w := w) (g := g) (row := none) (qz417 GW101.out))) (Kd.R_lower ho1 (keep_size (w := w) (g := g) (row := none) (qz417 GW101.out))) (KeepBut.trans (qz417 GW101.out) hk (.inl rfl)) (hb) (hi); clear BK101 HK HB HI0; obtain ⟨BK101, HO104, HO107, HK, HB, HI0⟩ := h_; (try clear hb); (try clear hb2); (try clear hk); (try clear hi); (try clear ho0); (try clear ho1)) | ((with_reducible refine gate_dst (N := 3) rfl ?_); refine box_event ?hg (N := 3) ?hd (cs := #[.slice none 0 0, .slice none 0 0, .int .i64 0, .int .i64 0, .int .i64 0, .int .i64 0, .int .i64 0]) (t := 102) ?hr ?_; (case hd => rfl); (case hg => rfl); (case hr => exact qz5); intro gb115 hg w52 hbox hb; have h_ := qA13 (Kd.R_below (qz21 HO104.out) hb) (Kd.R_below (qz21 HO107.out) hb) (IsS213.below (qz289 HI0.out NB0_101.out) hb) (blk_below (g := gb101) (o := .cells #[.slice none 0 0, .slice none 0 0, .int .i64 0, .int .i64 0, .int .i64 0, .int .i64 0, .int .i64 0] 102 (0, 0)) (qz8 BK101.out) hb) (KeepBut.trans (qz417 GW101.out) (KeepBut.of_below hb g none) (.inl rfl)) (below_step (qz290 HI0.out GE101.out) hb) (hbox) ((qz418 GW101.out : w.heap.size ≤ gb115)) ((Nat.le_trans HW0.out (qz418 GW101.out : w.heap.size ≤ gb115) : w0.heap.size ≤ gb115)) ((qz324 BK101.out : gb101 ≠ gb115)) ((qz325 BK101.out : gb115 ≠ gb101)) ((qz456 HI0.out NB0_101.out : g ≠ gb115)) ((qz457 HI0.out NB0_101.out : gb115 ≠ g)); clear HO104 HO107 HI0 BK101 HK HB; obtain ⟨HO104, HO107, HI0, BK101, HK, HB, BK115, GW115, GE115, NB101_115, NB115_101, NB0_115, NB115_0⟩ := h_; clear hb hbox hg; obtain ⟨Ao53, co53, eo53⟩ := Kd.R_slice HO104.out; subst eo53; have hnb54 := NB115_101.out; have hnc54 := NB101_115.out; have hnb55 := NB115_0.out; have hnc55 := NB0_115.out; obtain ⟨hcz56_0, hcz56_1, hcz56_2, hcz56_3, hcz56_4, hcz56_5, hcz56_6⟩ := qC7 BK115.out; obtain ⟨hfz56_0, hfz56_1, hfz56_2, hfz56_3, hfz56_4, hfz56_5, hfz56_6⟩ := qF7 BK115.out; obtain ⟨Ao57, co57, eo57⟩ := Kd.R_slice HO107.out; subst eo57) | ((with_reducible refine gate_callee (f := 134) rfl ?_); refine goesL_ (some 7) rfl rfl Try.func134 (by kernel_rfl) rfl #[.pointer (some ⟨g, 0, none⟩), .int .i64 12] rfl qz1 ?_; (with_reducible refine (spec_l01Cur_pick.calls g s0_0 t113 t114 12 t116 t117 t118 w0 _ ?side1 ?side2 A3.out).mono ?_); (case side1 => exact qz295 HI0.out NB0_101.out NB0_115.out); (case side2 => exact qz296 HI0.out GE101.out GE115.out); rintro e w58 ⟨rfl, hi, hb, hk⟩; refine ⟨_, rfl, ?_⟩; have h_ := qA7 (KeepBut.blk hk (g' := gb101) (o := .cells #[.slice none 0 0, .slice none 0 0, .int .i64 0, .int .i64 0, .int .i64 0, .int .i64 0, .int .i64 0] 102 (0, 0)) (qz328 NB101_115.out BK101.out) NB101_0.out (by simp)) (Kd.R_mono (Kd.R_keep (IsS213.apart (show IsS213 w0 _ g s0_0 t113 t114 from by repeat (first | (with_reducible first | exact HI0.out | apply IsS213.alloc | apply IsS213.drewN | apply IsS213.drew | apply IsS213.set_1 | apply IsS213.set_2 | refine IsS213.far ?_ NB0_101.out _ | refine IsS213.far ?_ NB0_115.out _) | exact HI0.out)) (qz463 HO104.out BK115.out) (by decide)) hk (fun _ h => h.2)) (fun _ h => h.1)) (Kd.R_mono (Kd.R_keep (IsS213.apart (show IsS213 w0 _ g s0_0 t113 t114 from by repeat (first | (with_reducible first | exact HI0.out | apply IsS213.alloc | apply IsS213.drewN | apply IsS213.drew | apply IsS213.set_1 | apply IsS213.set_2 | refine IsS213.far ?_ NB0_101.out _ | refine IsS213.far ?_ NB0_115.out _) | exact HI0.out)) (qz463 HO107.out BK115.out) (by decide)) hk (fun _ h => h.2)) (fun _ h => h.1)) (KeepBut.blk hk (g' := gb115) (o := .cells #[.slice Ao53 t102.length co53, .slice Ao57 t105.length co57, .int .i64 t108, .int .i64 t109, .int .i64 t110, .int .i64 t111, .int .i64 t112] 102 (0, 0)) (by (with_reducible repeat (first | refine blk_drewN ?_ _ | refine blk_drew ?_ | refine blk_alloc ?_ _)); refine blk_put (cs := #[.slice Ao53 t102.length co53, .slice Ao57 t105.length co57, .int .i64 t108, .int .i64 t109, .int .i64 t110, .int .i64 t111, .int .i64 0]) ?_ 6 _ rfl; (with_reducible repeat (first | refine blk_drewN ?_ _ | refine blk_drew ?_ | refine blk_alloc ?_ _)); refine blk_put (cs := #[.slice Ao53 t102.length co53, .slice Ao57 t105.length co57, .int .i64 t108, .int .i64 t109, .int .i64 t110, .int .i64 0, .int .i64 0]) ?_ 5 _ rfl; (with_reducible repeat (first | refine blk_drewN ?_ _ | refine blk_drew ?_ | refine blk_alloc ?_ _)); refine blk_put (cs := #[.slice Ao53 t102.length co53, .slice Ao57 t105.length co57, .int .i64 t108, .int .i64 t109, .int .i64 0, .int .i64 0, .int .i64 0]) ?_ 4 _ rfl; (with_reducible repeat (first | refine blk_drewN ?_ _ | refine blk_drew ?_ | refine blk_alloc ?_ _)); refine blk_put (cs := #[.slice Ao53 t102.length co53, .slice Ao57 t105.length co57, .int .i64 t108, .int .i64 0, .int .i64 0, .int .i64 0, .int .i64 0]) ?_ 3 _ rfl; (with_reducible repeat (first | refine blk_drewN ?_ _ | refine blk_drew ?_ | refine blk_alloc ?_ _)); refine blk_put (cs := #[.slice Ao53 t102.length co53, .slice Ao57 t105.length co57, .int .i64 0, .int .i64 0, .int .i64 0, .int .i64 0, .int .i64 0]) ?_ 2 _ rfl; (with_reducible repeat (first | refine blk_drewN ?_ _ | refine blk_drew ?_ | refine blk_alloc ?_ _)); refine blk_put (cs := #[.slice Ao53 t102.length co53, .slice none 0 0, .int .i64 0, .int .i64 0, .int .i64 0, .int .i64 0, .int .i64 0]) ?_ 1 _ rfl; (with_reducible repeat (first | refine blk_drewN ?_ _ | refine blk_drew ?_ | refine blk_alloc ?_ _)); refine blk_put (cs := #[.slice none 0 0, .slice none 0 0, .int .i64 0, .int .i64 0, .int .i64 0, .int .i64 0, .int .i64 0]) ?_ 0 _ rfl; (with_reducible repeat (first | refine blk_drewN ?_ _ | refine blk_drew ?_ | refine blk_alloc ?_ _)); exact BK115.out) NB115_0.out (by simp)) (KeepBut.trans (qz421 GW101.out GW115.out) hk (.inl rfl)) (hb) (hi); clear BK101 HO104 HO107 BK115 HK HB HI0; obtain ⟨BK101, HO104, HO107, BK115, HK, HB, HI0⟩ := h_; (try clear hb); (try clear hb2); (try clear hk); (try clear hi)) | ((with_reducible refine gate_callee (f := 235) rfl ?_); refine goesL_ (some 25) rfl rfl Try.func235 (by kernel_rfl) rfl #[.pointer (some ⟨g, 0, none⟩)] rfl qz1 ?_; (with_reducible refine (spec_l01Cur_aggKind.calls k g s0_0 t117 t118 t129 t130 t131 t132 w0 _ ?side1 ?side2 A49.out).mono ?_); (case side1 => exact qz295 HI0.out NB0_101.out NB0_115.out); (case side2 => exact qz296 HI0.out GE101.out GE115.out); rintro e w59 ⟨rfl, hi, hb, hk⟩; refine ⟨_, rfl, ?_⟩; have h_ := qA7 (KeepBut.blk hk (g' := gb101) (o := .cells #[.slice none 0 0, .slice none 0 0, .int .i64 0, .int .i64 0, .int .i64 0, .int .i64 0, .int .i64 0] 102 (0, 0)) (qz8 BK101.out) NB101_0.out (by simp)) (Kd.R_mono (Kd.R_keep (IsS213.apart (show IsS213 w0 _ g s0_0 t117 t118 from by repeat (first | (with_reducible first | exact HI0.out | apply IsS213.alloc | apply IsS213.drewN | apply IsS213.drew | apply IsS213.set_1 | apply IsS213.set_2 | refine IsS213.far ?_ NB0_101.out _ | refine IsS213.far ?_ NB0_115.out _) | exact HI0.out)) (qz21 HO104.out) (by decide)) hk (fun _ h => h.2)) (fun _ h => h.1)) (Kd.R_mono (Kd.R_keep (IsS213.apart (show IsS213 w0 _ g s0_0 t117 t118 from by repeat (first | (with_reducible first | exact HI0.out | apply IsS213.alloc | apply IsS213.drewN | apply IsS213.drew | apply IsS213.set_1 | apply IsS213.set_2 | refine IsS213.far ?_ NB0_101.out _ | refine IsS213.far ?_ NB0_115.out _) | exact HI0.out)) (qz21 HO107.out) (by decide)) hk (fun _ h => h.2)) (fun _ h => h.1)) (KeepBut.blk hk (g' := gb115) (o := .cells #[.slice Ao53 t102.length co53, .slice Ao57 t105.length co57, .int .i64 t108, .int .i64 t109, .int .i64 t110, .int .i64 t111, .int .i64 t112] 102 (0, 0)) (qz8 BK115.out) NB115_0.out (by simp)) (KeepBut.trans (qz421 GW101.out GW115.out) hk (.inl rfl)) (hb) (hi); clear BK101 HO104 HO107 BK115 HK HB HI0; obtain ⟨BK101, HO104, HO107, BK115, HK, HB, HI0⟩ := h_; (try clear hb); (try clear hb2); (try clear hk); (try clear hi); obtain ⟨hcz60_0, hcz60_1, hcz60_2, hcz60_3, hcz60_4, hcz60_5, hcz60_6⟩ := qC7 BK115.out; obtain ⟨hfz60_0, hfz60_1, hfz60_2, hfz60_3, hfz60_4, hfz60_5, hfz60_6⟩ := qF7 BK115.out; have hnb61 := NB101_0.out; have hnc61 := NB0_101.out; obtain ⟨hcz62_0, hcz62_1, hcz62_2, hcz62_3, hcz62_4, hcz62_5, hcz62_6⟩ := qC7 BK101.out; obtain ⟨hfz62_0, hfz62_1, hfz62_2, hfz62_3, hfz62_4, hfz62_5, hfz62_6⟩ := qF7 BK101.out))
     refine bodyPost_ret (results_cell_row rfl _ _ gb101 102 #[.slice Ao53 t102.length co53, .slice Ao57 t105.length co57, .int .i64 t108, .int .i64 t109, .int .i64 t110, .int .i64 t129, .int .i64 t130] (0, 0) _ rfl (by (with_reducible repeat (first | refine blk_drewN ?_ _ | refine blk_drew ?_ | refine blk_alloc ?_ _)); refine blk_put (cs := #[.slice Ao53 t102.length co53, .slice Ao57 t105.length co57, .int .i64 t108, .int .i64 t109, .int .i64 t110, .int .i64 t129, .int .i64 0]) ?_ 6 _ rfl; (with_reducible repeat (first | refine blk_drewN ?_ _ | refine blk_drew ?_ | refine blk_alloc ?_ _)); refine blk_put (cs := #[.slice Ao53 t102.length co53, .slice Ao57 t105.length co57, .int .i64 t108, .int .i64 t109, .int .i64 t110, .int .i64 0, .int .i64 0]) ?_ 5 _ rfl; (with_reducible repeat (first | refine blk_drewN ?_ _ | refine blk_drew ?_ | refine blk_alloc ?_ _)); refine blk_put (cs := #[.slice Ao53 t102.length co53, .slice Ao57 t105.length co57, .int .i64 t108, .int .i64 t109, .int .i64 0, .int .i64 0, .int .i64 0]) ?_ 4 _ rfl; (with_reducible repeat (first | refine blk_drewN ?_ _ | refine blk_drew ?_ | refine blk_alloc ?_ _)); refine blk_put (cs := #[.slice Ao53 t102.length co53, .slice Ao57 t105.length co57, .int .i64 t108, .int .i64 0, .int .i64 0, .int .i64 0, .int .i64 0]) ?_ 3 _ rfl; (with_reducible repeat (first | refine blk_drewN ?_ _ | refine blk_drew ?_ | refine blk_alloc ?_ _)); refine blk_put (cs := #[.slice Ao53 t102.length co53, .slice Ao57 t105.length co57, .int .i64 0, .int .i64 0, .int .i64 0, .int .i64 0, .int .i64 0]) ?_ 2 _ rfl; (with_reducible repeat (first | refine blk_drewN ?_ _ | refine blk_drew ?_ | refine blk_alloc ?_ _)); refine blk_put (cs := #[.slice Ao53 t102.length co53, .slice none 0 0, .int .i64 0, .int .i64 0, .int .i64 0, .int .i64 0, .int .i64 0]) ?_ 1 _ rfl; (with_reducible repeat (first | refine blk_drewN ?_ _ | refine blk_drew ?_ | refine blk_alloc ?_ _)); refine blk_put (cs := #[.slice none 0 0, .slice none 0 0, .int .i64 0, .int .i64 0, .int .i64 0, .int .i64 0, .int .i64 0]) ?_ 0 _ rfl; (with_reducible repeat (first | refine blk_drewN ?_ _ | refine blk_drew ?_ | refine blk_alloc ?_ _)); refine blk_far ?_ NB101_115.out _; (with_reducible repeat (first | refine blk_drewN ?_ _ | refine blk_drew ?_ | refine blk_alloc ?_ _)); refine blk_far ?_ NB101_115.out _; (with_reducible repeat (first | refine blk_drewN ?_ _ | refine blk_drew ?_ | refine blk_alloc ?_ _)); exact BK101.out) Try.underlying102 rfl (by kernel_rfl)) rfl ?_
     exact ⟨_, _, qz13, qz464 HO104.out BK115.out BK101.out, qz464 HO107.out BK115.out BK101.out, qz295 HI0.out NB0_101.out NB0_115.out, qz296 HI0.out GE101.out GE115.out, qz421 GW101.out GW115.out⟩
    ·rw [if_neg c48] at H
     have c48b0 : (t116 == 3) = false := beq_eq_false_iff_ne.mpr c48; have c48b1 : (t116 != 3) = true := bne_iff_ne.mpr c48; simp only [Option.some.injEq, Prod.mk.injEq] at H; obtain ⟨rfl, rfl, rfl, rfl, rfl, rfl, rfl, rfl, rfl⟩ := H; go_enter Try.func159, Try.ntmps159
     go_wp2_with (first | ((with_reducible refine gate_dst (N := 2) rfl ?_); refine box_event ?hg (N := 2) ?hd (cs := #[.slice none 0 0, .slice none 0 0, .int .i64 0, .int .i64 0, .int .i64 0, .int .i64 0, .int .i64 0]) (t := 102) ?hr ?_; (case hd => rfl); (case hg => rfl); (case hr => exact qz5); intro gb101 hg w63 hbox hb; have h_ := qA8 (IsS213.below (qz313 HI0.out) hb) (KeepBut.trans qz408 (KeepBut.of_below hb g none) (.inl rfl)) (below_step (qz314 HI0.out) hb) (hbox) ((qz414 : w.heap.size ≤ gb101)) ((Nat.le_trans HW0.out (qz414 : w.heap.size ≤ gb101) : w0.heap.size ≤ gb101)) ((qz415 HI0.out : g ≠ gb101)) ((qz416 HI0.out : gb101 ≠ g)); clear HI0 HK HB; obtain ⟨HI0, HK, HB, BK101, GW101, GE101, NB0_101, NB101_0⟩ := h_; clear hb hbox hg) | ((with_reducible refine gate_callee (f := 228) rfl ?_); refine goesL_ (some 5) rfl rfl Try.func228 (by kernel_rfl) rfl #[.pointer (some ⟨g, 0, none⟩)] rfl qz1 ?_; (with_reducible refine (spec_l01Cur_query.calls k g s0_0 s0_1 s0_2 t102 t105 t108 t109 t110 t111 t112 t113 t114 w0 _ ?side1 ?side2 A2.out).mono ?_); (case side1 => exact qz289 HI0.out NB0_101.out); (case side2 => exact qz290 HI0.out GE101.out); rintro e w64 ⟨v103, v106, rfl, ho0, ho1, hi, hb, hk⟩; refine ⟨_, rfl, ?_⟩; have h_ := qA6 (KeepBut.blk hk (g' := gb101) (o := .cells #[.slice none 0 0, .slice none 0 0, .int .i64 0, .int .i64 0, .int .i64 0, .int .i64 0, .int .i64 0] 102 (0, 0)) (qz8 BK101.out) NB101_0.out (by simp)) (Kd.R_lower ho0 (keep_size (w := w) (g := g) (row := none) (qz417 GW101.out))) (Kd.R_lower ho1 (keep_size (w := w) (g := g) (row := none) (qz417 GW101.out))) (KeepBut.trans (qz417 GW101.out) hk (.inl rfl)) (hb) (hi); clear BK101 HK HB HI0; obtain ⟨BK101, HO104, HO107, HK, HB, HI0⟩ := h_; (try clear hb); (try clear hb2); (try clear hk); (try clear hi); (try clear ho0); (try clear ho1)) | ((with_reducible refine gate_dst (N := 3) rfl ?_); refine box_event ?hg (N := 3) ?hd (cs := #[.slice none 0 0, .slice none 0 0, .int .i64 0, .int .i64 0, .int .i64 0, .int .i64 0, .int .i64 0]) (t := 102) ?hr ?_; (case hd => rfl); (case hg => rfl); (case hr => exact qz5); intro gb115 hg w65 hbox hb; have h_ := qA13 (Kd.R_below (qz21 HO104.out) hb) (Kd.R_below (qz21 HO107.out) hb) (IsS213.below (qz289 HI0.out NB0_101.out) hb) (blk_below (g := gb101) (o := .cells #[.slice none 0 0, .slice none 0 0, .int .i64 0, .int .i64 0, .int .i64 0, .int .i64 0, .int .i64 0] 102 (0, 0)) (qz8 BK101.out) hb) (KeepBut.trans (qz417 GW101.out) (KeepBut.of_below hb g none) (.inl rfl)) (below_step (qz290 HI0.out GE101.out) hb) (hbox) ((qz418 GW101.out : w.heap.size ≤ gb115)) ((Nat.le_trans HW0.out (qz418 GW101.out : w.heap.size ≤ gb115) : w0.heap.size ≤ gb115)) ((qz324 BK101.out : gb101 ≠ gb115)) ((qz325 BK101.out : gb115 ≠ gb101)) ((qz456 HI0.out NB0_101.out : g ≠ gb115)) ((qz457 HI0.out NB0_101.out : gb115 ≠ g)); clear HO104 HO107 HI0 BK101 HK HB; obtain ⟨HO104, HO107, HI0, BK101, HK, HB, BK115, GW115, GE115, NB101_115, NB115_101, NB0_115, NB115_0⟩ := h_; clear hb hbox hg; obtain ⟨Ao66, co66, eo66⟩ := Kd.R_slice HO104.out; subst eo66; have hnb67 := NB115_101.out; have hnc67 := NB101_115.out; have hnb68 := NB115_0.out; have hnc68 := NB0_115.out; obtain ⟨hcz69_0, hcz69_1, hcz69_2, hcz69_3, hcz69_4, hcz69_5, hcz69_6⟩ := qC7 BK115.out; obtain ⟨hfz69_0, hfz69_1, hfz69_2, hfz69_3, hfz69_4, hfz69_5, hfz69_6⟩ := qF7 BK115.out; obtain ⟨Ao70, co70, eo70⟩ := Kd.R_slice HO107.out; subst eo70) | ((with_reducible refine gate_callee (f := 134) rfl ?_); refine goesL_ (some 7) rfl rfl Try.func134 (by kernel_rfl) rfl #[.pointer (some ⟨g, 0, none⟩), .int .i64 12] rfl qz1 ?_; (with_reducible refine (spec_l01Cur_pick.calls g s0_0 t113 t114 12 t116 t117 t118 w0 _ ?side1 ?side2 A3.out).mono ?_); (case side1 => exact qz295 HI0.out NB0_101.out NB0_115.out); (case side2 => exact qz296 HI0.out GE101.out GE115.out); rintro e w71 ⟨rfl, hi, hb, hk⟩; refine ⟨_, rfl, ?_⟩; have h_ := qA7 (KeepBut.blk hk (g' := gb101) (o := .cells #[.slice none 0 0, .slice none 0 0, .int .i64 0, .int .i64 0, .int .i64 0, .int .i64 0, .int .i64 0] 102 (0, 0)) (qz328 NB101_115.out BK101.out) NB101_0.out (by simp)) (Kd.R_mono (Kd.R_keep (IsS213.apart (show IsS213 w0 _ g s0_0 t113 t114 from by repeat (first | (with_reducible first | exact HI0.out | apply IsS213.alloc | apply IsS213.drewN | apply IsS213.drew | apply IsS213.set_1 | apply IsS213.set_2 | refine IsS213.far ?_ NB0_101.out _ | refine IsS213.far ?_ NB0_115.out _) | exact HI0.out)) (qz465 HO104.out BK115.out) (by decide)) hk (fun _ h => h.2)) (fun _ h => h.1)) (Kd.R_mono (Kd.R_keep (IsS213.apart (show IsS213 w0 _ g s0_0 t113 t114 from by repeat (first | (with_reducible first | exact HI0.out | apply IsS213.alloc | apply IsS213.drewN | apply IsS213.drew | apply IsS213.set_1 | apply IsS213.set_2 | refine IsS213.far ?_ NB0_101.out _ | refine IsS213.far ?_ NB0_115.out _) | exact HI0.out)) (qz465 HO107.out BK115.out) (by decide)) hk (fun _ h => h.2)) (fun _ h => h.1)) (KeepBut.blk hk (g' := gb115) (o := .cells #[.slice Ao66 t102.length co66, .slice Ao70 t105.length co70, .int .i64 t108, .int .i64 t109, .int .i64 t110, .int .i64 t111, .int .i64 t112] 102 (0, 0)) (qz466 BK115.out) NB115_0.out (by simp)) (KeepBut.trans (qz421 GW101.out GW115.out) hk (.inl rfl)) (hb) (hi); clear BK101 HO104 HO107 BK115 HK HB HI0; obtain ⟨BK101, HO104, HO107, BK115, HK, HB, HI0⟩ := h_; (try clear hb); (try clear hb2); (try clear hk); (try clear hi); obtain ⟨hcz72_0, hcz72_1, hcz72_2, hcz72_3, hcz72_4, hcz72_5, hcz72_6⟩ := qC7 BK115.out; obtain ⟨hfz72_0, hfz72_1, hfz72_2, hfz72_3, hfz72_4, hfz72_5, hfz72_6⟩ := qF7 BK115.out; have hnb73 := NB101_0.out; have hnc73 := NB0_101.out; obtain ⟨hcz74_0, hcz74_1, hcz74_2, hcz74_3, hcz74_4, hcz74_5, hcz74_6⟩ := qC7 BK101.out; obtain ⟨hfz74_0, hfz74_1, hfz74_2, hfz74_3, hfz74_4, hfz74_5, hfz74_6⟩ := qF7 BK101.out))
     refine bodyPost_ret (results_cell_row rfl _ _ gb101 102 #[.slice Ao66 t102.length co66, .slice Ao70 t105.length co70, .int .i64 t108, .int .i64 t109, .int .i64 t110, .int .i64 t111, .int .i64 t112] (0, 0) _ rfl (qz466 BK101.out) Try.underlying102 rfl (by kernel_rfl)) rfl ?_
     exact ⟨_, _, qz13, qz467 HO104.out BK101.out, qz467 HO107.out BK101.out, qz295 HI0.out NB0_101.out NB0_115.out, qz296 HI0.out GE101.out GE115.out, qz421 GW101.out GW115.out⟩
/-! ### spec_l01Open: function 116 -/
set_option maxHeartbeats 8000000 in
set_option maxRecDepth 100000 in
theorem spec_l01Open.calls (A0 : Option Addr) (c0 : Nat) (l0 : List Int) (r1 : List Int) (r2 : Int) (r3 : Int) (w0 w : World) (hB : Below w0.heap.size w0 w) (hr0 : Kd.C (Kd.int .u8) w0 A0 l0.length l0) (hc0 : l0.length ≤ c0) (h : spec_l01Open.f l0 = some (r1, r2, r3)) :
  Calls Try.prog 116 #[.slice A0 l0.length c0] w fun e w' => ∃ g_ : Nat, e = .returned (.pointer (some ⟨g_, 0, none⟩)) ∧ IsS213 w0 w' g_ r1 r2 r3 ∧ Below w0.heap.size w0 w' ∧ Below w.heap.size w w' := by
 have hu213 := Try.underlying213
 have HR0 := Aside0.mk hr0
 have HC0 := Aside0.mk hc0
 clear hr0 hc0
 have HBW := Aside0.mk (Below.refl w.heap.size w)
 have HW0 := Aside0.mk hB.size
 have HB := Aside0.mk hB
 clear hB
 have H : (some (l0, 0, 101 + ((l0.length : Int) % 1000))) = some (r1, r2, r3) := h
 clear h
 simp only [Option.some.injEq, Prod.mk.injEq] at H
 obtain ⟨rfl, rfl, rfl⟩ := H
 go_enter Try.func116, Try.ntmps116
 go_wp2_with (first | ((with_reducible refine gate_dst (N := 9) rfl ?_); refine box_event ?hg (N := 9) ?hd (cs := #[.slice A0 l0.length c0, .int .i64 0, .int .i64 (101 + ((l0.length : Int) % 1000))]) (t := 213) ?hr ?_; (case hd => rfl); (case hg => rfl); (case hr => exact qz5); intro gb101 hg w2 hbox hb; have h_ := qA5 (below_step HBW.out hb) (below_step qz6 hb) (hbox) ((qz615 : w.heap.size ≤ gb101)) ((Nat.le_trans HW0.out (qz615 : w.heap.size ≤ gb101) : w0.heap.size ≤ gb101)); clear HBW HB; obtain ⟨HBW, HB, BK101, GW101, GE101⟩ := h_; clear hb hbox hg))
 go_ret
 exact ⟨_, rfl, (show IsS213 w0 _ gb101 l0 0 (101 + ((l0.length : Int) % 1000)) from ⟨_, _, qz8 BK101.out, GE101.out, HR0.out⟩), qz10 GE101.out, by repeat (first | (with_reducible first | exact HBW.out | apply below_alloc | apply pw_below_drewN | apply below_drew1 | refine below_set ?_ GW101.out) | exact HBW.out)⟩
/-! ### spec_DrawQueryTake: function 67 -/
set_option maxHeartbeats 8000000 in
set_option maxRecDepth 100000 in
theorem spec_DrawQueryTake.calls (k : Nat) (A0 : Option Addr) (c0 : Nat) (l0 : List Int) (r1 : List (S231)) (r2 : List (S231)) (r3 : Int) (r4 : Int) (r5 : Int) (r6 : Int) (r7 : Int) (r8 : Int) (r9 : Int) (r10 : Int) (r11 : Int) (w : World) (hr0 : Kd.C (Kd.int .u8) w A0 l0.length l0) (hc0 : l0.length ≤ c0) (h : spec_DrawQueryTake.f k l0 = some (r1, r2, r3, r4, r5, r6, r7, r8, r9, r10, r11)) :
  Calls Try.prog 67 #[.slice A0 l0.length c0] w fun e w' => ∃ v0_ v1_ : Value, e = .returned (.tuple #[.agg #[v0_, v1_, .int .i64 r3, .int .i64 r4, .int .i64 r5, .int .i64 r6, .int .i64 r7], .agg #[.int .i64 r8, .int .i64 r9, .int .i64 r10, .int .i64 r11]]) ∧ Kd.R k231 231 w' w.heap.size (fun k_ => some k_ ≠ (v1_ : Value).ownBlock) v0_ r1 ∧ Kd.R k231 231 w' w.heap.size (fun k_ => some k_ ≠ (v0_ : Value).ownBlock) v1_ r2 ∧ Below w.heap.size w w' := by
 have hu102 := Try.underlying102
 have hu75 := Try.underlying75
 have HR0 := Aside0.mk hr0
 have HC0 := Aside0.mk hc0
 clear hr0 hc0
 have HB := Aside0.mk (Below.refl w.heap.size w)
 have H : ((spec_l01Open.f l0).bind fun bt103 => ((spec_l01Cur_badQuery.f k bt103.1 bt103.2.1 bt103.2.2).bind fun bt107 => ((spec_l01Cur_badElem.f bt103.1 bt107.2.2.2.2.2.2.2.1 bt107.2.2.2.2.2.2.2.2).bind fun bt121 => (some (bt107.1, bt107.2.1, bt107.2.2.1, bt107.2.2.2.1, bt107.2.2.2.2.1, bt107.2.2.2.2.2.1, bt107.2.2.2.2.2.2.1, bt121.1, bt121.2.1, bt121.2.2.1, bt121.2.2.2.1))))) = some (r1, r2, r3, r4, r5, r6, r7, r8, r9, r10, r11) := h
 clear h
 replace H := qB H
 obtain ⟨⟨t103, t104, t105⟩, A2, H⟩ := H
 try dsimp only at H
 replace H := qB H
 obtain ⟨⟨t107, t110, t113, t114, t115, t116, t117, t118, t119⟩, A3, H⟩ := H
 try dsimp only at H
 replace H := qB H
 obtain ⟨⟨t121, t122, t123, t124, t125, t126⟩, A4, H⟩ := H
 try dsimp only at H
 simp only [Option.some.injEq, Prod.mk.injEq] at H
 obtain ⟨rfl, rfl, rfl, rfl, rfl, rfl, rfl, rfl, rfl, rfl, rfl⟩ := H
 go_enter Try.func67, Try.ntmps67
 try go_wp2_with (first | ((with_reducible refine gate_dst (N := 2) rfl ?_); refine box_event ?hg (N := 2) ?hd (cs := #[.slice none 0 0, .slice none 0 0, .int .i64 0, .int .i64 0, .int .i64 0, .int .i64 0, .int .i64 0]) (t := 102) ?hr ?_; (case hd => rfl); (case hg => rfl); (case hr => exact qz5); intro gb101 hg w5 hbox hb; have h_ := qA4 (below_step qz6 hb) (hbox) ((qz7 : w.heap.size ≤ gb101)) ((qz7 : w.heap.size ≤ gb101)); clear HB; obtain ⟨HB, BK101, GW101, GE101⟩ := h_; clear hb hbox hg) | ((with_reducible refine gate_dst (N := 3) rfl ?_); refine box_event ?hg (N := 3) ?hd (cs := #[.int .i64 0, .int .i64 0, .int .i64 0, .int .i64 0]) (t := 75) ?hr ?_; (case hd => rfl); (case hg => rfl); (case hr => exact qz5); intro gb102 hg w6 hbox hb; have h_ := qA7 (blk_below (g := gb101) (o := .cells #[.slice none 0 0, .slice none 0 0, .int .i64 0, .int .i64 0, .int .i64 0, .int .i64 0, .int .i64 0] 102 (0, 0)) (qz8 BK101.out) hb) (below_step (qz10 GE101.out) hb) (hbox) ((qz38 GE101.out : w.heap.size ≤ gb102)) ((qz38 GE101.out : w.heap.size ≤ gb102)) ((qz324 BK101.out : gb101 ≠ gb102)) ((qz325 BK101.out : gb102 ≠ gb101)); clear BK101 HB; obtain ⟨BK101, HB, BK102, GW102, GE102, NB101_102, NB102_101⟩ := h_; clear hb hbox hg) | ((with_reducible refine gate_callee (f := 116) rfl ?_); refine goesL_ (some 7) rfl rfl Try.func116 (by kernel_rfl) rfl #[.slice A0 l0.length c0] rfl qz1 ?_; (with_reducible refine (spec_l01Open.calls _ _ l0 t103 t104 t105 w _ ?side1 ?side2 ?side3 A2.out).mono ?_); (case side1 => exact qz43 GE101.out GE102.out); (case side2 => exact HR0.out); (case side3 => exact HC0.out); rintro e w7 ⟨g106, rfl, hi, hb, hb2⟩; refine ⟨_, rfl, ?_⟩; have h_ := qA8 (blk_below (g := gb101) (o := .cells #[.slice none 0 0, .slice none 0 0, .int .i64 0, .int .i64 0, .int .i64 0, .int .i64 0, .int .i64 0] 102 (0, 0)) (qz8 BK101.out) hb2) (blk_below (g := gb102) (o := .cells #[.int .i64 0, .int .i64 0, .int .i64 0, .int .i64 0] 75 (0, 0)) (qz8 BK102.out) hb2) (hb) (hi) (IsS213.ne_blk hi (blk_below (g := gb101) (o := .cells #[.slice none 0 0, .slice none 0 0, .int .i64 0, .int .i64 0, .int .i64 0, .int .i64 0, .int .i64 0] 102 (0, 0)) (qz8 BK101.out) hb2) (by decide)) (Ne.symm (IsS213.ne_blk hi (blk_below (g := gb101) (o := .cells #[.slice none 0 0, .slice none 0 0, .int .i64 0, .int .i64 0, .int .i64 0, .int .i64 0, .int .i64 0] 102 (0, 0)) (qz8 BK101.out) hb2) (by decide))) (IsS213.ne_blk hi (blk_below (g := gb102) (o := .cells #[.int .i64 0, .int .i64 0, .int .i64 0, .int .i64 0] 75 (0, 0)) (qz8 BK102.out) hb2) (by decide)) (Ne.symm (IsS213.ne_blk hi (blk_below (g := gb102) (o := .cells #[.int .i64 0, .int .i64 0, .int .i64 0, .int .i64 0] 75 (0, 0)) (qz8 BK102.out) hb2) (by decide))); clear BK101 BK102 HB; obtain ⟨BK101, BK102, HB, HI106, NB106_101, NB101_106, NB106_102, NB102_106⟩ := h_; (try clear hb); (try clear hb2); (try clear hk); (try clear hi)) | ((with_reducible refine gate_callee (f := 159) rfl ?_); refine goesL_ (some 9) rfl rfl Try.func159 (by kernel_rfl) rfl #[.pointer (some ⟨g106, 0, none⟩)] rfl qz1 ?_; (with_reducible refine (spec_l01Cur_badQuery.calls k g106 t103 t104 t105 t107 t110 t113 t114 t115 t116 t117 t118 t119 w _ ?side1 ?side2 A3.out).mono ?_); (case side1 => exact qz295 HI106.out NB106_101.out NB106_102.out); (case side2 => exact qz296 HI106.out GE101.out GE102.out); rintro e w8 ⟨v108, v111, rfl, ho0, ho1, hi, hb, hk⟩; refine ⟨_, rfl, ?_⟩; have h_ := qA6 (KeepBut.blk hk (g' := gb101) (o := .cells #[.slice none 0 0, .slice none 0 0, .int .i64 0, .int .i64 0, .int .i64 0, .int .i64 0, .int .i64 0] 102 (0, 0)) (qz8 BK101.out) NB101_106.out (by simp)) (KeepBut.blk hk (g' := gb102) (o := .cells #[.int .i64 0, .int .i64 0, .int .i64 0, .int .i64 0] 75 (0, 0)) (qz8 BK102.out) NB102_106.out (by simp)) (Kd.R_lower ho0 (below_size (qz296 HI106.out GE101.out GE102.out))) (Kd.R_lower ho1 (below_size (qz296 HI106.out GE101.out GE102.out))) (hb) (hi); clear BK101 BK102 HB HI106; obtain ⟨BK101, BK102, HO109, HO112, HB, HI106⟩ := h_; (try clear hb); (try clear hb2); (try clear hk); (try clear hi); (try clear ho0); (try clear ho1)) | ((with_reducible refine gate_dst (N := 5) rfl ?_); refine box_event ?hg (N := 5) ?hd (cs := #[.slice none 0 0, .slice none 0 0, .int .i64 0, .int .i64 0, .int .i64 0, .int .i64 0, .int .i64 0]) (t := 102) ?hr ?_; (case hd => rfl); (case hg => rfl); (case hr => exact qz5); intro gb120 hg w9 hbox hb; have h_ := qA15 (Kd.R_below (qz21 HO109.out) hb) (Kd.R_below (qz21 HO112.out) hb) (blk_below (g := gb101) (o := .cells #[.slice none 0 0, .slice none 0 0, .int .i64 0, .int .i64 0, .int .i64 0, .int .i64 0, .int .i64 0] 102 (0, 0)) (qz8 BK101.out) hb) (blk_below (g := gb102) (o := .cells #[.int .i64 0, .int .i64 0, .int .i64 0, .int .i64 0] 75 (0, 0)) (qz8 BK102.out) hb) (IsS213.below (qz295 HI106.out NB106_101.out NB106_102.out) hb) (below_step (qz296 HI106.out GE101.out GE102.out) hb) (hbox) ((qz326 HI106.out GE101.out GE102.out : w.heap.size ≤ gb120)) ((qz326 HI106.out GE101.out GE102.out : w.heap.size ≤ gb120)) ((qz324 BK101.out : gb101 ≠ gb120)) ((qz325 BK101.out : gb120 ≠ gb101)) ((qz211 BK102.out : gb102 ≠ gb120)) ((qz212 BK102.out : gb120 ≠ gb102)) ((by rw [hg]; exact Nat.ne_of_lt (IsS213.lt (show IsS213 w _ g106 t103 t118 t119 from by repeat (first | (with_reducible first | exact HI106.out | apply IsS213.alloc | apply IsS213.drewN | apply IsS213.drew | apply IsS213.set_1 | apply IsS213.set_2 | refine IsS213.far ?_ NB106_101.out _ | refine IsS213.far ?_ NB106_102.out _) | exact HI106.out))) : g106 ≠ gb120)) ((by rw [hg]; exact Nat.ne_of_gt (IsS213.lt (show IsS213 w _ g106 t103 t118 t119 from by repeat (first | (with_reducible first | exact HI106.out | apply IsS213.alloc | apply IsS213.drewN | apply IsS213.drew | apply IsS213.set_1 | apply IsS213.set_2 | refine IsS213.far ?_ NB106_101.out _ | refine IsS213.far ?_ NB106_102.out _) | exact HI106.out))) : gb120 ≠ g106)); clear HO109 HO112 BK101 BK102 HI106 HB; obtain ⟨HO109, HO112, BK101, BK102, HI106, HB, BK120, GW120, GE120, NB101_120, NB120_101, NB102_120, NB120_102, NB106_120, NB120_106⟩ := h_; clear hb hbox hg; obtain ⟨Ao10, co10, eo10⟩ := Kd.R_slice HO109.out; subst eo10; have hnb11 := NB120_101.out; have hnc11 := NB101_120.out; have hnb12 := NB120_102.out; have hnc12 := NB102_120.out; have hnb13 := NB120_106.out; have hnc13 := NB106_120.out; obtain ⟨hcz14_0, hcz14_1, hcz14_2, hcz14_3, hcz14_4, hcz14_5, hcz14_6⟩ := qC7 BK120.out; obtain ⟨hfz14_0, hfz14_1, hfz14_2, hfz14_3, hfz14_4, hfz14_5, hfz14_6⟩ := qF7 BK120.out; obtain ⟨Ao15, co15, eo15⟩ := Kd.R_slice HO112.out; subst eo15))
 have n0_ : Aside0 (Kd.R k231 231 (((((((w9.setCell ⟨gb120, 0, none⟩ (.slice Ao10 t107.length co10)).setCell ⟨gb120, 1, none⟩ (.slice Ao15 t110.length co15)).setCell ⟨gb120, 2, none⟩ (.int .i64 t113)).setCell ⟨gb120, 3, none⟩ (.int .i64 t114)).setCell ⟨gb120, 4, none⟩ (.int .i64 t115)).setCell ⟨gb120, 5, none⟩ (.int .i64 t116)).setCell ⟨gb120, 6, none⟩ (.int .i64 t117)) w.heap.size (fun k_ => some k_ ≠ (.slice Ao15 t110.length co15 : Value).ownBlock) (.slice Ao10 t107.length co10) t107) := ⟨qz327 HO109.out BK120.out⟩
 have n1_ : Aside0 (Kd.R k231 231 (((((((w9.setCell ⟨gb120, 0, none⟩ (.slice Ao10 t107.length co10)).setCell ⟨gb120, 1, none⟩ (.slice Ao15 t110.length co15)).setCell ⟨gb120, 2, none⟩ (.int .i64 t113)).setCell ⟨gb120, 3, none⟩ (.int .i64 t114)).setCell ⟨gb120, 4, none⟩ (.int .i64 t115)).setCell ⟨gb120, 5, none⟩ (.int .i64 t116)).setCell ⟨gb120, 6, none⟩ (.int .i64 t117)) w.heap.size (fun k_ => some k_ ≠ (.slice Ao10 t107.length co10 : Value).ownBlock) (.slice Ao15 t110.length co15) t110) := ⟨qz327 HO112.out BK120.out⟩
 have n2_ : Aside0 ((((((((w9.setCell ⟨gb120, 0, none⟩ (.slice Ao10 t107.length co10)).setCell ⟨gb120, 1, none⟩ (.slice Ao15 t110.length co15)).setCell ⟨gb120, 2, none⟩ (.int .i64 t113)).setCell ⟨gb120, 3, none⟩ (.int .i64 t114)).setCell ⟨gb120, 4, none⟩ (.int .i64 t115)).setCell ⟨gb120, 5, none⟩ (.int .i64 t116)).setCell ⟨gb120, 6, none⟩ (.int .i64 t117)).heap[gb101]? = some (.cells #[.slice none 0 0, .slice none 0 0, .int .i64 0, .int .i64 0, .int .i64 0, .int .i64 0, .int .i64 0] 102 (0, 0))) := ⟨qz328 NB101_120.out BK101.out⟩
 have n3_ : Aside0 ((((((((w9.setCell ⟨gb120, 0, none⟩ (.slice Ao10 t107.length co10)).setCell ⟨gb120, 1, none⟩ (.slice Ao15 t110.length co15)).setCell ⟨gb120, 2, none⟩ (.int .i64 t113)).setCell ⟨gb120, 3, none⟩ (.int .i64 t114)).setCell ⟨gb120, 4, none⟩ (.int .i64 t115)).setCell ⟨gb120, 5, none⟩ (.int .i64 t116)).setCell ⟨gb120, 6, none⟩ (.int .i64 t117)).heap[gb102]? = some (.cells #[.int .i64 0, .int .i64 0, .int .i64 0, .int .i64 0] 75 (0, 0))) := ⟨qz328 NB102_120.out BK102.out⟩
 have n4_ : Aside0 ((((((((w9.setCell ⟨gb120, 0, none⟩ (.slice Ao10 t107.length co10)).setCell ⟨gb120, 1, none⟩ (.slice Ao15 t110.length co15)).setCell ⟨gb120, 2, none⟩ (.int .i64 t113)).setCell ⟨gb120, 3, none⟩ (.int .i64 t114)).setCell ⟨gb120, 4, none⟩ (.int .i64 t115)).setCell ⟨gb120, 5, none⟩ (.int .i64 t116)).setCell ⟨gb120, 6, none⟩ (.int .i64 t117)).heap[gb120]? = some (.cells #[.slice Ao10 t107.length co10, .slice Ao15 t110.length co15, .int .i64 t113, .int .i64 t114, .int .i64 t115, .int .i64 t116, .int .i64 t117] 102 (0, 0))) := ⟨by (with_reducible repeat (first | refine blk_drewN ?_ _ | refine blk_drew ?_ | refine blk_alloc ?_ _)); refine blk_put (cs := #[.slice Ao10 t107.length co10, .slice Ao15 t110.length co15, .int .i64 t113, .int .i64 t114, .int .i64 t115, .int .i64 t116, .int .i64 0]) ?_ 6 _ rfl; (with_reducible repeat (first | refine blk_drewN ?_ _ | refine blk_drew ?_ | refine blk_alloc ?_ _)); refine blk_put (cs := #[.slice Ao10 t107.length co10, .slice Ao15 t110.length co15, .int .i64 t113, .int .i64 t114, .int .i64 t115, .int .i64 0, .int .i64 0]) ?_ 5 _ rfl; (with_reducible repeat (first | refine blk_drewN ?_ _ | refine blk_drew ?_ | refine blk_alloc ?_ _)); refine blk_put (cs := #[.slice Ao10 t107.length co10, .slice Ao15 t110.length co15, .int .i64 t113, .int .i64 t114, .int .i64 0, .int .i64 0, .int .i64 0]) ?_ 4 _ rfl; (with_reducible repeat (first | refine blk_drewN ?_ _ | refine blk_drew ?_ | refine blk_alloc ?_ _)); refine blk_put (cs := #[.slice Ao10 t107.length co10, .slice Ao15 t110.length co15, .int .i64 t113, .int .i64 0, .int .i64 0, .int .i64 0, .int .i64 0]) ?_ 3 _ rfl; (with_reducible repeat (first | refine blk_drewN ?_ _ | refine blk_drew ?_ | refine blk_alloc ?_ _)); refine blk_put (cs := #[.slice Ao10 t107.length co10, .slice Ao15 t110.length co15, .int .i64 0, .int .i64 0, .int .i64 0, .int .i64 0, .int .i64 0]) ?_ 2 _ rfl; (with_reducible repeat (first | refine blk_drewN ?_ _ | refine blk_drew ?_ | refine blk_alloc ?_ _)); refine blk_put (cs := #[.slice Ao10 t107.length co10, .slice none 0 0, .int .i64 0, .int .i64 0, .int .i64 0, .int .i64 0, .int .i64 0]) ?_ 1 _ rfl; (with_reducible repeat (first | refine blk_drewN ?_ _ | refine blk_drew ?_ | refine blk_alloc ?_ _)); refine blk_put (cs := #[.slice none 0 0, .slice none 0 0, .int .i64 0, .int .i64 0, .int .i64 0, .int .i64 0, .int .i64 0]) ?_ 0 _ rfl; (with_reducible repeat (first | refine blk_drewN ?_ _ | refine blk_drew ?_ | refine blk_alloc ?_ _)); exact BK120.out⟩
 have n5_ : Aside0 (IsS213 w (((((((w9.setCell ⟨gb120, 0, none⟩ (.slice Ao10 t107.length co10)).setCell ⟨gb120, 1, none⟩ (.slice Ao15 t110.length co15)).setCell ⟨gb120, 2, none⟩ (.int .i64 t113)).setCell ⟨gb120, 3, none⟩ (.int .i64 t114)).setCell ⟨gb120, 4, none⟩ (.int .i64 t115)).setCell ⟨gb120, 5, none⟩ (.int .i64 t116)).setCell ⟨gb120, 6, none⟩ (.int .i64 t117)) g106 t103 t118 t119) := ⟨qz329 HI106.out NB106_101.out NB106_102.out NB106_120.out⟩
 have n6_ : Aside0 (Below w.heap.size w (((((((w9.setCell ⟨gb120, 0, none⟩ (.slice Ao10 t107.length co10)).setCell ⟨gb120, 1, none⟩ (.slice Ao15 t110.length co15)).setCell ⟨gb120, 2, none⟩ (.int .i64 t113)).setCell ⟨gb120, 3, none⟩ (.int .i64 t114)).setCell ⟨gb120, 4, none⟩ (.int .i64 t115)).setCell ⟨gb120, 5, none⟩ (.int .i64 t116)).setCell ⟨gb120, 6, none⟩ (.int .i64 t117))) := ⟨qz330 HI106.out GE101.out GE102.out GE120.out⟩
 (try clear HO109)
 (try clear HO112)
 (try clear BK101)
 (try clear BK102)
 (try clear BK120)
 (try clear HI106)
 (try clear HB)
 generalize (((((((w9.setCell ⟨gb120, 0, none⟩ (.slice Ao10 t107.length co10)).setCell ⟨gb120, 1, none⟩ (.slice Ao15 t110.length co15)).setCell ⟨gb120, 2, none⟩ (.int .i64 t113)).setCell ⟨gb120, 3, none⟩ (.int .i64 t114)).setCell ⟨gb120, 4, none⟩ (.int .i64 t115)).setCell ⟨gb120, 5, none⟩ (.int .i64 t116)).setCell ⟨gb120, 6, none⟩ (.int .i64 t117)) = w16 at n0_ n1_ n2_ n3_ n4_ n5_ n6_ ⊢
 have HO109 := n0_
 have HO112 := n1_
 have BK101 := n2_
 have BK102 := n3_
 have BK120 := n4_
 have HI106 := n5_
 have HB := n6_
 clear n0_ n1_ n2_ n3_ n4_ n5_ n6_
 have h_ := qA7 (Kd.R_drew HO109.out) (Kd.R_drew HO112.out) (blk_drew BK101.out) (blk_drew BK102.out) (blk_drew BK120.out) (IsS213.drew HI106.out) (below_drew1 HB.out)
 clear HO109 HO112 BK101 BK102 BK120 HI106 HB
 obtain ⟨HO109, HO112, BK101, BK102, BK120, HI106, HB⟩ := h_
 refine start_ (n := 5) (S := fun w' => w'.cell? ⟨gb120, 0, none⟩ = some (.slice Ao10 t107.length co10) ∧ w'.cell? ⟨gb120, 1, none⟩ = some (.slice Ao15 t110.length co15) ∧ w'.cell? ⟨gb120, 2, none⟩ = some (.int .i64 t113) ∧ w'.cell? ⟨gb120, 3, none⟩ = some (.int .i64 t114) ∧ w'.cell? ⟨gb120, 4, none⟩ = some (.int .i64 t115) ∧ w'.cell? ⟨gb120, 5, none⟩ = some (.int .i64 t116) ∧ w'.cell? ⟨gb120, 6, none⟩ = some (.int .i64 t117)) (ds := []) #[false, false, false, false, false] (by kernel_rfl) rfl rfl ⟨(blk_cell BK120.out 0).trans rfl, (blk_cell BK120.out 1).trans rfl, (blk_cell BK120.out 2).trans rfl, (blk_cell BK120.out 3).trans rfl, (blk_cell BK120.out 4).trans rfl, (blk_cell BK120.out 5).trans rfl, (blk_cell BK120.out 6).trans rfl⟩ (fun hHeld => ?_)
 generalize w16.drew = w17 at HO109 HO112 BK101 BK102 BK120 HI106 HB hHeld ⊢
 refine pure_ (i := 1) (N := some 11) (v := ?_) (a' := ?_) #[false, true, false, false, false] rfl rfl (by kernel_rfl) (fun _ _ _ h => h) (Or.inl ⟨by rfl, ?_⟩) ?_ ?_
 rotate_left
 ·intro w'
  go_simp
  with_reducible rfl
 rotate_left
 ·simp only [Act.put, List.setIfInBounds_toArray, List.set_cons_zero, List.set_cons_succ, i64_w, i32_w]
  rfl
 refine take_ (i := 0) (N := some 10) (v := ?_) (a' := ?_) #[true, true, false, false, false] rfl rfl (by kernel_rfl) (fun _ _ _ h => h) (Or.inl ⟨by rfl, ?_⟩) hHeld ?_ ?_
 rotate_left
 ·rintro w' ⟨s0, s1, s2, s3, s4, s5, s6⟩
  go_simp
  with_reducible rfl
 rotate_left
 ·simp only [Act.put, List.setIfInBounds_toArray, List.set_cons_zero, List.set_cons_succ, i64_w, i32_w]
  rfl
 refine one_ (i := 2) (N := some 12) #[true, true, true, false, false] rfl rfl (by kernel_rfl) (by decide) (fun K hK => ?_)
 refine goes_ Try.func160 (by kernel_rfl) rfl #[.pointer (some ⟨g106, 0, none⟩)] (by rfl) rfl rfl qz1 ?_
 with_reducible refine (spec_l01Cur_badElem.calls g106 t103 t118 t119 t121 t122 t123 t124 t125 t126 w _ ?side1 ?side2 A4.out).mono ?_
 (case side1 => exact qz329 HI106.out NB106_101.out NB106_102.out NB106_120.out)
 (case side2 => exact qz330 HI106.out GE101.out GE102.out GE120.out)
 rintro e w18 ⟨rfl, hi, hb, hk⟩
 refine ⟨_, rfl, ?_⟩
 have h_ := qA7 (KeepBut.blk hk (g' := gb101) (o := .cells #[.slice none 0 0, .slice none 0 0, .int .i64 0, .int .i64 0, .int .i64 0, .int .i64 0, .int .i64 0] 102 (0, 0)) (qz8 BK101.out) NB101_106.out (by simp)) (KeepBut.blk hk (g' := gb102) (o := .cells #[.int .i64 0, .int .i64 0, .int .i64 0, .int .i64 0] 75 (0, 0)) (qz8 BK102.out) NB102_106.out (by simp)) (Kd.R_mono (Kd.R_keep (IsS213.apart (show IsS213 w _ g106 t103 t118 t119 from by repeat (first | (with_reducible first | exact HI106.out | apply IsS213.alloc | apply IsS213.drewN | apply IsS213.drew | apply IsS213.set_1 | apply IsS213.set_2 | refine IsS213.far ?_ NB106_101.out _ | refine IsS213.far ?_ NB106_102.out _ | refine IsS213.far ?_ NB106_120.out _) | exact HI106.out)) (qz21 HO109.out) (by decide)) hk (fun _ h => h.2)) (fun _ h => h.1)) (Kd.R_mono (Kd.R_keep (IsS213.apart (show IsS213 w _ g106 t103 t118 t119 from by repeat (first | (with_reducible first | exact HI106.out | apply IsS213.alloc | apply IsS213.drewN | apply IsS213.drew | apply IsS213.set_1 | apply IsS213.set_2 | refine IsS213.far ?_ NB106_101.out _ | refine IsS213.far ?_ NB106_102.out _ | refine IsS213.far ?_ NB106_120.out _) | exact HI106.out)) (qz21 HO112.out) (by decide)) hk (fun _ h => h.2)) (fun _ h => h.1)) (KeepBut.blk hk (g' := gb120) (o := .cells #[.slice Ao10 t107.length co10, .slice Ao15 t110.length co15, .int .i64 t113, .int .i64 t114, .int .i64 t115, .int .i64 t116, .int .i64 t117] 102 (0, 0)) (qz8 BK120.out) NB120_106.out (by simp)) (hb) (hi)
 clear BK101 BK102 HO109 HO112 BK120 HB HI106
 obtain ⟨BK101, BK102, HO109, HO112, BK120, HB, HI106⟩ := h_
 (try clear hb)
 (try clear hb2)
 (try clear hk)
 (try clear hi)
 refine hK.out _ _ ⟨(blk_cell BK120.out 0).trans rfl, (blk_cell BK120.out 1).trans rfl, (blk_cell BK120.out 2).trans rfl, (blk_cell BK120.out 3).trans rfl, (blk_cell BK120.out 4).trans rfl, (blk_cell BK120.out 5).trans rfl, (blk_cell BK120.out 6).trans rfl⟩ (fun hHeld => ?_)
 clear hK K
 refine norm_ (a' := ?_) ?_ ?_
 rotate_left
 ·show Act.put _ (some 12) _ = _
  simp only [Act.put, List.setIfInBounds_toArray, List.set_cons_zero, List.set_cons_succ, i64_w, i32_w]
  rfl
 refine one_ (i := 3) (N := none) #[true, true, true, true, false] rfl rfl (by kernel_rfl) (by decide) (fun K hK => ?_)
 have hs19 : w18.cell? ⟨gb101, 0, none⟩ = some (.slice none 0 0) := (blk_cell BK101.out 0).trans rfl
 have hfs19 := blk_frozen BK101.out 0
 have hns19_1 := NB102_101.out
 have hns19_2 := NB120_101.out
 have hms19_1 := NB101_102.out
 have hms19_2 := NB101_120.out
 have hs20 : w18.cell? ⟨gb101, 1, none⟩ = some (.slice none 0 0) := (blk_cell BK101.out 1).trans rfl
 have hfs20 := blk_frozen BK101.out 1
 have hns20_1 := NB102_101.out
 have hns20_2 := NB120_101.out
 have hms20_1 := NB101_102.out
 have hms20_2 := NB101_120.out
 have hs21 : w18.cell? ⟨gb101, 2, none⟩ = some (.int .i64 0) := (blk_cell BK101.out 2).trans rfl
 have hfs21 := blk_frozen BK101.out 2
 have hns21_1 := NB102_101.out
 have hns21_2 := NB120_101.out
 have hms21_1 := NB101_102.out
 have hms21_2 := NB101_120.out
 have hs22 : w18.cell? ⟨gb101, 3, none⟩ = some (.int .i64 0) := (blk_cell BK101.out 3).trans rfl
 have hfs22 := blk_frozen BK101.out 3
 have hns22_1 := NB102_101.out
 have hns22_2 := NB120_101.out
 have hms22_1 := NB101_102.out
 have hms22_2 := NB101_120.out
 have hs23 : w18.cell? ⟨gb101, 4, none⟩ = some (.int .i64 0) := (blk_cell BK101.out 4).trans rfl
 have hfs23 := blk_frozen BK101.out 4
 have hns23_1 := NB102_101.out
 have hns23_2 := NB120_101.out
 have hms23_1 := NB101_102.out
 have hms23_2 := NB101_120.out
 have hs24 : w18.cell? ⟨gb101, 5, none⟩ = some (.int .i64 0) := (blk_cell BK101.out 5).trans rfl
 have hfs24 := blk_frozen BK101.out 5
 have hns24_1 := NB102_101.out
 have hns24_2 := NB120_101.out
 have hms24_1 := NB101_102.out
 have hms24_2 := NB101_120.out
 have hs25 : w18.cell? ⟨gb101, 6, none⟩ = some (.int .i64 0) := (blk_cell BK101.out 6).trans rfl
 have hfs25 := blk_frozen BK101.out 6
 have hns25_1 := NB102_101.out
 have hns25_2 := NB120_101.out
 have hms25_1 := NB101_102.out
 have hms25_2 := NB101_120.out
 refine skip_ (w1 := ?_) ?sa ?sb ?_ ?_
 (case sa => rfl)
 (case sb => rfl)
 rotate_left
 ·go_simp
  rfl
 refine hK.out _ _ ⟨((cell_far (p := ⟨gb101, _, none⟩) NB120_101.out _).trans (((cell_far (p := ⟨gb101, _, none⟩) NB120_101.out _).trans (((cell_far (p := ⟨gb101, _, none⟩) NB120_101.out _).trans (((cell_far (p := ⟨gb101, _, none⟩) NB120_101.out _).trans (((cell_far (p := ⟨gb101, _, none⟩) NB120_101.out _).trans (((cell_far (p := ⟨gb101, _, none⟩) NB120_101.out _).trans (((cell_far (p := ⟨gb101, _, none⟩) NB120_101.out _).trans (hHeld.1)))))))))))))), ((cell_far (p := ⟨gb101, _, none⟩) NB120_101.out _).trans (((cell_far (p := ⟨gb101, _, none⟩) NB120_101.out _).trans (((cell_far (p := ⟨gb101, _, none⟩) NB120_101.out _).trans (((cell_far (p := ⟨gb101, _, none⟩) NB120_101.out _).trans (((cell_far (p := ⟨gb101, _, none⟩) NB120_101.out _).trans (((cell_far (p := ⟨gb101, _, none⟩) NB120_101.out _).trans (((cell_far (p := ⟨gb101, _, none⟩) NB120_101.out _).trans (hHeld.2.1)))))))))))))), ((cell_far (p := ⟨gb101, _, none⟩) NB120_101.out _).trans (((cell_far (p := ⟨gb101, _, none⟩) NB120_101.out _).trans (((cell_far (p := ⟨gb101, _, none⟩) NB120_101.out _).trans (((cell_far (p := ⟨gb101, _, none⟩) NB120_101.out _).trans (((cell_far (p := ⟨gb101, _, none⟩) NB120_101.out _).trans (((cell_far (p := ⟨gb101, _, none⟩) NB120_101.out _).trans (((cell_far (p := ⟨gb101, _, none⟩) NB120_101.out _).trans (hHeld.2.2.1)))))))))))))), ((cell_far (p := ⟨gb101, _, none⟩) NB120_101.out _).trans (((cell_far (p := ⟨gb101, _, none⟩) NB120_101.out _).trans (((cell_far (p := ⟨gb101, _, none⟩) NB120_101.out _).trans (((cell_far (p := ⟨gb101, _, none⟩) NB120_101.out _).trans (((cell_far (p := ⟨gb101, _, none⟩) NB120_101.out _).trans (((cell_far (p := ⟨gb101, _, none⟩) NB120_101.out _).trans (((cell_far (p := ⟨gb101, _, none⟩) NB120_101.out _).trans (hHeld.2.2.2.1)))))))))))))), ((cell_far (p := ⟨gb101, _, none⟩) NB120_101.out _).trans (((cell_far (p := ⟨gb101, _, none⟩) NB120_101.out _).trans (((cell_far (p := ⟨gb101, _, none⟩) NB120_101.out _).trans (((cell_far (p := ⟨gb101, _, none⟩) NB120_101.out _).trans (((cell_far (p := ⟨gb101, _, none⟩) NB120_101.out _).trans (((cell_far (p := ⟨gb101, _, none⟩) NB120_101.out _).trans (((cell_far (p := ⟨gb101, _, none⟩) NB120_101.out _).trans (hHeld.2.2.2.2.1)))))))))))))), ((cell_far (p := ⟨gb101, _, none⟩) NB120_101.out _).trans (((cell_far (p := ⟨gb101, _, none⟩) NB120_101.out _).trans (((cell_far (p := ⟨gb101, _, none⟩) NB120_101.out _).trans (((cell_far (p := ⟨gb101, _, none⟩) NB120_101.out _).trans (((cell_far (p := ⟨gb101, _, none⟩) NB120_101.out _).trans (((cell_far (p := ⟨gb101, _, none⟩) NB120_101.out _).trans (((cell_far (p := ⟨gb101, _, none⟩) NB120_101.out _).trans (hHeld.2.2.2.2.2.1)))))))))))))), ((cell_far (p := ⟨gb101, _, none⟩) NB120_101.out _).trans (((cell_far (p := ⟨gb101, _, none⟩) NB120_101.out _).trans (((cell_far (p := ⟨gb101, _, none⟩) NB120_101.out _).trans (((cell_far (p := ⟨gb101, _, none⟩) NB120_101.out _).trans (((cell_far (p := ⟨gb101, _, none⟩) NB120_101.out _).trans (((cell_far (p := ⟨gb101, _, none⟩) NB120_101.out _).trans (((cell_far (p := ⟨gb101, _, none⟩) NB120_101.out _).trans (hHeld.2.2.2.2.2.2))))))))))))))⟩ (fun hHeld => ?_)
 clear hK K
 refine one_ (i := 4) (N := none) #[true, true, true, true, true] rfl rfl (by kernel_rfl) (by decide) (fun K hK => ?_)
 have hs26 : w18.cell? ⟨gb102, 0, none⟩ = some (.int .i64 0) := (blk_cell BK102.out 0).trans rfl
 have hfs26 := blk_frozen BK102.out 0
 have hns26_0 := NB101_102.out
 have hns26_2 := NB120_102.out
 have hms26_0 := NB102_101.out
 have hms26_2 := NB102_120.out
 have hs27 : w18.cell? ⟨gb102, 1, none⟩ = some (.int .i64 0) := (blk_cell BK102.out 1).trans rfl
 have hfs27 := blk_frozen BK102.out 1
 have hns27_0 := NB101_102.out
 have hns27_2 := NB120_102.out
 have hms27_0 := NB102_101.out
 have hms27_2 := NB102_120.out
 have hs28 : w18.cell? ⟨gb102, 2, none⟩ = some (.int .i64 0) := (blk_cell BK102.out 2).trans rfl
 have hfs28 := blk_frozen BK102.out 2
 have hns28_0 := NB101_102.out
 have hns28_2 := NB120_102.out
 have hms28_0 := NB102_101.out
 have hms28_2 := NB102_120.out
 have hs29 : w18.cell? ⟨gb102, 3, none⟩ = some (.int .i64 0) := (blk_cell BK102.out 3).trans rfl
 have hfs29 := blk_frozen BK102.out 3
 have hns29_0 := NB101_102.out
 have hns29_2 := NB120_102.out
 have hms29_0 := NB102_101.out
 have hms29_2 := NB102_120.out
 refine skip_ (w1 := ?_) ?sa ?sb ?_ ?_
 (case sa => rfl)
 (case sb => rfl)
 rotate_left
 ·go_simp
  rfl
 refine hK.out _ _ ⟨((cell_far (p := ⟨gb102, _, none⟩) NB120_102.out _).trans (((cell_far (p := ⟨gb102, _, none⟩) NB120_102.out _).trans (((cell_far (p := ⟨gb102, _, none⟩) NB120_102.out _).trans (((cell_far (p := ⟨gb102, _, none⟩) NB120_102.out _).trans (hHeld.1)))))))), ((cell_far (p := ⟨gb102, _, none⟩) NB120_102.out _).trans (((cell_far (p := ⟨gb102, _, none⟩) NB120_102.out _).trans (((cell_far (p := ⟨gb102, _, none⟩) NB120_102.out _).trans (((cell_far (p := ⟨gb102, _, none⟩) NB120_102.out _).trans (hHeld.2.1)))))))), ((cell_far (p := ⟨gb102, _, none⟩) NB120_102.out _).trans (((cell_far (p := ⟨gb102, _, none⟩) NB120_102.out _).trans (((cell_far (p := ⟨gb102, _, none⟩) NB120_102.out _).trans (((cell_far (p := ⟨gb102, _, none⟩) NB120_102.out _).trans (hHeld.2.2.1)))))))), ((cell_far (p := ⟨gb102, _, none⟩) NB120_102.out _).trans (((cell_far (p := ⟨gb102, _, none⟩) NB120_102.out _).trans (((cell_far (p := ⟨gb102, _, none⟩) NB120_102.out _).trans (((cell_far (p := ⟨gb102, _, none⟩) NB120_102.out _).trans (hHeld.2.2.2.1)))))))), ((cell_far (p := ⟨gb102, _, none⟩) NB120_102.out _).trans (((cell_far (p := ⟨gb102, _, none⟩) NB120_102.out _).trans (((cell_far (p := ⟨gb102, _, none⟩) NB120_102.out _).trans (((cell_far (p := ⟨gb102, _, none⟩) NB120_102.out _).trans (hHeld.2.2.2.2.1)))))))), ((cell_far (p := ⟨gb102, _, none⟩) NB120_102.out _).trans (((cell_far (p := ⟨gb102, _, none⟩) NB120_102.out _).trans (((cell_far (p := ⟨gb102, _, none⟩) NB120_102.out _).trans (((cell_far (p := ⟨gb102, _, none⟩) NB120_102.out _).trans (hHeld.2.2.2.2.2.1)))))))), ((cell_far (p := ⟨gb102, _, none⟩) NB120_102.out _).trans (((cell_far (p := ⟨gb102, _, none⟩) NB120_102.out _).trans (((cell_far (p := ⟨gb102, _, none⟩) NB120_102.out _).trans (((cell_far (p := ⟨gb102, _, none⟩) NB120_102.out _).trans (hHeld.2.2.2.2.2.2))))))))⟩ (fun hHeld => ?_)
 clear hK K
 refine done_ (by kernel_rfl) ?_
 try go_wp2
 refine bodyPost_ret (results_cc rfl _ _ gb101 gb102 102 75 #[.slice Ao10 t107.length co10, .slice Ao15 t110.length co15, .int .i64 t113, .int .i64 t114, .int .i64 t115, .int .i64 t116, .int .i64 t117] #[.int .i64 t121, .int .i64 t122, .int .i64 t123, .int .i64 t124] (0, 0) (0, 0) _ _ rfl (by (with_reducible repeat (first | refine blk_drewN ?_ _ | refine blk_drew ?_ | refine blk_alloc ?_ _)); refine blk_far ?_ NB101_102.out _; (with_reducible repeat (first | refine blk_drewN ?_ _ | refine blk_drew ?_ | refine blk_alloc ?_ _)); refine blk_far ?_ NB101_102.out _; (with_reducible repeat (first | refine blk_drewN ?_ _ | refine blk_drew ?_ | refine blk_alloc ?_ _)); refine blk_far ?_ NB101_102.out _; (with_reducible repeat (first | refine blk_drewN ?_ _ | refine blk_drew ?_ | refine blk_alloc ?_ _)); refine blk_far ?_ NB101_102.out _; (with_reducible repeat (first | refine blk_drewN ?_ _ | refine blk_drew ?_ | refine blk_alloc ?_ _)); refine blk_put (cs := #[.slice Ao10 t107.length co10, .slice Ao15 t110.length co15, .int .i64 t113, .int .i64 t114, .int .i64 t115, .int .i64 t116, .int .i64 0]) ?_ 6 _ rfl; (with_reducible repeat (first | refine blk_drewN ?_ _ | refine blk_drew ?_ | refine blk_alloc ?_ _)); refine blk_put (cs := #[.slice Ao10 t107.length co10, .slice Ao15 t110.length co15, .int .i64 t113, .int .i64 t114, .int .i64 t115, .int .i64 0, .int .i64 0]) ?_ 5 _ rfl; (with_reducible repeat (first | refine blk_drewN ?_ _ | refine blk_drew ?_ | refine blk_alloc ?_ _)); refine blk_put (cs := #[.slice Ao10 t107.length co10, .slice Ao15 t110.length co15, .int .i64 t113, .int .i64 t114, .int .i64 0, .int .i64 0, .int .i64 0]) ?_ 4 _ rfl; (with_reducible repeat (first | refine blk_drewN ?_ _ | refine blk_drew ?_ | refine blk_alloc ?_ _)); refine blk_put (cs := #[.slice Ao10 t107.length co10, .slice Ao15 t110.length co15, .int .i64 t113, .int .i64 0, .int .i64 0, .int .i64 0, .int .i64 0]) ?_ 3 _ rfl; (with_reducible repeat (first | refine blk_drewN ?_ _ | refine blk_drew ?_ | refine blk_alloc ?_ _)); refine blk_put (cs := #[.slice Ao10 t107.length co10, .slice Ao15 t110.length co15, .int .i64 0, .int .i64 0, .int .i64 0, .int .i64 0, .int .i64 0]) ?_ 2 _ rfl; (with_reducible repeat (first | refine blk_drewN ?_ _ | refine blk_drew ?_ | refine blk_alloc ?_ _)); refine blk_put (cs := #[.slice Ao10 t107.length co10, .slice none 0 0, .int .i64 0, .int .i64 0, .int .i64 0, .int .i64 0, .int .i64 0]) ?_ 1 _ rfl; (with_reducible repeat (first | refine blk_drewN ?_ _ | refine blk_drew ?_ | refine blk_alloc ?_ _)); refine blk_put (cs := #[.slice none 0 0, .slice none 0 0, .int .i64 0, .int .i64 0, .int .i64 0, .int .i64 0, .int .i64 0]) ?_ 0 _ rfl; (with_reducible repeat (first | refine blk_drewN ?_ _ | refine blk_drew ?_ | refine blk_alloc ?_ _)); exact BK101.out) Try.underlying102 rfl (by kernel_rfl) rfl (by (with_reducible repeat (first | refine blk_drewN ?_ _ | refine blk_drew ?_ | refine blk_alloc ?_ _)); refine blk_put (cs := #[.int .i64 t121, .int .i64 t122, .int .i64 t123, .int .i64 0]) ?_ 3 _ rfl; (with_reducible repeat (first | refine blk_drewN ?_ _ | refine blk_drew ?_ | refine blk_alloc ?_ _)); refine blk_put (cs := #[.int .i64 t121, .int .i64 t122, .int .i64 0, .int .i64 0]) ?_ 2 _ rfl; (with_reducible repeat (first | refine blk_drewN ?_ _ | refine blk_drew ?_ | refine blk_alloc ?_ _)); refine blk_put (cs := #[.int .i64 t121, .int .i64 0, .int .i64 0, .int .i64 0]) ?_ 1 _ rfl; (with_reducible repeat (first | refine blk_drewN ?_ _ | refine blk_drew ?_ | refine blk_alloc ?_ _)); refine blk_put (cs := #[.int .i64 0, .int .i64 0, .int .i64 0, .int .i64 0]) ?_ 0 _ rfl; (with_reducible repeat (first | refine blk_drewN ?_ _ | refine blk_drew ?_ | refine blk_alloc ?_ _)); refine blk_far ?_ NB102_101.out _; (with_reducible repeat (first | refine blk_drewN ?_ _ | refine blk_drew ?_ | refine blk_alloc ?_ _)); refine blk_far ?_ NB102_101.out _; (with_reducible repeat (first | refine blk_drewN ?_ _ | refine blk_drew ?_ | refine blk_alloc ?_ _)); refine blk_far ?_ NB102_101.out _; (with_reducible repeat (first | refine blk_drewN ?_ _ | refine blk_drew ?_ | refine blk_alloc ?_ _)); refine blk_far ?_ NB102_101.out _; (with_reducible repeat (first | refine blk_drewN ?_ _ | refine blk_drew ?_ | refine blk_alloc ?_ _)); refine blk_far ?_ NB102_101.out _; (with_reducible repeat (first | refine blk_drewN ?_ _ | refine blk_drew ?_ | refine blk_alloc ?_ _)); refine blk_far ?_ NB102_101.out _; (with_reducible repeat (first | refine blk_drewN ?_ _ | refine blk_drew ?_ | refine blk_alloc ?_ _)); refine blk_far ?_ NB102_101.out _; (with_reducible repeat (first | refine blk_drewN ?_ _ | refine blk_drew ?_ | refine blk_alloc ?_ _)); exact BK102.out) Try.underlying75 rfl (by kernel_rfl)) rfl ?_
 exact ⟨_, _, qz13, qz331 HO109.out BK101.out BK102.out, qz331 HO112.out BK101.out BK102.out, qz330 HI106.out GE101.out GE102.out GE120.out⟩
/-! ### spec_l04Key: function 148 -/
set_option maxHeartbeats 8000000 in
set_option maxRecDepth 100000 in
theorem spec_l04Key.calls (a0 : Int) (r : Bool) (w : World) (h : spec_l04Key.f a0 = some r) :
  Calls Try.prog 148 #[.int .i64 a0] w fun e w' => e = .returned (.bool r) ∧ Drawn0 w w' := by
 have H : (if a0 ≥ 0 then (some (decide (a0 ≤ 15))) else (some false)) = some r := h
 clear h
 by_cases c2 : a0 ≥ 0
 ·rw [if_pos c2] at H
  have c2b0 : decide (0 ≤ a0) = true := decide_eq_true c2; clear c2; obtain rfl := Option.some.inj H; go_enter Try.func148, Try.ntmps148
  go_wp2
  go_ret
  exact ⟨qz2, qz3⟩
 ·rw [if_neg c2] at H
  have c2b0 : decide (0 ≤ a0) = false := decide_eq_false c2; clear c2; obtain rfl := Option.some.inj H; go_enter Try.func148, Try.ntmps148
  go_wp2
  go_ret
  exact ⟨qz2, qz3⟩
/-! ### spec_l04Src: function 147 -/
set_option maxHeartbeats 8000000 in
set_option maxRecDepth 100000 in
theorem spec_l04Src.calls (a0 : Int) (r : Bool) (w : World) (h : spec_l04Src.f a0 = some r) :
  Calls Try.prog 147 #[.int .i64 a0] w fun e w' => e = .returned (.bool r) ∧ Drawn0 w w' := by
 have H : (if a0 ≥ 0 then (some (decide (a0 < 4))) else (some false)) = some r := h
 clear h
 by_cases c2 : a0 ≥ 0
 ·rw [if_pos c2] at H
  have c2b0 : decide (0 ≤ a0) = true := decide_eq_true c2; clear c2; obtain rfl := Option.some.inj H; go_enter Try.func147, Try.ntmps147
  go_wp2
  go_ret
  exact ⟨qz2, qz3⟩
 ·rw [if_neg c2] at H
  have c2b0 : decide (0 ≤ a0) = false := decide_eq_false c2; clear c2; obtain rfl := Option.some.inj H; go_enter Try.func147, Try.ntmps147
  go_wp2
  go_ret
  exact ⟨qz2, qz3⟩
/-! ### spec_l05Time: function 155 -/
set_option maxHeartbeats 8000000 in
set_option maxRecDepth 100000 in
theorem spec_l05Time.calls (a0 : Int) (r : Bool) (w : World) (h : spec_l05Time.f a0 = some r) :
  Calls Try.prog 155 #[.int .i64 a0] w fun e w' => e = .returned (.bool r) ∧ Drawn0 w w' := by
 have H : (if a0 ≥ 0 then (some (decide (a0 ≤ 1000))) else (some false)) = some r := h
 clear h
 by_cases c2 : a0 ≥ 0
 ·rw [if_pos c2] at H
  have c2b0 : decide (0 ≤ a0) = true := decide_eq_true c2; clear c2; obtain rfl := Option.some.inj H; go_enter Try.func155, Try.ntmps155
  go_wp2
  go_ret
  exact ⟨qz2, qz3⟩
 ·rw [if_neg c2] at H
  have c2b0 : decide (0 ≤ a0) = false := decide_eq_false c2; clear c2; obtain rfl := Option.some.inj H; go_enter Try.func155, Try.ntmps155
  go_wp2
  go_ret
  exact ⟨qz2, qz3⟩
/-! ### spec_ElemOk: function 71 -/
set_option maxHeartbeats 8000000 in
set_option maxRecDepth 100000 in
theorem spec_ElemOk.calls (a0_0 : Int) (a0_1 : Int) (a0_2 : Int) (a0_3 : Int) (r : Bool) (w : World) (h : spec_ElemOk.f a0_0 a0_1 a0_2 a0_3 = some r) :
  Calls Try.prog 71 #[.agg #[.int .i64 a0_0, .int .i64 a0_1, .int .i64 a0_2, .int .i64 a0_3]] w fun e w' => e = .returned (.bool r) ∧ Below w.heap.size w w' := by
 have hu75 := Try.underlying75
 have HB := Aside0.mk (Below.refl w.heap.size w)
 have H : ((spec_l04Src.f a0_0).bind fun t102 => (if t102 = true then ((spec_l04Key.f a0_1).bind fun t103 => (if t103 = true then ((spec_l05Time.f a0_3).bind fun t104 => (some t104)) else (some false))) else (some false))) = some r := h
 clear h
 replace H := qB H
 obtain ⟨t102, A2, H⟩ := H
 try dsimp only at H
 by_cases c3 : t102 = true
 ·subst c3
  rw [if_pos rfl] at H; replace H := qB H; obtain ⟨t103, A4, H⟩ := H
  try dsimp only at H
  by_cases c5 : t103 = true
  ·subst c5
   rw [if_pos rfl] at H; replace H := qB H; obtain ⟨t104, A6, H⟩ := H
   try dsimp only at H
   obtain rfl := Option.some.inj H; go_enter Try.func71, Try.ntmps71
   go_wp2_with (first | ((with_reducible refine gate_dst (N := 1) rfl ?_); refine box_event ?hg (N := 1) ?hd (cs := #[.int .i64 a0_0, .int .i64 a0_1, .int .i64 a0_2, .int .i64 a0_3]) (t := 75) ?hr ?_; (case hd => rfl); (case hg => rfl); (case hr => exact qz5); intro gb101 hg w7 hbox hb; have h_ := qA4 (below_step qz6 hb) (hbox) ((qz7 : w.heap.size ≤ gb101)) ((qz7 : w.heap.size ≤ gb101)); clear HB; obtain ⟨HB, BK101, GW101, GE101⟩ := h_; clear hb hbox hg; obtain ⟨hcz8_0, hcz8_1, hcz8_2, hcz8_3⟩ := qC4 BK101.out; obtain ⟨hfz8_0, hfz8_1, hfz8_2, hfz8_3⟩ := qF4 BK101.out) | ((with_reducible refine gate_callee (f := 147) rfl ?_); refine goesL_ (some 5) rfl rfl Try.func147 (by kernel_rfl) rfl #[.int .i64 a0_0] rfl qz1 ?_; (with_reducible refine (spec_l04Src.calls a0_0 true _ A2.out).mono ?_); rintro e w' ⟨rfl, ⟨nd, rfl⟩⟩; refine ⟨_, rfl, ?_⟩) | (go_at_call 148; (with_reducible refine (spec_l04Key.calls a0_1 true _ A4.out).mono ?_); rintro e w' ⟨rfl, ⟨nd, rfl⟩⟩) | (go_at_call 155; (with_reducible refine (spec_l05Time.calls a0_3 t104 _ A6.out).mono ?_); rintro e w' ⟨rfl, ⟨nd, rfl⟩⟩))
   go_ret
   exact ⟨qz13, qz10 GE101.out⟩
  ·replace c5 := Bool.eq_false_iff.mpr c5
   subst c5; rw [if_neg (show ¬ (false = true) by decide)] at H
   obtain rfl := Option.some.inj H; go_enter Try.func71, Try.ntmps71
   go_wp2_with (first | ((with_reducible refine gate_dst (N := 1) rfl ?_); refine box_event ?hg (N := 1) ?hd (cs := #[.int .i64 a0_0, .int .i64 a0_1, .int .i64 a0_2, .int .i64 a0_3]) (t := 75) ?hr ?_; (case hd => rfl); (case hg => rfl); (case hr => exact qz5); intro gb101 hg w9 hbox hb; have h_ := qA4 (below_step qz6 hb) (hbox) ((qz7 : w.heap.size ≤ gb101)) ((qz7 : w.heap.size ≤ gb101)); clear HB; obtain ⟨HB, BK101, GW101, GE101⟩ := h_; clear hb hbox hg; obtain ⟨hcz10_0, hcz10_1, hcz10_2, hcz10_3⟩ := qC4 BK101.out; obtain ⟨hfz10_0, hfz10_1, hfz10_2, hfz10_3⟩ := qF4 BK101.out) | ((with_reducible refine gate_callee (f := 147) rfl ?_); refine goesL_ (some 5) rfl rfl Try.func147 (by kernel_rfl) rfl #[.int .i64 a0_0] rfl qz1 ?_; (with_reducible refine (spec_l04Src.calls a0_0 true _ A2.out).mono ?_); rintro e w' ⟨rfl, ⟨nd, rfl⟩⟩; refine ⟨_, rfl, ?_⟩) | (go_at_call 148; (with_reducible refine (spec_l04Key.calls a0_1 false _ A4.out).mono ?_); rintro e w' ⟨rfl, ⟨nd, rfl⟩⟩))
   go_ret
   exact ⟨qz13, qz10 GE101.out⟩
 ·replace c3 := Bool.eq_false_iff.mpr c3
  subst c3; rw [if_neg (show ¬ (false = true) by decide)] at H
  obtain rfl := Option.some.inj H; go_enter Try.func71, Try.ntmps71
  go_wp2_with (first | ((with_reducible refine gate_dst (N := 1) rfl ?_); refine box_event ?hg (N := 1) ?hd (cs := #[.int .i64 a0_0, .int .i64 a0_1, .int .i64 a0_2, .int .i64 a0_3]) (t := 75) ?hr ?_; (case hd => rfl); (case hg => rfl); (case hr => exact qz5); intro gb101 hg w11 hbox hb; have h_ := qA4 (below_step qz6 hb) (hbox) ((qz7 : w.heap.size ≤ gb101)) ((qz7 : w.heap.size ≤ gb101)); clear HB; obtain ⟨HB, BK101, GW101, GE101⟩ := h_; clear hb hbox hg; obtain ⟨hcz12_0, hcz12_1, hcz12_2, hcz12_3⟩ := qC4 BK101.out; obtain ⟨hfz12_0, hfz12_1, hfz12_2, hfz12_3⟩ := qF4 BK101.out) | ((with_reducible refine gate_callee (f := 147) rfl ?_); refine goesL_ (some 5) rfl rfl Try.func147 (by kernel_rfl) rfl #[.int .i64 a0_0] rfl qz1 ?_; (with_reducible refine (spec_l04Src.calls a0_0 false _ A2.out).mono ?_); rintro e w' ⟨rfl, ⟨nd, rfl⟩⟩; refine ⟨_, rfl, ?_⟩))
  go_ret
  exact ⟨qz13, qz10 GE101.out⟩
/-! ### spec_AggKind: function 167 -/
set_option maxHeartbeats 8000000 in
set_option maxRecDepth 100000 in
theorem spec_AggKind.calls (a0 : Int) (a1 : Int) (r : Bool) (w : World) (h : spec_AggKind.f a0 a1 = some r) :
  Calls Try.prog 167 #[.int .i64 a0, .int .i64 a1] w fun e w' => e = .returned (.bool r) ∧ Drawn0 w w' := by
 have H : (if a0 = 6 then (if a1 ≥ 1 then (some (decide (a1 ≤ 4))) else (some false)) else (if a0 ≥ 1 then (if a0 < 6 then (some (a1 == 0)) else (some false)) else (some false))) = some r := h
 clear h
 by_cases c3 : a0 = 6
 ·rw [if_pos c3] at H
  have c3b0 : (a0 == 6) = true := beq_iff_eq.mpr c3; have c3b1 : (a0 != 6) = false := bne_eq_false_iff_eq.mpr c3; clear c3
  by_cases c4 : a1 ≥ 1
  ·rw [if_pos c4] at H
   have c4b0 : decide (1 ≤ a1) = true := decide_eq_true c4; clear c4; obtain rfl := Option.some.inj H; go_enter Try.func167, Try.ntmps167
   go_wp2
   go_ret
   exact ⟨qz2, qz3⟩
  ·rw [if_neg c4] at H
   have c4b0 : decide (1 ≤ a1) = false := decide_eq_false c4; clear c4; obtain rfl := Option.some.inj H; go_enter Try.func167, Try.ntmps167
   go_wp2
   go_ret
   exact ⟨qz2, qz3⟩
 ·rw [if_neg c3] at H
  have c3b0 : (a0 == 6) = false := beq_eq_false_iff_ne.mpr c3; have c3b1 : (a0 != 6) = true := bne_iff_ne.mpr c3
  by_cases c5 : a0 ≥ 1
  ·rw [if_pos c5] at H
   have c5b0 : decide (1 ≤ a0) = true := decide_eq_true c5; clear c5
   by_cases c6 : a0 < 6
   ·rw [if_pos c6] at H
    have c6b0 : decide (a0 < 6) = true := decide_eq_true c6; clear c6; obtain rfl := Option.some.inj H; go_enter Try.func167, Try.ntmps167
    go_wp2
    go_ret
    exact ⟨qz2, qz3⟩
   ·rw [if_neg c6] at H
    have c6b0 : decide (a0 < 6) = false := decide_eq_false c6; clear c6; obtain rfl := Option.some.inj H; go_enter Try.func167, Try.ntmps167
    go_wp2
    go_ret
    exact ⟨qz2, qz3⟩
  ·rw [if_neg c5] at H
   have c5b0 : decide (1 ≤ a0) = false := decide_eq_false c5; clear c5; obtain rfl := Option.some.inj H; go_enter Try.func167, Try.ntmps167
   go_wp2
   go_ret
   exact ⟨qz2, qz3⟩
/-! ### spec_l03Depth: function 243 -/
set_option maxHeartbeats 8000000 in
set_option maxRecDepth 100000 in
theorem spec_l03Depth.calls (k : Nat) (A0 : Option Addr) (c0 : Nat) (l0 : List (S231)) (r : Int) (w : World) (hr0 : Kd.C k231 w A0 l0.length l0) (hc0 : l0.length ≤ c0) (h : spec_l03Depth.f k l0 = some r) :
  Calls Try.prog 243 #[.slice A0 l0.length c0] w fun e w' => e = .returned (.int .i64 r) ∧ Below w.heap.size w w' := by
 have HR0 := Aside0.mk hr0
 have HC0 := Aside0.mk hc0
 clear hr0 hc0
 have HB := Aside0.mk (Below.refl w.heap.size w)
 have H : (if (l0.length : Int) < 1 then (spec_l03Depth.j0 k l0 true) else (spec_l03Depth.j0 k l0 (decide ((l0.length : Int) > 20)))) = some r := h
 clear h
 have HC2 := Aside0.mk H
 clear H
 go_enter Try.func243, Try.ntmps243
 go_upto_region 1 with (fail)
 go_cut [13] (fun v13 wc => ∃ (kq : Nat) (x13_1 : Bool), v13 = .bool x13_1 ∧ Aside0 (spec_l03Depth.j0 kq l0 x13_1 = some r) ∧ Aside0 (kq ≤ k) ∧ Aside0 (Below w.heap.size w wc))
 case first =>
  have H := HC2.out; clear HC2
  by_cases c3 : (l0.length : Int) < 1
  ·rw [if_pos c3] at H
   have c3b0 : decide ((l0.length : Int) < 1) = true := decide_eq_true c3; have c3b1 : decide (l0.length < 1) = true := decide_eq_true (by omega)
   clear c3
   (first | rw [c3b0] | (simp only [i64_w, i32_w]; rw [c3b0]) | skip)
   have H' := Aside0.mk H; clear H
   go_wp2
   go_meet
   case rel => exact ⟨_, (true), qz2, H', ⟨qz36⟩, ⟨qz6⟩⟩
  ·rw [if_neg c3] at H
   have c3b0 : decide ((l0.length : Int) < 1) = false := decide_eq_false c3; have c3b1 : decide (l0.length < 1) = false := decide_eq_false (by omega)
   clear c3
   (first | rw [c3b0] | (simp only [i64_w, i32_w]; rw [c3b0]) | skip)
   have H' := Aside0.mk H; clear H
   go_wp2
   go_meet
   case rel => exact ⟨_, (decide ((l0.length : Int) > 20)), qz2, H', ⟨qz36⟩, ⟨qz6⟩⟩
 case rest =>
  clear HC2; (try clear c2); (try clear p2); (try clear c3); (try clear c3b0); (try clear c3b1); obtain ⟨kq, x13_1, rfl, HA, HJ1, HB⟩ := hcut
  cases kq with
  | zero => exact absurd HA.out (by simp [spec_l03Depth.j0])
  | succ kj1 =>
   have H := HA.out; clear HA; simp only [spec_l03Depth.j0] at H
   by_cases c4 : x13_1 = true
   ·subst c4
    rw [if_pos rfl] at H; obtain rfl := Option.some.inj H
    go_wp2
    go_ret
    exact ⟨qz13, qz6⟩
   ·replace c4 := Bool.eq_false_iff.mpr c4
    subst c4; rw [if_neg (show ¬ (false = true) by decide)] at H
    have H' := Aside0.mk H; clear H
    go_wp2
    go_loopg [3, 4, 5] kj1 (fun kq v3 v4 v5 w' => ∃ (x3_2 : Int) (x4_2 : Int) (x5_2 : Int), v3 = .int .i64 x3_2 ∧ v4 = .int .i64 x4_2 ∧ v5 = .int .i64 x5_2 ∧ Aside0 (spec_l03Depth.l0 kq l0 x3_2 x4_2 x5_2 = some r) ∧ Aside0 (kq ≤ kj1) ∧ Aside0 (Below w.heap.size w w'))
    case atStart => exact ⟨(0), (0), (0), qz2, qz2, qz2, H', ⟨Nat.le_refl _⟩, ⟨qz6⟩⟩
    case round =>
     clear H'; (try clear c2); (try clear p2); (try clear c3); (try clear c3b0); (try clear c3b1); (try clear c4); (try clear p2); obtain ⟨x3_2, x4_2, x5_2, rfl, rfl, rfl, HA, HK2, HB⟩ := hrel
     cases gk with
     | zero => exact absurd HA.out (by simp [spec_l03Depth.l0])
     | succ k2 =>
      have H := HA.out; clear HA; simp only [spec_l03Depth.l0] at H
      by_cases c5 : x5_2 < (l0.length : Int)
      ·rw [if_pos c5] at H
       have c5b0 : decide (x5_2 < (l0.length : Int)) = true := decide_eq_true c5; clear c5
       by_cases c6 : 0 ≤ x5_2
       ·rw [if_pos c6] at H
        have c6b0 : decide (0 ≤ x5_2) = true := decide_eq_true c6; clear c6
        by_cases c7 : ((rd_T231 l0 x5_2).f0) < 0
        ·rw [if_pos c7] at H
         have c7b0 : decide (((rd_T231 l0 x5_2).f0) < 0) = true := decide_eq_true c7; clear c7; obtain rfl := Option.some.inj H; have p101 : 0 ≤ (x5_2 : Int) := of_decide_eq_true qz4; have q101 : x5_2 < (l0.length : Int) := of_decide_eq_true qz4; obtain ⟨ad101, e101, hx101_0, hx101_1⟩ := at_T231 HR0.out x5_2 p101 q101
         cases e101
         replace hx101_0 := qcb HB hx101_0; replace hx101_1 := qcb HB hx101_1; replace p101 := eq_true p101; replace q101 := eq_true q101
         go_wp2
         go_ret
         exact ⟨qz13, qz6⟩
        ·rw [if_neg c7] at H
         have c7b0 : decide (((rd_T231 l0 x5_2).f0) < 0) = false := decide_eq_false c7; clear c7
         by_cases c8 : ((rd_T231 l0 x5_2).f0) > 11
         ·rw [if_pos c8] at H
          have c8b0 : decide (11 < ((rd_T231 l0 x5_2).f0)) = true := decide_eq_true c8; clear c8; obtain rfl := Option.some.inj H; have p101 : 0 ≤ (x5_2 : Int) := of_decide_eq_true qz4; have q101 : x5_2 < (l0.length : Int) := of_decide_eq_true qz4; obtain ⟨ad101, e101, hx101_0, hx101_1⟩ := at_T231 HR0.out x5_2 p101 q101
          cases e101
          replace hx101_0 := qcb HB hx101_0; replace hx101_1 := qcb HB hx101_1; replace p101 := eq_true p101; replace q101 := eq_true q101; have p102 : 0 ≤ (x5_2 : Int) := of_decide_eq_true qz4; have q102 : x5_2 < (l0.length : Int) := of_decide_eq_true qz4; obtain ⟨ad102, e102, hx102_0, hx102_1⟩ := at_T231 HR0.out x5_2 p102 q102; obtain rfl : ad101 = ad102 := (by injection e102)
          replace hx102_0 := qcb HB hx102_0; replace hx102_1 := qcb HB hx102_1; replace p102 := eq_true p102; replace q102 := eq_true q102
          go_wp2
          go_ret
          exact ⟨qz13, qz6⟩
         ·rw [if_neg c8] at H
          have c8b0 : decide (11 < ((rd_T231 l0 x5_2).f0)) = false := decide_eq_false c8; clear c8
          by_cases c9 : ((rd_T231 l0 x5_2).f0) = 0
          ·rw [if_pos c9] at H
           have c9b0 : (((rd_T231 l0 x5_2).f0) == 0) = true := beq_iff_eq.mpr c9; have c9b1 : (((rd_T231 l0 x5_2).f0) != 0) = false := bne_eq_false_iff_eq.mpr c9; clear c9; replace H := qB H; obtain ⟨t105, A10, H⟩ := H
           try dsimp only at H
           by_cases c11 : t105 > x3_2
           ·rw [if_pos c11] at H
            have c11b0 : decide (x3_2 < t105) = true := decide_eq_true c11; clear c11; obtain rfl := Option.some.inj H; have p101 : 0 ≤ (x5_2 : Int) := of_decide_eq_true qz4; have q101 : x5_2 < (l0.length : Int) := of_decide_eq_true qz4; obtain ⟨ad101, e101, hx101_0, hx101_1⟩ := at_T231 HR0.out x5_2 p101 q101
            cases e101
            replace hx101_0 := qcb HB hx101_0; replace hx101_1 := qcb HB hx101_1; replace p101 := eq_true p101; replace q101 := eq_true q101; have p102 : 0 ≤ (x5_2 : Int) := of_decide_eq_true qz4; have q102 : x5_2 < (l0.length : Int) := of_decide_eq_true qz4; obtain ⟨ad102, e102, hx102_0, hx102_1⟩ := at_T231 HR0.out x5_2 p102 q102; obtain rfl : ad101 = ad102 := (by injection e102)
            replace hx102_0 := qcb HB hx102_0; replace hx102_1 := qcb HB hx102_1; replace p102 := eq_true p102; replace q102 := eq_true q102; have p103 : 0 ≤ (x5_2 : Int) := of_decide_eq_true qz4; have q103 : x5_2 < (l0.length : Int) := of_decide_eq_true qz4; obtain ⟨ad103, e103, hx103_0, hx103_1⟩ := at_T231 HR0.out x5_2 p103 q103; obtain rfl : ad101 = ad103 := (by injection e103)
            replace hx103_0 := qcb HB hx103_0; replace hx103_1 := qcb HB hx103_1; replace p103 := eq_true p103; replace q103 := eq_true q103; have p104 : 0 ≤ (x5_2 : Int) := of_decide_eq_true qz4; have q104 : x5_2 < (l0.length : Int) := of_decide_eq_true qz4; obtain ⟨ad104, e104, hx104_0, hx104_1⟩ := at_T231 HR0.out x5_2 p104 q104; obtain rfl : ad101 = ad104 := (by injection e104)
            replace hx104_0 := qcb HB hx104_0; replace hx104_1 := qcb HB hx104_1; replace p104 := eq_true p104; replace q104 := eq_true q104
            go_wp2_with (first | (go_at_call 283; (with_reducible refine (spec_l03Takes.calls ((rd_T231 l0 x5_2).f0) t105 _ A10.out).mono ?_); rintro e w' ⟨rfl, ⟨nd, rfl⟩⟩))
            go_ret
            exact ⟨qz13, qz6⟩
           ·rw [if_neg c11] at H
            have c11b0 : decide (x3_2 < t105) = false := decide_eq_false c11; clear c11; replace H := qB H; obtain ⟨t107, A12, H⟩ := H
            try dsimp only at H
            obtain ⟨ji13, hji13⟩ : ∃ j_ : Int, (mx x4_2 (wrap64 ((wrap64 (x3_2 - t107)) + 1))) = j_ := ⟨_, rfl⟩; replace H : (spec_l03Depth.l0 k2 l0 (wrap64 ((wrap64 (x3_2 - t107)) + 1)) ji13 (wrap64 (x5_2 + 1))) = some r := by first | (rw [hji13] at H; exact H) | (simp only [hji13] at H ⊢; exact H)
            (try rw [hji13] at A10); (try rw [hji13] at A12); have hji13_ : (if x4_2 < (wrap64 ((wrap64 (x3_2 - t107)) + 1)) then (wrap64 ((wrap64 (x3_2 - t107)) + 1)) else x4_2) = ji13 := hji13; have H' := Aside0.mk H; clear H; have p101 : 0 ≤ (x5_2 : Int) := of_decide_eq_true qz4; have q101 : x5_2 < (l0.length : Int) := of_decide_eq_true qz4; obtain ⟨ad101, e101, hx101_0, hx101_1⟩ := at_T231 HR0.out x5_2 p101 q101
            cases e101
            replace hx101_0 := qcb HB hx101_0; replace hx101_1 := qcb HB hx101_1; replace p101 := eq_true p101; replace q101 := eq_true q101; have p102 : 0 ≤ (x5_2 : Int) := of_decide_eq_true qz4; have q102 : x5_2 < (l0.length : Int) := of_decide_eq_true qz4; obtain ⟨ad102, e102, hx102_0, hx102_1⟩ := at_T231 HR0.out x5_2 p102 q102; obtain rfl : ad101 = ad102 := (by injection e102)
            replace hx102_0 := qcb HB hx102_0; replace hx102_1 := qcb HB hx102_1; replace p102 := eq_true p102; replace q102 := eq_true q102; have p103 : 0 ≤ (x5_2 : Int) := of_decide_eq_true qz4; have q103 : x5_2 < (l0.length : Int) := of_decide_eq_true qz4; obtain ⟨ad103, e103, hx103_0, hx103_1⟩ := at_T231 HR0.out x5_2 p103 q103; obtain rfl : ad101 = ad103 := (by injection e103)
            replace hx103_0 := qcb HB hx103_0; replace hx103_1 := qcb HB hx103_1; replace p103 := eq_true p103; replace q103 := eq_true q103; have p104 : 0 ≤ (x5_2 : Int) := of_decide_eq_true qz4; have q104 : x5_2 < (l0.length : Int) := of_decide_eq_true qz4; obtain ⟨ad104, e104, hx104_0, hx104_1⟩ := at_T231 HR0.out x5_2 p104 q104; obtain rfl : ad101 = ad104 := (by injection e104)
            replace hx104_0 := qcb HB hx104_0; replace hx104_1 := qcb HB hx104_1; replace p104 := eq_true p104; replace q104 := eq_true q104
            go_wp2_with (first | (go_at_call 283; (with_reducible refine (spec_l03Takes.calls ((rd_T231 l0 x5_2).f0) t105 _ A10.out).mono ?_); rintro e w' ⟨rfl, ⟨nd, rfl⟩⟩; have p106 : 0 ≤ (x5_2 : Int) := of_decide_eq_true qz4; have q106 : x5_2 < (l0.length : Int) := of_decide_eq_true qz4; obtain ⟨ad106, e106, hx106_0, hx106_1⟩ := at_T231 HR0.out x5_2 p106 q106; obtain rfl : ad101 = ad106 := (by injection e106); replace hx106_0 := qcb HB hx106_0; replace hx106_1 := qcb HB hx106_1; replace p106 := eq_true p106; replace q106 := eq_true q106) | ((with_reducible refine gate_callee (f := 283) rfl ?_); refine goesL_ (some 66) rfl rfl Try.func283 (by kernel_rfl) rfl #[.int .i64 ((rd_T231 l0 x5_2).f0)] rfl qz1 ?_; (with_reducible refine (spec_l03Takes.calls ((rd_T231 l0 x5_2).f0) t107 _ A12.out).mono ?_); rintro e w' ⟨rfl, ⟨nd, rfl⟩⟩; refine ⟨_, rfl, ?_⟩))
            go_roundg k2
            case measure => have := HJ1.out; have := HK2.out; omega
            case rel => exact ⟨(wrap64 ((wrap64 (x3_2 - t107)) + 1)), (ji13), (wrap64 (x5_2 + 1)), qz2, (by first | rfl | (simp; done) | (simp only [← hji13] <;> (first | rfl | simp)) | (simp [*]; done)), qz2, H', ⟨qz34 HJ1.out HK2.out⟩, ⟨qz6⟩⟩
          ·rw [if_neg c9] at H
           have c9b0 : (((rd_T231 l0 x5_2).f0) == 0) = false := beq_eq_false_iff_ne.mpr c9; have c9b1 : (((rd_T231 l0 x5_2).f0) != 0) = true := bne_iff_ne.mpr c9
           by_cases c14 : ((rd_T231 l0 x5_2).f1) = 0
           ·rw [if_pos c14] at H
            have c14b0 : (((rd_T231 l0 x5_2).f1) == 0) = true := beq_iff_eq.mpr c14; have c14b1 : (((rd_T231 l0 x5_2).f1) != 0) = false := bne_eq_false_iff_eq.mpr c14; clear c14; replace H := qB H; obtain ⟨t110, A15, H⟩ := H
            try dsimp only at H
            by_cases c16 : t110 > x3_2
            ·rw [if_pos c16] at H
             have c16b0 : decide (x3_2 < t110) = true := decide_eq_true c16; clear c16; obtain rfl := Option.some.inj H; have p101 : 0 ≤ (x5_2 : Int) := of_decide_eq_true qz4; have q101 : x5_2 < (l0.length : Int) := of_decide_eq_true qz4; obtain ⟨ad101, e101, hx101_0, hx101_1⟩ := at_T231 HR0.out x5_2 p101 q101
             cases e101
             replace hx101_0 := qcb HB hx101_0; replace hx101_1 := qcb HB hx101_1; replace p101 := eq_true p101; replace q101 := eq_true q101; have p102 : 0 ≤ (x5_2 : Int) := of_decide_eq_true qz4; have q102 : x5_2 < (l0.length : Int) := of_decide_eq_true qz4; obtain ⟨ad102, e102, hx102_0, hx102_1⟩ := at_T231 HR0.out x5_2 p102 q102; obtain rfl : ad101 = ad102 := (by injection e102)
             replace hx102_0 := qcb HB hx102_0; replace hx102_1 := qcb HB hx102_1; replace p102 := eq_true p102; replace q102 := eq_true q102; have p103 : 0 ≤ (x5_2 : Int) := of_decide_eq_true qz4; have q103 : x5_2 < (l0.length : Int) := of_decide_eq_true qz4; obtain ⟨ad103, e103, hx103_0, hx103_1⟩ := at_T231 HR0.out x5_2 p103 q103; obtain rfl : ad101 = ad103 := (by injection e103)
             replace hx103_0 := qcb HB hx103_0; replace hx103_1 := qcb HB hx103_1; replace p103 := eq_true p103; replace q103 := eq_true q103; have p108 : 0 ≤ (x5_2 : Int) := of_decide_eq_true qz4; have q108 : x5_2 < (l0.length : Int) := of_decide_eq_true qz4; obtain ⟨ad108, e108, hx108_0, hx108_1⟩ := at_T231 HR0.out x5_2 p108 q108; obtain rfl : ad101 = ad108 := (by injection e108)
             replace hx108_0 := qcb HB hx108_0; replace hx108_1 := qcb HB hx108_1; replace p108 := eq_true p108; replace q108 := eq_true q108; have p109 : 0 ≤ (x5_2 : Int) := of_decide_eq_true qz4; have q109 : x5_2 < (l0.length : Int) := of_decide_eq_true qz4; obtain ⟨ad109, e109, hx109_0, hx109_1⟩ := at_T231 HR0.out x5_2 p109 q109; obtain rfl : ad101 = ad109 := (by injection e109)
             replace hx109_0 := qcb HB hx109_0; replace hx109_1 := qcb HB hx109_1; replace p109 := eq_true p109; replace q109 := eq_true q109
             go_wp2_with (first | (go_at_call 283; (with_reducible refine (spec_l03Takes.calls ((rd_T231 l0 x5_2).f0) t110 _ A15.out).mono ?_); rintro e w' ⟨rfl, ⟨nd, rfl⟩⟩))
             go_ret
             exact ⟨qz13, qz6⟩
            ·rw [if_neg c16] at H
             have c16b0 : decide (x3_2 < t110) = false := decide_eq_false c16; clear c16; replace H := qB H; obtain ⟨t112, A17, H⟩ := H
             try dsimp only at H
             obtain ⟨ji18, hji18⟩ : ∃ j_ : Int, (mx x4_2 (wrap64 ((wrap64 (x3_2 - t112)) + 1))) = j_ := ⟨_, rfl⟩; replace H : (spec_l03Depth.l0 k2 l0 (wrap64 ((wrap64 (x3_2 - t112)) + 1)) ji18 (wrap64 (x5_2 + 1))) = some r := by first | (rw [hji18] at H; exact H) | (simp only [hji18] at H ⊢; exact H)
             (try rw [hji18] at A15); (try rw [hji18] at A17); have hji18_ : (if x4_2 < (wrap64 ((wrap64 (x3_2 - t112)) + 1)) then (wrap64 ((wrap64 (x3_2 - t112)) + 1)) else x4_2) = ji18 := hji18; have H' := Aside0.mk H; clear H; have p101 : 0 ≤ (x5_2 : Int) := of_decide_eq_true qz4; have q101 : x5_2 < (l0.length : Int) := of_decide_eq_true qz4; obtain ⟨ad101, e101, hx101_0, hx101_1⟩ := at_T231 HR0.out x5_2 p101 q101
             cases e101
             replace hx101_0 := qcb HB hx101_0; replace hx101_1 := qcb HB hx101_1; replace p101 := eq_true p101; replace q101 := eq_true q101; have p102 : 0 ≤ (x5_2 : Int) := of_decide_eq_true qz4; have q102 : x5_2 < (l0.length : Int) := of_decide_eq_true qz4; obtain ⟨ad102, e102, hx102_0, hx102_1⟩ := at_T231 HR0.out x5_2 p102 q102; obtain rfl : ad101 = ad102 := (by injection e102)
             replace hx102_0 := qcb HB hx102_0; replace hx102_1 := qcb HB hx102_1; replace p102 := eq_true p102; replace q102 := eq_true q102; have p103 : 0 ≤ (x5_2 : Int) := of_decide_eq_true qz4; have q103 : x5_2 < (l0.length : Int) := of_decide_eq_true qz4; obtain ⟨ad103, e103, hx103_0, hx103_1⟩ := at_T231 HR0.out x5_2 p103 q103; obtain rfl : ad101 = ad103 := (by injection e103)
             replace hx103_0 := qcb HB hx103_0; replace hx103_1 := qcb HB hx103_1; replace p103 := eq_true p103; replace q103 := eq_true q103; have p108 : 0 ≤ (x5_2 : Int) := of_decide_eq_true qz4; have q108 : x5_2 < (l0.length : Int) := of_decide_eq_true qz4; obtain ⟨ad108, e108, hx108_0, hx108_1⟩ := at_T231 HR0.out x5_2 p108 q108; obtain rfl : ad101 = ad108 := (by injection e108)
             replace hx108_0 := qcb HB hx108_0; replace hx108_1 := qcb HB hx108_1; replace p108 := eq_true p108; replace q108 := eq_true q108; have p109 : 0 ≤ (x5_2 : Int) := of_decide_eq_true qz4; have q109 : x5_2 < (l0.length : Int) := of_decide_eq_true qz4; obtain ⟨ad109, e109, hx109_0, hx109_1⟩ := at_T231 HR0.out x5_2 p109 q109; obtain rfl : ad101 = ad109 := (by injection e109)
             replace hx109_0 := qcb HB hx109_0; replace hx109_1 := qcb HB hx109_1; replace p109 := eq_true p109; replace q109 := eq_true q109
             go_wp2_with (first | (go_at_call 283; (with_reducible refine (spec_l03Takes.calls ((rd_T231 l0 x5_2).f0) t110 _ A15.out).mono ?_); rintro e w' ⟨rfl, ⟨nd, rfl⟩⟩; have p111 : 0 ≤ (x5_2 : Int) := of_decide_eq_true qz4; have q111 : x5_2 < (l0.length : Int) := of_decide_eq_true qz4; obtain ⟨ad111, e111, hx111_0, hx111_1⟩ := at_T231 HR0.out x5_2 p111 q111; obtain rfl : ad101 = ad111 := (by injection e111); replace hx111_0 := qcb HB hx111_0; replace hx111_1 := qcb HB hx111_1; replace p111 := eq_true p111; replace q111 := eq_true q111) | ((with_reducible refine gate_callee (f := 283) rfl ?_); refine goesL_ (some 66) rfl rfl Try.func283 (by kernel_rfl) rfl #[.int .i64 ((rd_T231 l0 x5_2).f0)] rfl qz1 ?_; (with_reducible refine (spec_l03Takes.calls ((rd_T231 l0 x5_2).f0) t112 _ A17.out).mono ?_); rintro e w' ⟨rfl, ⟨nd, rfl⟩⟩; refine ⟨_, rfl, ?_⟩))
             go_roundg k2
             case measure => have := HJ1.out; have := HK2.out; omega
             case rel => exact ⟨(wrap64 ((wrap64 (x3_2 - t112)) + 1)), (ji18), (wrap64 (x5_2 + 1)), qz2, (by first | rfl | (simp; done) | (simp only [← hji18] <;> (first | rfl | simp)) | (simp [*]; done)), qz2, H', ⟨qz34 HJ1.out HK2.out⟩, ⟨qz6⟩⟩
           ·rw [if_neg c14] at H
            have c14b0 : (((rd_T231 l0 x5_2).f1) == 0) = false := beq_eq_false_iff_ne.mpr c14; have c14b1 : (((rd_T231 l0 x5_2).f1) != 0) = true := bne_iff_ne.mpr c14; obtain rfl := Option.some.inj H; have p101 : 0 ≤ (x5_2 : Int) := of_decide_eq_true qz4; have q101 : x5_2 < (l0.length : Int) := of_decide_eq_true qz4; obtain ⟨ad101, e101, hx101_0, hx101_1⟩ := at_T231 HR0.out x5_2 p101 q101
            cases e101
            replace hx101_0 := qcb HB hx101_0; replace hx101_1 := qcb HB hx101_1; replace p101 := eq_true p101; replace q101 := eq_true q101; have p102 : 0 ≤ (x5_2 : Int) := of_decide_eq_true qz4; have q102 : x5_2 < (l0.length : Int) := of_decide_eq_true qz4; obtain ⟨ad102, e102, hx102_0, hx102_1⟩ := at_T231 HR0.out x5_2 p102 q102; obtain rfl : ad101 = ad102 := (by injection e102)
            replace hx102_0 := qcb HB hx102_0; replace hx102_1 := qcb HB hx102_1; replace p102 := eq_true p102; replace q102 := eq_true q102; have p103 : 0 ≤ (x5_2 : Int) := of_decide_eq_true qz4; have q103 : x5_2 < (l0.length : Int) := of_decide_eq_true qz4; obtain ⟨ad103, e103, hx103_0, hx103_1⟩ := at_T231 HR0.out x5_2 p103 q103; obtain rfl : ad101 = ad103 := (by injection e103)
            replace hx103_0 := qcb HB hx103_0; replace hx103_1 := qcb HB hx103_1; replace p103 := eq_true p103; replace q103 := eq_true q103; have p108 : 0 ≤ (x5_2 : Int) := of_decide_eq_true qz4; have q108 : x5_2 < (l0.length : Int) := of_decide_eq_true qz4; obtain ⟨ad108, e108, hx108_0, hx108_1⟩ := at_T231 HR0.out x5_2 p108 q108; obtain rfl : ad101 = ad108 := (by injection e108)
            replace hx108_0 := qcb HB hx108_0; replace hx108_1 := qcb HB hx108_1; replace p108 := eq_true p108; replace q108 := eq_true q108
            go_wp2
            go_ret
            exact ⟨qz13, qz6⟩
       ·rw [if_neg c6] at H
        exact absurd H (by simp)
      ·rw [if_neg c5] at H
       have c5b0 : decide (x5_2 < (l0.length : Int)) = false := decide_eq_false c5; clear c5
       by_cases c19 : x3_2 = 1
       ·rw [if_pos c19] at H
        have c19b0 : (x3_2 == 1) = true := beq_iff_eq.mpr c19; have c19b1 : (x3_2 != 1) = false := bne_eq_false_iff_eq.mpr c19; clear c19; obtain rfl := Option.some.inj H
        go_wp2
        go_ret
        exact ⟨qz13, qz6⟩
       ·rw [if_neg c19] at H
        have c19b0 : (x3_2 == 1) = false := beq_eq_false_iff_ne.mpr c19; have c19b1 : (x3_2 != 1) = true := bne_iff_ne.mpr c19; obtain rfl := Option.some.inj H
        go_wp2
        go_ret
        exact ⟨qz13, qz6⟩
/-! ### spec_ExprOk: function 165 -/
set_option maxHeartbeats 8000000 in
set_option maxRecDepth 100000 in
theorem spec_ExprOk.calls (k : Nat) (A0 : Option Addr) (c0 : Nat) (l0 : List (S231)) (r : Bool) (w : World) (hr0 : Kd.C k231 w A0 l0.length l0) (hc0 : l0.length ≤ c0) (h : spec_ExprOk.f k l0 = some r) :
  Calls Try.prog 165 #[.slice A0 l0.length c0] w fun e w' => e = .returned (.bool r) ∧ Below w.heap.size w w' := by
 have HR0 := Aside0.mk hr0
 have HC0 := Aside0.mk hc0
 clear hr0 hc0
 have HB := Aside0.mk (Below.refl w.heap.size w)
 have H : ((spec_l03Depth.f k l0).bind fun t101 => (some (decide (t101 ≥ 0)))) = some r := h
 clear h
 replace H := qB H
 obtain ⟨t101, A2, H⟩ := H
 try dsimp only at H
 obtain rfl := Option.some.inj H
 go_enter Try.func165, Try.ntmps165
 go_wp2_with (first | ((with_reducible refine gate_callee (f := 243) rfl ?_); refine goesL_ (some 4) rfl rfl Try.func243 (by kernel_rfl) rfl #[.slice A0 l0.length c0] rfl qz1 ?_; (with_reducible refine (spec_l03Depth.calls k _ _ l0 t101 _ ?side1 ?side2 A2.out).mono ?_); (case side1 => exact qz62 HR0.out); (case side2 => exact HC0.out); rintro e w3 ⟨rfl, hb⟩; refine ⟨_, rfl, ?_⟩; replace HB := Aside0.mk (below_step qz6 hb); (try clear hb); (try clear hb2); (try clear hk); (try clear hi)))
 go_ret
 exact ⟨qz13, qz6⟩
/-! ### spec_WinOk: function 166 -/
set_option maxHeartbeats 8000000 in
set_option maxRecDepth 100000 in
theorem spec_WinOk.calls (k : Nat) (a0_0 : Int) (a0_1 : Int) (a0_2 : Int) (r : Bool) (w : World) (h : spec_WinOk.f k a0_0 a0_1 a0_2 = some r) :
  Calls Try.prog 166 #[.agg #[.int .i64 a0_0, .int .i64 a0_1, .int .i64 a0_2]] w fun e w' => e = .returned (.bool r) ∧ Below w.heap.size w w' := by
 have hu100 := Try.underlying100
 have HB := Aside0.mk (Below.refl w.heap.size w)
 have H : (if a0_0 < 1 then (spec_WinOk.j0 k true a0_0 a0_1 a0_2) else (if a0_0 > 3 then (spec_WinOk.j0 k true a0_0 a0_1 a0_2) else (if a0_1 < 1 then (spec_WinOk.j0 k true a0_0 a0_1 a0_2) else (spec_WinOk.j0 k (decide (a0_1 > 100)) a0_0 a0_1 a0_2)))) = some r := h
 clear h
 have HC2 := Aside0.mk H
 clear H
 go_enter Try.func166, Try.ntmps166
 go_upto_region 1 with (first | ((with_reducible refine gate_dst (N := 1) rfl ?_); refine box_event ?hg (N := 1) ?hd (cs := #[.int .i64 a0_0, .int .i64 a0_1, .int .i64 a0_2]) (t := 100) ?hr ?_; (case hd => rfl); (case hg => rfl); (case hr => exact qz5); intro gb101 hg w3 hbox hb; have h_ := qA4 (below_step qz6 hb) (hbox) ((qz7 : w.heap.size ≤ gb101)) ((qz7 : w.heap.size ≤ gb101)); clear HB; obtain ⟨HB, BK101, GW101, GE101⟩ := h_; clear hb hbox hg))
 (try simp only [Act.put, List.setIfInBounds_toArray, List.set_cons_zero, List.set_cons_succ])
 go_cut [20] (fun v20 wc => ∃ (kq : Nat) (x20_1 : Bool), v20 = .bool x20_1 ∧ Aside0 (spec_WinOk.j0 kq x20_1 a0_0 a0_1 a0_2 = some r) ∧ Aside0 (kq ≤ k) ∧ Aside0 (wc.heap[gb101]? = some (.cells #[.int .i64 a0_0, .int .i64 a0_1, .int .i64 a0_2] 100 (0, 0))) ∧ Aside0 (Below w.heap.size w wc))
 case first =>
  have H := HC2.out; clear HC2
  by_cases c4 : a0_0 < 1
  ·rw [if_pos c4] at H
   have c4b0 : decide (a0_0 < 1) = true := decide_eq_true c4; clear c4
   (first | rw [c4b0] | (simp only [i64_w, i32_w]; rw [c4b0]) | skip)
   have H' := Aside0.mk H; clear H; obtain ⟨hcz5_0, hcz5_1, hcz5_2⟩ := qC3 BK101.out; obtain ⟨hfz5_0, hfz5_1, hfz5_2⟩ := qF3 BK101.out
   go_wp2
   go_meet
   case rel => exact ⟨_, (true), qz2, H', ⟨qz36⟩, ⟨qz8 BK101.out⟩, ⟨qz10 GE101.out⟩⟩
  ·rw [if_neg c4] at H
   have c4b0 : decide (a0_0 < 1) = false := decide_eq_false c4; clear c4
   (first | rw [c4b0] | (simp only [i64_w, i32_w]; rw [c4b0]) | skip)
   by_cases c6 : a0_0 > 3
   ·rw [if_pos c6] at H
    have c6b0 : decide (3 < a0_0) = true := decide_eq_true c6; clear c6; have H' := Aside0.mk H; clear H; obtain ⟨hcz7_0, hcz7_1, hcz7_2⟩ := qC3 BK101.out; obtain ⟨hfz7_0, hfz7_1, hfz7_2⟩ := qF3 BK101.out
    go_wp2
    go_meet
    case rel => exact ⟨_, (true), qz2, H', ⟨qz36⟩, ⟨qz8 BK101.out⟩, ⟨qz10 GE101.out⟩⟩
   ·rw [if_neg c6] at H
    have c6b0 : decide (3 < a0_0) = false := decide_eq_false c6; clear c6
    by_cases c8 : a0_1 < 1
    ·rw [if_pos c8] at H
     have c8b0 : decide (a0_1 < 1) = true := decide_eq_true c8; clear c8; have H' := Aside0.mk H; clear H; obtain ⟨hcz9_0, hcz9_1, hcz9_2⟩ := qC3 BK101.out; obtain ⟨hfz9_0, hfz9_1, hfz9_2⟩ := qF3 BK101.out
     go_wp2
     go_meet
     case rel => exact ⟨_, (true), qz2, H', ⟨qz36⟩, ⟨qz8 BK101.out⟩, ⟨qz10 GE101.out⟩⟩
    ·rw [if_neg c8] at H
     have c8b0 : decide (a0_1 < 1) = false := decide_eq_false c8; clear c8; have H' := Aside0.mk H; clear H; obtain ⟨hcz10_0, hcz10_1, hcz10_2⟩ := qC3 BK101.out; obtain ⟨hfz10_0, hfz10_1, hfz10_2⟩ := qF3 BK101.out
     go_wp2
     go_meet
     case rel => exact ⟨_, (decide (a0_1 > 100)), qz2, H', ⟨qz36⟩, ⟨qz8 BK101.out⟩, ⟨qz10 GE101.out⟩⟩
 case rest =>
  clear HC2; (try clear c1); (try clear p2); (try clear c4); (try clear c4b0); (try clear c6); (try clear c6b0); (try clear c8); (try clear c8b0); (try clear hcz10_0); (try clear hcz10_1); (try clear hcz10_2); (try clear hcz5_0); (try clear hcz5_1); (try clear hcz5_2); (try clear hcz7_0); (try clear hcz7_1); (try clear hcz7_2); (try clear hcz9_0); (try clear hcz9_1); (try clear hcz9_2); (try clear hfz10_0); (try clear hfz10_1); (try clear hfz10_2); (try clear hfz5_0); (try clear hfz5_1); (try clear hfz5_2); (try clear hfz7_0); (try clear hfz7_1); (try clear hfz7_2); (try clear hfz9_0); (try clear hfz9_1); (try clear hfz9_2); obtain ⟨kq, x20_1, rfl, HA, HJ1, BK101, HB⟩ := hcut
  cases kq with
  | zero => exact absurd HA.out (by simp [spec_WinOk.j0])
  | succ kj1 =>
   have H := HA.out; clear HA; simp only [spec_WinOk.j0] at H
   by_cases c11 : x20_1 = true
   ·subst c11
    rw [if_pos rfl] at H; obtain rfl := Option.some.inj H
    go_wp2
    go_ret
    exact ⟨qz13, qz10 GE101.out⟩
   ·replace c11 := Bool.eq_false_iff.mpr c11
    subst c11; rw [if_neg (show ¬ (false = true) by decide)] at H
    by_cases c12 : a0_0 = 2
    ·rw [if_pos c12] at H
     have c12b0 : (a0_0 == 2) = true := beq_iff_eq.mpr c12; have c12b1 : (a0_0 != 2) = false := bne_eq_false_iff_eq.mpr c12; clear c12
     by_cases c13 : a0_2 ≥ 1
     ·rw [if_pos c13] at H
      have c13b0 : decide (1 ≤ a0_2) = true := decide_eq_true c13; clear c13
      by_cases c14 : a0_2 ≤ a0_1
      ·rw [if_pos c14] at H
       have c14b0 : decide (a0_2 ≤ a0_1) = true := decide_eq_true c14; clear c14; obtain rfl := Option.some.inj H; obtain ⟨hcz15_0, hcz15_1, hcz15_2⟩ := qC3 BK101.out; obtain ⟨hfz15_0, hfz15_1, hfz15_2⟩ := qF3 BK101.out
       go_wp2
       go_ret
       exact ⟨qz13, qz10 GE101.out⟩
      ·rw [if_neg c14] at H
       have c14b0 : decide (a0_2 ≤ a0_1) = false := decide_eq_false c14; clear c14; obtain rfl := Option.some.inj H; obtain ⟨hcz16_0, hcz16_1, hcz16_2⟩ := qC3 BK101.out; obtain ⟨hfz16_0, hfz16_1, hfz16_2⟩ := qF3 BK101.out
       go_wp2
       go_ret
       exact ⟨qz13, qz10 GE101.out⟩
     ·rw [if_neg c13] at H
      have c13b0 : decide (1 ≤ a0_2) = false := decide_eq_false c13; clear c13; obtain rfl := Option.some.inj H; obtain ⟨hcz17_0, hcz17_1, hcz17_2⟩ := qC3 BK101.out; obtain ⟨hfz17_0, hfz17_1, hfz17_2⟩ := qF3 BK101.out
      go_wp2
      go_ret
      exact ⟨qz13, qz10 GE101.out⟩
    ·rw [if_neg c12] at H
     have c12b0 : (a0_0 == 2) = false := beq_eq_false_iff_ne.mpr c12; have c12b1 : (a0_0 != 2) = true := bne_iff_ne.mpr c12; obtain rfl := Option.some.inj H; obtain ⟨hcz18_0, hcz18_1, hcz18_2⟩ := qC3 BK101.out; obtain ⟨hfz18_0, hfz18_1, hfz18_2⟩ := qF3 BK101.out
     go_wp2
     go_ret
     exact ⟨qz13, qz10 GE101.out⟩
/-! ### spec_QueryOk: function 70 -/
set_option maxHeartbeats 8000000 in
set_option maxRecDepth 100000 in
theorem spec_QueryOk.calls (k : Nat) (A0_0 : Option Addr) (c0_0 : Nat) (l0_0 : List (S231)) (A0_1 : Option Addr) (c0_1 : Nat) (l0_1 : List (S231)) (a0_2 : Int) (a0_3 : Int) (a0_4 : Int) (a0_5 : Int) (a0_6 : Int) (r : Bool) (w : World) (hr0_0 : Kd.C k231 w A0_0 l0_0.length l0_0) (hc0_0 : l0_0.length ≤ c0_0) (hr0_1 : Kd.C k231 w A0_1 l0_1.length l0_1) (hc0_1 : l0_1.length ≤ c0_1) (h : spec_QueryOk.f k l0_0 l0_1 a0_2 a0_3 a0_4 a0_5 a0_6 = some r) :
  Calls Try.prog 70 #[.agg #[.slice A0_0 l0_0.length c0_0, .slice A0_1 l0_1.length c0_1, .int .i64 a0_2, .int .i64 a0_3, .int .i64 a0_4, .int .i64 a0_5, .int .i64 a0_6]] w fun e w' => e = .returned (.bool r) ∧ Below w.heap.size w w' := by
 have hu102 := Try.underlying102
 have hu100 := Try.underlying100
 have HR0_0 := Aside0.mk hr0_0
 have HC0_0 := Aside0.mk hc0_0
 clear hr0_0 hc0_0
 have HR0_1 := Aside0.mk hr0_1
 have HC0_1 := Aside0.mk hc0_1
 clear hr0_1 hc0_1
 have HB := Aside0.mk (Below.refl w.heap.size w)
 have H : ((spec_ExprOk.f k l0_0).bind fun t102 => (if t102 = true then ((spec_ExprOk.f k l0_1).bind fun t103 => (if t103 = true then ((spec_WinOk.f k a0_2 a0_3 a0_4).bind fun t104 => (if t104 = true then ((spec_AggKind.f a0_5 a0_6).bind fun t105 => (some t105)) else (some false))) else (some false))) else (some false))) = some r := h
 clear h
 replace H := qB H
 obtain ⟨t102, A2, H⟩ := H
 try dsimp only at H
 by_cases c3 : t102 = true
 ·subst c3
  rw [if_pos rfl] at H; replace H := qB H; obtain ⟨t103, A4, H⟩ := H
  try dsimp only at H
  by_cases c5 : t103 = true
  ·subst c5
   rw [if_pos rfl] at H; replace H := qB H; obtain ⟨t104, A6, H⟩ := H
   try dsimp only at H
   by_cases c7 : t104 = true
   ·subst c7
    rw [if_pos rfl] at H; replace H := qB H; obtain ⟨t105, A8, H⟩ := H
    try dsimp only at H
    obtain rfl := Option.some.inj H; go_enter Try.func70, Try.ntmps70
    go_wp2_with (first | ((with_reducible refine gate_dst (N := 1) rfl ?_); refine box_event ?hg (N := 1) ?hd (cs := #[.slice A0_0 l0_0.length c0_0, .slice A0_1 l0_1.length c0_1, .int .i64 a0_2, .int .i64 a0_3, .int .i64 a0_4, .int .i64 a0_5, .int .i64 a0_6]) (t := 102) ?hr ?_; (case hd => rfl); (case hg => rfl); (case hr => exact qz5); intro gb101 hg w9 hbox hb; have h_ := qA4 (below_step qz6 hb) (hbox) ((qz7 : w.heap.size ≤ gb101)) ((qz7 : w.heap.size ≤ gb101)); clear HB; obtain ⟨HB, BK101, GW101, GE101⟩ := h_; clear hb hbox hg; obtain ⟨hcz10_0, hcz10_1, hcz10_2, hcz10_3, hcz10_4, hcz10_5, hcz10_6⟩ := qC7 BK101.out; obtain ⟨hfz10_0, hfz10_1, hfz10_2, hfz10_3, hfz10_4, hfz10_5, hfz10_6⟩ := qF7 BK101.out) | ((with_reducible refine gate_callee (f := 165) rfl ?_); refine goesL_ (some 5) rfl rfl Try.func165 (by kernel_rfl) rfl #[.slice A0_0 l0_0.length c0_0] rfl qz1 ?_; (with_reducible refine (spec_ExprOk.calls k _ _ l0_0 true _ ?side1 ?side2 A2.out).mono ?_); (case side1 => exact qz17 HR0_0.out); (case side2 => exact HC0_0.out); rintro e w11 ⟨rfl, hb⟩; refine ⟨_, rfl, ?_⟩; have h_ := qA2 (blk_below (g := gb101) (o := .cells #[.slice A0_0 l0_0.length c0_0, .slice A0_1 l0_1.length c0_1, .int .i64 a0_2, .int .i64 a0_3, .int .i64 a0_4, .int .i64 a0_5, .int .i64 a0_6] 102 (0, 0)) (qz8 BK101.out) hb) (below_step (qz10 GE101.out) hb); clear BK101 HB; obtain ⟨BK101, HB⟩ := h_; (try clear hb); (try clear hb2); (try clear hk); (try clear hi); obtain ⟨hcz12_0, hcz12_1, hcz12_2, hcz12_3, hcz12_4, hcz12_5, hcz12_6⟩ := qC7 BK101.out; obtain ⟨hfz12_0, hfz12_1, hfz12_2, hfz12_3, hfz12_4, hfz12_5, hfz12_6⟩ := qF7 BK101.out) | (go_at_call 165; (with_reducible refine (spec_ExprOk.calls k _ _ l0_1 true _ ?side1 ?side2 A4.out).mono ?_); (case side1 => exact qz17 HR0_1.out); (case side2 => exact HC0_1.out); rintro e w13 ⟨rfl, hb⟩; have h_ := qA2 (blk_below (g := gb101) (o := .cells #[.slice A0_0 l0_0.length c0_0, .slice A0_1 l0_1.length c0_1, .int .i64 a0_2, .int .i64 a0_3, .int .i64 a0_4, .int .i64 a0_5, .int .i64 a0_6] 102 (0, 0)) (qz8 BK101.out) hb) (below_step (qz10 GE101.out) hb); clear BK101 HB; obtain ⟨BK101, HB⟩ := h_; (try clear hb); (try clear hb2); (try clear hk); (try clear hi); obtain ⟨hcz14_0, hcz14_1, hcz14_2, hcz14_3, hcz14_4, hcz14_5, hcz14_6⟩ := qC7 BK101.out; obtain ⟨hfz14_0, hfz14_1, hfz14_2, hfz14_3, hfz14_4, hfz14_5, hfz14_6⟩ := qF7 BK101.out) | (go_at_call 166; (with_reducible refine (spec_WinOk.calls k a0_2 a0_3 a0_4 true _ A6.out).mono ?_); rintro e w15 ⟨rfl, hb⟩; have h_ := qA2 (blk_below (g := gb101) (o := .cells #[.slice A0_0 l0_0.length c0_0, .slice A0_1 l0_1.length c0_1, .int .i64 a0_2, .int .i64 a0_3, .int .i64 a0_4, .int .i64 a0_5, .int .i64 a0_6] 102 (0, 0)) (qz8 BK101.out) hb) (below_step (qz10 GE101.out) hb); clear BK101 HB; obtain ⟨BK101, HB⟩ := h_; (try clear hb); (try clear hb2); (try clear hk); (try clear hi); obtain ⟨hcz16_0, hcz16_1, hcz16_2, hcz16_3, hcz16_4, hcz16_5, hcz16_6⟩ := qC7 BK101.out; obtain ⟨hfz16_0, hfz16_1, hfz16_2, hfz16_3, hfz16_4, hfz16_5, hfz16_6⟩ := qF7 BK101.out) | (go_at_call 167; (with_reducible refine (spec_AggKind.calls a0_5 a0_6 t105 _ A8.out).mono ?_); rintro e w' ⟨rfl, ⟨nd, rfl⟩⟩))
    go_ret
    exact ⟨qz13, qz10 GE101.out⟩
   ·replace c7 := Bool.eq_false_iff.mpr c7
    subst c7; rw [if_neg (show ¬ (false = true) by decide)] at H
    obtain rfl := Option.some.inj H; go_enter Try.func70, Try.ntmps70
    go_wp2_with (first | ((with_reducible refine gate_dst (N := 1) rfl ?_); refine box_event ?hg (N := 1) ?hd (cs := #[.slice A0_0 l0_0.length c0_0, .slice A0_1 l0_1.length c0_1, .int .i64 a0_2, .int .i64 a0_3, .int .i64 a0_4, .int .i64 a0_5, .int .i64 a0_6]) (t := 102) ?hr ?_; (case hd => rfl); (case hg => rfl); (case hr => exact qz5); intro gb101 hg w17 hbox hb; have h_ := qA4 (below_step qz6 hb) (hbox) ((qz7 : w.heap.size ≤ gb101)) ((qz7 : w.heap.size ≤ gb101)); clear HB; obtain ⟨HB, BK101, GW101, GE101⟩ := h_; clear hb hbox hg; obtain ⟨hcz18_0, hcz18_1, hcz18_2, hcz18_3, hcz18_4, hcz18_5, hcz18_6⟩ := qC7 BK101.out; obtain ⟨hfz18_0, hfz18_1, hfz18_2, hfz18_3, hfz18_4, hfz18_5, hfz18_6⟩ := qF7 BK101.out) | ((with_reducible refine gate_callee (f := 165) rfl ?_); refine goesL_ (some 5) rfl rfl Try.func165 (by kernel_rfl) rfl #[.slice A0_0 l0_0.length c0_0] rfl qz1 ?_; (with_reducible refine (spec_ExprOk.calls k _ _ l0_0 true _ ?side1 ?side2 A2.out).mono ?_); (case side1 => exact qz17 HR0_0.out); (case side2 => exact HC0_0.out); rintro e w19 ⟨rfl, hb⟩; refine ⟨_, rfl, ?_⟩; have h_ := qA2 (blk_below (g := gb101) (o := .cells #[.slice A0_0 l0_0.length c0_0, .slice A0_1 l0_1.length c0_1, .int .i64 a0_2, .int .i64 a0_3, .int .i64 a0_4, .int .i64 a0_5, .int .i64 a0_6] 102 (0, 0)) (qz8 BK101.out) hb) (below_step (qz10 GE101.out) hb); clear BK101 HB; obtain ⟨BK101, HB⟩ := h_; (try clear hb); (try clear hb2); (try clear hk); (try clear hi); obtain ⟨hcz20_0, hcz20_1, hcz20_2, hcz20_3, hcz20_4, hcz20_5, hcz20_6⟩ := qC7 BK101.out; obtain ⟨hfz20_0, hfz20_1, hfz20_2, hfz20_3, hfz20_4, hfz20_5, hfz20_6⟩ := qF7 BK101.out) | (go_at_call 165; (with_reducible refine (spec_ExprOk.calls k _ _ l0_1 true _ ?side1 ?side2 A4.out).mono ?_); (case side1 => exact qz17 HR0_1.out); (case side2 => exact HC0_1.out); rintro e w21 ⟨rfl, hb⟩; have h_ := qA2 (blk_below (g := gb101) (o := .cells #[.slice A0_0 l0_0.length c0_0, .slice A0_1 l0_1.length c0_1, .int .i64 a0_2, .int .i64 a0_3, .int .i64 a0_4, .int .i64 a0_5, .int .i64 a0_6] 102 (0, 0)) (qz8 BK101.out) hb) (below_step (qz10 GE101.out) hb); clear BK101 HB; obtain ⟨BK101, HB⟩ := h_; (try clear hb); (try clear hb2); (try clear hk); (try clear hi); obtain ⟨hcz22_0, hcz22_1, hcz22_2, hcz22_3, hcz22_4, hcz22_5, hcz22_6⟩ := qC7 BK101.out; obtain ⟨hfz22_0, hfz22_1, hfz22_2, hfz22_3, hfz22_4, hfz22_5, hfz22_6⟩ := qF7 BK101.out) | (go_at_call 166; (with_reducible refine (spec_WinOk.calls k a0_2 a0_3 a0_4 false _ A6.out).mono ?_); rintro e w23 ⟨rfl, hb⟩; have h_ := qA2 (blk_below (g := gb101) (o := .cells #[.slice A0_0 l0_0.length c0_0, .slice A0_1 l0_1.length c0_1, .int .i64 a0_2, .int .i64 a0_3, .int .i64 a0_4, .int .i64 a0_5, .int .i64 a0_6] 102 (0, 0)) (qz8 BK101.out) hb) (below_step (qz10 GE101.out) hb); clear BK101 HB; obtain ⟨BK101, HB⟩ := h_; (try clear hb); (try clear hb2); (try clear hk); (try clear hi)))
    go_ret
    exact ⟨qz13, qz10 GE101.out⟩
  ·replace c5 := Bool.eq_false_iff.mpr c5
   subst c5; rw [if_neg (show ¬ (false = true) by decide)] at H
   obtain rfl := Option.some.inj H; go_enter Try.func70, Try.ntmps70
   go_wp2_with (first | ((with_reducible refine gate_dst (N := 1) rfl ?_); refine box_event ?hg (N := 1) ?hd (cs := #[.slice A0_0 l0_0.length c0_0, .slice A0_1 l0_1.length c0_1, .int .i64 a0_2, .int .i64 a0_3, .int .i64 a0_4, .int .i64 a0_5, .int .i64 a0_6]) (t := 102) ?hr ?_; (case hd => rfl); (case hg => rfl); (case hr => exact qz5); intro gb101 hg w24 hbox hb; have h_ := qA4 (below_step qz6 hb) (hbox) ((qz7 : w.heap.size ≤ gb101)) ((qz7 : w.heap.size ≤ gb101)); clear HB; obtain ⟨HB, BK101, GW101, GE101⟩ := h_; clear hb hbox hg; obtain ⟨hcz25_0, hcz25_1, hcz25_2, hcz25_3, hcz25_4, hcz25_5, hcz25_6⟩ := qC7 BK101.out; obtain ⟨hfz25_0, hfz25_1, hfz25_2, hfz25_3, hfz25_4, hfz25_5, hfz25_6⟩ := qF7 BK101.out) | ((with_reducible refine gate_callee (f := 165) rfl ?_); refine goesL_ (some 5) rfl rfl Try.func165 (by kernel_rfl) rfl #[.slice A0_0 l0_0.length c0_0] rfl qz1 ?_; (with_reducible refine (spec_ExprOk.calls k _ _ l0_0 true _ ?side1 ?side2 A2.out).mono ?_); (case side1 => exact qz17 HR0_0.out); (case side2 => exact HC0_0.out); rintro e w26 ⟨rfl, hb⟩; refine ⟨_, rfl, ?_⟩; have h_ := qA2 (blk_below (g := gb101) (o := .cells #[.slice A0_0 l0_0.length c0_0, .slice A0_1 l0_1.length c0_1, .int .i64 a0_2, .int .i64 a0_3, .int .i64 a0_4, .int .i64 a0_5, .int .i64 a0_6] 102 (0, 0)) (qz8 BK101.out) hb) (below_step (qz10 GE101.out) hb); clear BK101 HB; obtain ⟨BK101, HB⟩ := h_; (try clear hb); (try clear hb2); (try clear hk); (try clear hi); obtain ⟨hcz27_0, hcz27_1, hcz27_2, hcz27_3, hcz27_4, hcz27_5, hcz27_6⟩ := qC7 BK101.out; obtain ⟨hfz27_0, hfz27_1, hfz27_2, hfz27_3, hfz27_4, hfz27_5, hfz27_6⟩ := qF7 BK101.out) | (go_at_call 165; (with_reducible refine (spec_ExprOk.calls k _ _ l0_1 false _ ?side1 ?side2 A4.out).mono ?_); (case side1 => exact qz17 HR0_1.out); (case side2 => exact HC0_1.out); rintro e w28 ⟨rfl, hb⟩; have h_ := qA2 (blk_below (g := gb101) (o := .cells #[.slice A0_0 l0_0.length c0_0, .slice A0_1 l0_1.length c0_1, .int .i64 a0_2, .int .i64 a0_3, .int .i64 a0_4, .int .i64 a0_5, .int .i64 a0_6] 102 (0, 0)) (qz8 BK101.out) hb) (below_step (qz10 GE101.out) hb); clear BK101 HB; obtain ⟨BK101, HB⟩ := h_; (try clear hb); (try clear hb2); (try clear hk); (try clear hi)))
   go_ret
   exact ⟨qz13, qz10 GE101.out⟩
 ·replace c3 := Bool.eq_false_iff.mpr c3
  subst c3; rw [if_neg (show ¬ (false = true) by decide)] at H
  obtain rfl := Option.some.inj H; go_enter Try.func70, Try.ntmps70
  go_wp2_with (first | ((with_reducible refine gate_dst (N := 1) rfl ?_); refine box_event ?hg (N := 1) ?hd (cs := #[.slice A0_0 l0_0.length c0_0, .slice A0_1 l0_1.length c0_1, .int .i64 a0_2, .int .i64 a0_3, .int .i64 a0_4, .int .i64 a0_5, .int .i64 a0_6]) (t := 102) ?hr ?_; (case hd => rfl); (case hg => rfl); (case hr => exact qz5); intro gb101 hg w29 hbox hb; have h_ := qA4 (below_step qz6 hb) (hbox) ((qz7 : w.heap.size ≤ gb101)) ((qz7 : w.heap.size ≤ gb101)); clear HB; obtain ⟨HB, BK101, GW101, GE101⟩ := h_; clear hb hbox hg; obtain ⟨hcz30_0, hcz30_1, hcz30_2, hcz30_3, hcz30_4, hcz30_5, hcz30_6⟩ := qC7 BK101.out; obtain ⟨hfz30_0, hfz30_1, hfz30_2, hfz30_3, hfz30_4, hfz30_5, hfz30_6⟩ := qF7 BK101.out) | ((with_reducible refine gate_callee (f := 165) rfl ?_); refine goesL_ (some 5) rfl rfl Try.func165 (by kernel_rfl) rfl #[.slice A0_0 l0_0.length c0_0] rfl qz1 ?_; (with_reducible refine (spec_ExprOk.calls k _ _ l0_0 false _ ?side1 ?side2 A2.out).mono ?_); (case side1 => exact qz17 HR0_0.out); (case side2 => exact HC0_0.out); rintro e w31 ⟨rfl, hb⟩; refine ⟨_, rfl, ?_⟩; have h_ := qA2 (blk_below (g := gb101) (o := .cells #[.slice A0_0 l0_0.length c0_0, .slice A0_1 l0_1.length c0_1, .int .i64 a0_2, .int .i64 a0_3, .int .i64 a0_4, .int .i64 a0_5, .int .i64 a0_6] 102 (0, 0)) (qz8 BK101.out) hb) (below_step (qz10 GE101.out) hb); clear BK101 HB; obtain ⟨BK101, HB⟩ := h_; (try clear hb); (try clear hb2); (try clear hk); (try clear hi)))
  go_ret
  exact ⟨qz13, qz10 GE101.out⟩
theorem eqA234 (d : Nat) (w : World) (x0 y0 : Int) (x1 y1 : Int) :
  (Op.equalIn (d + 2) 234 (.agg #[.int .i64 x0, .int .u64 x1]) (.agg #[.int .i64 y0, .int .u64 y1])).run Try.prog w = .ok (x0 == y0 && (x1 == y1)) w := by
 refine eqA_of Try.underlying234 (by kernel_rfl) ?_
 refine eqf_cons (by rfl) (by go_simp; rfl) (by go_simp; rfl) (by go_simp) ?_
 exact eqf_last (by rfl) (by go_simp; rfl) (by go_simp; rfl) (by go_simp)
/-! ### spec_WideOf: function 280 -/
set_option maxHeartbeats 8000000 in
set_option maxRecDepth 100000 in
theorem spec_WideOf.calls (a0 : Int) (r1 : Int) (r2 : Int) (w : World) (h : spec_WideOf.f a0 = some (r1, r2)) :
  Calls Try.prog 280 #[.int .i64 a0] w fun e w' => e = .returned (.agg #[.int .i64 r1, .int .u64 r2]) ∧ Below w.heap.size w w' := by
 have hu234 := Try.underlying234
 have HB := Aside0.mk (Below.refl w.heap.size w)
 have H : (if a0 < 0 then (some ((-1), IntKind.u64.wrap (a0))) else (some (0, IntKind.u64.wrap (a0)))) = some (r1, r2) := h
 clear h
 by_cases c2 : a0 < 0
 ·rw [if_pos c2] at H
  have c2b0 : decide (a0 < 0) = true := decide_eq_true c2; clear c2; simp only [Option.some.injEq, Prod.mk.injEq] at H; obtain ⟨rfl, rfl⟩ := H; go_enter Try.func280, Try.ntmps280
  go_wp2_with (first | ((with_reducible refine gate_dst (N := 2) rfl ?_); refine box_event ?hg (N := 2) ?hd (cs := #[.int .i64 0, .int .u64 0]) (t := 234) ?hr ?_; (case hd => rfl); (case hg => rfl); (case hr => exact qz5); intro gb101 hg w3 hbox hb; have h_ := qA4 (below_step qz6 hb) (hbox) ((qz7 : w.heap.size ≤ gb101)) ((qz7 : w.heap.size ≤ gb101)); clear HB; obtain ⟨HB, BK101, GW101, GE101⟩ := h_; clear hb hbox hg; obtain ⟨hcz4_0, hcz4_1⟩ := qC2 BK101.out; obtain ⟨hfz4_0, hfz4_1⟩ := qF2 BK101.out))
  refine bodyPost_ret (results_cell_row rfl _ _ gb101 234 #[.int .i64 (-1), .int .u64 (IntKind.u64.wrap (a0))] (0, 0) _ rfl (by (with_reducible repeat (first | refine blk_drewN ?_ _ | refine blk_drew ?_ | refine blk_alloc ?_ _)); refine blk_put (cs := #[.int .i64 (-1), .int .u64 0]) ?_ 1 _ rfl; (with_reducible repeat (first | refine blk_drewN ?_ _ | refine blk_drew ?_ | refine blk_alloc ?_ _)); refine blk_put (cs := #[.int .i64 0, .int .u64 0]) ?_ 0 _ rfl; (with_reducible repeat (first | refine blk_drewN ?_ _ | refine blk_drew ?_ | refine blk_alloc ?_ _)); exact BK101.out) Try.underlying234 rfl (by kernel_rfl)) rfl ?_
  exact ⟨qz13, qz10 GE101.out⟩
 ·rw [if_neg c2] at H
  have c2b0 : decide (a0 < 0) = false := decide_eq_false c2; clear c2; simp only [Option.some.injEq, Prod.mk.injEq] at H; obtain ⟨rfl, rfl⟩ := H; go_enter Try.func280, Try.ntmps280
  go_wp2_with (first | ((with_reducible refine gate_dst (N := 2) rfl ?_); refine box_event ?hg (N := 2) ?hd (cs := #[.int .i64 0, .int .u64 0]) (t := 234) ?hr ?_; (case hd => rfl); (case hg => rfl); (case hr => exact qz5); intro gb101 hg w5 hbox hb; have h_ := qA4 (below_step qz6 hb) (hbox) ((qz7 : w.heap.size ≤ gb101)) ((qz7 : w.heap.size ≤ gb101)); clear HB; obtain ⟨HB, BK101, GW101, GE101⟩ := h_; clear hb hbox hg; obtain ⟨hcz6_0, hcz6_1⟩ := qC2 BK101.out; obtain ⟨hfz6_0, hfz6_1⟩ := qF2 BK101.out))
  refine bodyPost_ret (results_cell_row rfl _ _ gb101 234 #[.int .i64 0, .int .u64 (IntKind.u64.wrap (a0))] (0, 0) _ rfl (qz233 BK101.out) Try.underlying234 rfl (by kernel_rfl)) rfl ?_
  exact ⟨qz13, qz10 GE101.out⟩
end Go.Proofs.Ytjhfjnknajhanaa.P
namespace Go.Proofs.Ytjhfjnknajhanaa.P
open Go.RowKit Go.Proofs.YtjhfjnknajhanaaW.PrintWords Go.Proofs.YtjhfjnknajhanaaW.PrintLast Go.Proofs.YtjhfjnknajhanaaW.PrintMore
attribute [local go_sem] max2_int min2_int max_two min_two max_three min_three max_four min_four
set_option linter.unusedVariables false
set_option linter.unusedSimpArgs false
attribute [local go_sem high] eqA234
/-! ### spec_WideInt: function 242 -/
set_option maxHeartbeats 8000000 in
set_option maxRecDepth 100000 in
theorem spec_WideInt.calls (a0_0 : Int) (a0_1 : Int) (r1 : Int) (r2 : Bool) (w : World) (h : spec_WideInt.f a0_0 a0_1 = some (r1, r2)) :
  Calls Try.prog 242 #[.agg #[.int .i64 a0_0, .int .u64 a0_1]] w fun e w' => e = .returned (.tuple #[.int .i64 r1, .bool r2]) ∧ Below w.heap.size w w' := by
 have hu234 := Try.underlying234
 have HB := Aside0.mk (Below.refl w.heap.size w)
 have H : ((spec_WideOf.f (wrap64 (a0_1))).bind fun bt102 => (if (!(bt102.1 == a0_0) || (!(bt102.2 == a0_1))) = true then (some (0, false)) else (some (wrap64 (a0_1), true)))) = some (r1, r2) := h
 clear h
 replace H := qB H
 obtain ⟨⟨t102, t103⟩, A2, H⟩ := H
 try dsimp only at H
 by_cases c3 : (!(t102 == a0_0) || (!(t103 == a0_1))) = true
 ·rw [if_pos c3] at H
  have c3b0 : (!(t102 == a0_0) || (!(t103 == a0_1))) = true := c3; clear c3; simp only [Option.some.injEq, Prod.mk.injEq] at H; obtain ⟨rfl, rfl⟩ := H; go_enter Try.func242, Try.ntmps242
  try go_wp2_with (first | ((with_reducible refine gate_dst (N := 1) rfl ?_); refine box_event ?hg (N := 1) ?hd (cs := #[.int .i64 a0_0, .int .u64 a0_1]) (t := 234) ?hr ?_; (case hd => rfl); (case hg => rfl); (case hr => exact qz5); intro gb101 hg w4 hbox hb; have h_ := qA4 (below_step qz6 hb) (hbox) ((qz7 : w.heap.size ≤ gb101)) ((qz7 : w.heap.size ≤ gb101)); clear HB; obtain ⟨HB, BK101, GW101, GE101⟩ := h_; clear hb hbox hg; obtain ⟨hcz5_0, hcz5_1⟩ := qC2 BK101.out; obtain ⟨hfz5_0, hfz5_1⟩ := qF2 BK101.out))
  have h_ := qA2 (blk_drew BK101.out) (below_drew1 HB.out); clear BK101 HB; obtain ⟨BK101, HB⟩ := h_; refine start_ (n := 4) (S := fun w' => w'.cell? ⟨gb101, 0, none⟩ = some (.int .i64 a0_0) ∧ w'.cell? ⟨gb101, 1, none⟩ = some (.int .u64 a0_1)) (ds := []) #[false, false, false, false] (by kernel_rfl) rfl rfl ⟨(blk_cell BK101.out 0).trans rfl, (blk_cell BK101.out 1).trans rfl⟩ (fun hHeld => ?_)
  generalize w4.drew = w6 at BK101 HB hHeld ⊢
  refine pure_ (i := 0) (N := some 8) (v := ?_) (a' := ?_) #[true, false, false, false] rfl rfl (by kernel_rfl) (fun _ _ _ h => h) (Or.inl ⟨by rfl, ?_⟩) ?_ ?_
  rotate_left
  ·intro w'
   go_simp
   with_reducible rfl
  rotate_left
  ·simp only [Act.put, List.setIfInBounds_toArray, List.set_cons_zero, List.set_cons_succ, i64_w, i32_w]
   rfl
  refine take_ (i := 2) (N := some 10) (v := ?_) (a' := ?_) #[true, false, true, false] rfl rfl (by kernel_rfl) (fun _ _ _ h => h) (Or.inl ⟨by rfl, ?_⟩) hHeld ?_ ?_
  rotate_left
  ·rintro w' ⟨s0, s1⟩
   go_simp
   with_reducible rfl
  rotate_left
  ·simp only [Act.put, List.setIfInBounds_toArray, List.set_cons_zero, List.set_cons_succ, i64_w, i32_w]
   rfl
  refine one_ (i := 1) (N := some 9) #[true, true, true, false] rfl rfl (by kernel_rfl) (by decide) (fun K hK => ?_)
  refine goes_ Try.func280 (by kernel_rfl) rfl #[.int .i64 (wrap64 (a0_1))] (by rfl) rfl rfl qz1 ?_
  with_reducible refine (spec_WideOf.calls (wrap64 (a0_1)) t102 t103 _ A2.out).mono ?_
  rintro e w7 ⟨rfl, hb⟩
  refine ⟨_, rfl, ?_⟩
  have h_ := qA2 (blk_below (g := gb101) (o := .cells #[.int .i64 a0_0, .int .u64 a0_1] 234 (0, 0)) (qz8 BK101.out) hb) (below_step (qz10 GE101.out) hb); clear BK101 HB; obtain ⟨BK101, HB⟩ := h_; (try clear hb); (try clear hb2); (try clear hk); (try clear hi); refine hK.out _ _ ⟨(blk_cell BK101.out 0).trans rfl, (blk_cell BK101.out 1).trans rfl⟩ (fun hHeld => ?_)
  clear hK K; refine norm_ (a' := ?_) ?_ ?_; rotate_left
  ·show Act.put _ (some 9) _ = _
   simp only [Act.put, List.setIfInBounds_toArray, List.set_cons_zero, List.set_cons_succ, i64_w, i32_w]
   rfl
  refine pure_ (i := 3) (N := some 11) (v := ?_) (a' := ?_) #[true, true, true, true] rfl rfl (by kernel_rfl) (fun _ _ _ h => h) (Or.inl ⟨by rfl, ?_⟩) ?_ ?_
  rotate_left
  ·intro w'
   go_simp
   with_reducible rfl
  rotate_left
  ·simp only [Act.put, List.setIfInBounds_toArray, List.set_cons_zero, List.set_cons_succ, i64_w, i32_w]
   rfl
  refine done_ (by kernel_rfl) ?_
  try go_wp2
  go_ret2
  exact ⟨qz13, qz10 GE101.out⟩
 ·rw [if_neg c3] at H
  have c3b0 : (!(t102 == a0_0) || (!(t103 == a0_1))) = false := by simpa using c3
  clear c3; simp only [Option.some.injEq, Prod.mk.injEq] at H; obtain ⟨rfl, rfl⟩ := H; go_enter Try.func242, Try.ntmps242
  try go_wp2_with (first | ((with_reducible refine gate_dst (N := 1) rfl ?_); refine box_event ?hg (N := 1) ?hd (cs := #[.int .i64 a0_0, .int .u64 a0_1]) (t := 234) ?hr ?_; (case hd => rfl); (case hg => rfl); (case hr => exact qz5); intro gb101 hg w8 hbox hb; have h_ := qA4 (below_step qz6 hb) (hbox) ((qz7 : w.heap.size ≤ gb101)) ((qz7 : w.heap.size ≤ gb101)); clear HB; obtain ⟨HB, BK101, GW101, GE101⟩ := h_; clear hb hbox hg; obtain ⟨hcz9_0, hcz9_1⟩ := qC2 BK101.out; obtain ⟨hfz9_0, hfz9_1⟩ := qF2 BK101.out))
  have h_ := qA2 (blk_drew BK101.out) (below_drew1 HB.out); clear BK101 HB; obtain ⟨BK101, HB⟩ := h_; refine start_ (n := 4) (S := fun w' => w'.cell? ⟨gb101, 0, none⟩ = some (.int .i64 a0_0) ∧ w'.cell? ⟨gb101, 1, none⟩ = some (.int .u64 a0_1)) (ds := []) #[false, false, false, false] (by kernel_rfl) rfl rfl ⟨(blk_cell BK101.out 0).trans rfl, (blk_cell BK101.out 1).trans rfl⟩ (fun hHeld => ?_)
  generalize w8.drew = w10 at BK101 HB hHeld ⊢
  refine pure_ (i := 0) (N := some 8) (v := ?_) (a' := ?_) #[true, false, false, false] rfl rfl (by kernel_rfl) (fun _ _ _ h => h) (Or.inl ⟨by rfl, ?_⟩) ?_ ?_
  rotate_left
  ·intro w'
   go_simp
   with_reducible rfl
  rotate_left
  ·simp only [Act.put, List.setIfInBounds_toArray, List.set_cons_zero, List.set_cons_succ, i64_w, i32_w]
   rfl
  refine take_ (i := 2) (N := some 10) (v := ?_) (a' := ?_) #[true, false, true, false] rfl rfl (by kernel_rfl) (fun _ _ _ h => h) (Or.inl ⟨by rfl, ?_⟩) hHeld ?_ ?_
  rotate_left
  ·rintro w' ⟨s0, s1⟩
   go_simp
   with_reducible rfl
  rotate_left
  ·simp only [Act.put, List.setIfInBounds_toArray, List.set_cons_zero, List.set_cons_succ, i64_w, i32_w]
   rfl
  refine one_ (i := 1) (N := some 9) #[true, true, true, false] rfl rfl (by kernel_rfl) (by decide) (fun K hK => ?_)
  refine goes_ Try.func280 (by kernel_rfl) rfl #[.int .i64 (wrap64 (a0_1))] (by rfl) rfl rfl qz1 ?_
  with_reducible refine (spec_WideOf.calls (wrap64 (a0_1)) t102 t103 _ A2.out).mono ?_
  rintro e w11 ⟨rfl, hb⟩
  refine ⟨_, rfl, ?_⟩
  have h_ := qA2 (blk_below (g := gb101) (o := .cells #[.int .i64 a0_0, .int .u64 a0_1] 234 (0, 0)) (qz8 BK101.out) hb) (below_step (qz10 GE101.out) hb); clear BK101 HB; obtain ⟨BK101, HB⟩ := h_; (try clear hb); (try clear hb2); (try clear hk); (try clear hi); refine hK.out _ _ ⟨(blk_cell BK101.out 0).trans rfl, (blk_cell BK101.out 1).trans rfl⟩ (fun hHeld => ?_)
  clear hK K; refine norm_ (a' := ?_) ?_ ?_; rotate_left
  ·show Act.put _ (some 9) _ = _
   simp only [Act.put, List.setIfInBounds_toArray, List.set_cons_zero, List.set_cons_succ, i64_w, i32_w]
   rfl
  refine pure_ (i := 3) (N := some 11) (v := ?_) (a' := ?_) #[true, true, true, true] rfl rfl (by kernel_rfl) (fun _ _ _ h => h) (Or.inl ⟨by rfl, ?_⟩) ?_ ?_
  rotate_left
  ·intro w'
   go_simp
   with_reducible rfl
  rotate_left
  ·simp only [Act.put, List.setIfInBounds_toArray, List.set_cons_zero, List.set_cons_succ, i64_w, i32_w]
   rfl
  refine done_ (by kernel_rfl) ?_
  try go_wp2
  go_ret2
  exact ⟨qz13, qz10 GE101.out⟩
end Go.Proofs.Ytjhfjnknajhanaa.P
namespace Go.Proofs.Ytjhfjnknajhanaa.P
open Go.RowKit Go.Proofs.YtjhfjnknajhanaaW.PrintWords Go.Proofs.YtjhfjnknajhanaaW.PrintLast Go.Proofs.YtjhfjnknajhanaaW.PrintMore
attribute [local go_sem] max2_int min2_int max_two min_two max_three min_three max_four min_four
set_option linter.unusedVariables false
set_option linter.unusedSimpArgs false
/-! ### spec_l03Bool: function 240 -/
set_option maxHeartbeats 8000000 in
set_option maxRecDepth 100000 in
theorem spec_l03Bool.calls (a0 : Bool) (r : Int) (w : World) (h : spec_l03Bool.f a0 = some r) :
  Calls Try.prog 240 #[.bool a0] w fun e w' => e = .returned (.int .i64 r) ∧ Drawn0 w w' := by
 have H : (if a0 = true then (some 1) else (some 0)) = some r := h
 clear h
 by_cases c2 : a0 = true
 ·subst c2
  rw [if_pos rfl] at H; obtain rfl := Option.some.inj H; go_enter Try.func240, Try.ntmps240
  go_wp2
  go_ret
  exact ⟨qz2, qz3⟩
 ·replace c2 := Bool.eq_false_iff.mpr c2
  subst c2; rw [if_neg (show ¬ (false = true) by decide)] at H
  obtain rfl := Option.some.inj H; go_enter Try.func240, Try.ntmps240
  go_wp2
  go_ret
  exact ⟨qz2, qz3⟩
/-! ### spec_WideAdd: function 279 -/
set_option maxHeartbeats 8000000 in
set_option maxRecDepth 100000 in
theorem spec_WideAdd.calls (a0_0 : Int) (a0_1 : Int) (a1_0 : Int) (a1_1 : Int) (r1 : Int) (r2 : Int) (w : World) (h : spec_WideAdd.f a0_0 a0_1 a1_0 a1_1 = some (r1, r2)) :
  Calls Try.prog 279 #[.agg #[.int .i64 a0_0, .int .u64 a0_1], .agg #[.int .i64 a1_0, .int .u64 a1_1]] w fun e w' => e = .returned (.agg #[.int .i64 r1, .int .u64 r2]) ∧ Below w.heap.size w w' := by
 have hu234 := Try.underlying234
 have HB := Aside0.mk (Below.refl w.heap.size w)
 have H : (if (IntKind.u64.wrap (a0_1 + a1_1)) < a0_1 then (some (wrap64 (IntKind.u64.wrap ((IntKind.u64.wrap ((IntKind.u64.wrap (a0_0)) + (IntKind.u64.wrap (a1_0)))) + 1)), IntKind.u64.wrap (a0_1 + a1_1))) else (some (wrap64 (IntKind.u64.wrap ((IntKind.u64.wrap (a0_0)) + (IntKind.u64.wrap (a1_0)))), IntKind.u64.wrap (a0_1 + a1_1)))) = some (r1, r2) := h
 clear h
 by_cases c3 : (IntKind.u64.wrap (a0_1 + a1_1)) < a0_1
 ·rw [if_pos c3] at H
  have c3b0 : decide ((IntKind.u64.wrap (a0_1 + a1_1)) < a0_1) = true := decide_eq_true c3; clear c3; simp only [Option.some.injEq, Prod.mk.injEq] at H; obtain ⟨rfl, rfl⟩ := H; go_enter Try.func279, Try.ntmps279
  go_wp2_with (first | ((with_reducible refine gate_dst (N := 2) rfl ?_); refine box_event ?hg (N := 2) ?hd (cs := #[.int .i64 a0_0, .int .u64 a0_1]) (t := 234) ?hr ?_; (case hd => rfl); (case hg => rfl); (case hr => exact qz5); intro gb101 hg w4 hbox hb; have h_ := qA4 (below_step qz6 hb) (hbox) ((qz7 : w.heap.size ≤ gb101)) ((qz7 : w.heap.size ≤ gb101)); clear HB; obtain ⟨HB, BK101, GW101, GE101⟩ := h_; clear hb hbox hg) | ((with_reducible refine gate_dst (N := 3) rfl ?_); refine box_event ?hg (N := 3) ?hd (cs := #[.int .i64 a1_0, .int .u64 a1_1]) (t := 234) ?hr ?_; (case hd => rfl); (case hg => rfl); (case hr => exact qz5); intro gb102 hg w5 hbox hb; have h_ := qA7 (blk_below (g := gb101) (o := .cells #[.int .i64 a0_0, .int .u64 a0_1] 234 (0, 0)) (qz8 BK101.out) hb) (below_step (qz10 GE101.out) hb) (hbox) ((qz38 GE101.out : w.heap.size ≤ gb102)) ((qz38 GE101.out : w.heap.size ≤ gb102)) ((qz399 BK101.out : gb101 ≠ gb102)) ((qz400 BK101.out : gb102 ≠ gb101)); clear BK101 HB; obtain ⟨BK101, HB, BK102, GW102, GE102, NB101_102, NB102_101⟩ := h_; clear hb hbox hg) | ((with_reducible refine gate_dst (N := 4) rfl ?_); refine box_event ?hg (N := 4) ?hd (cs := #[.int .i64 0, .int .u64 0]) (t := 234) ?hr ?_; (case hd => rfl); (case hg => rfl); (case hr => exact qz5); intro gb103 hg w6 hbox hb; have h_ := qA10 (blk_below (g := gb101) (o := .cells #[.int .i64 a0_0, .int .u64 a0_1] 234 (0, 0)) (qz8 BK101.out) hb) (blk_below (g := gb102) (o := .cells #[.int .i64 a1_0, .int .u64 a1_1] 234 (0, 0)) (qz8 BK102.out) hb) (below_step (qz43 GE101.out GE102.out) hb) (hbox) ((qz48 GE101.out GE102.out : w.heap.size ≤ gb103)) ((qz48 GE101.out GE102.out : w.heap.size ≤ gb103)) ((qz399 BK101.out : gb101 ≠ gb103)) ((qz400 BK101.out : gb103 ≠ gb101)) ((qz401 BK102.out : gb102 ≠ gb103)) ((qz402 BK102.out : gb103 ≠ gb102)); clear BK101 BK102 HB; obtain ⟨BK101, BK102, HB, BK103, GW103, GE103, NB101_103, NB103_101, NB102_103, NB103_102⟩ := h_; clear hb hbox hg; have hnb7 := NB101_102.out; have hnc7 := NB102_101.out; have hnb8 := NB101_103.out; have hnc8 := NB103_101.out; obtain ⟨hcz9_0, hcz9_1⟩ := qC2 BK101.out; obtain ⟨hfz9_0, hfz9_1⟩ := qF2 BK101.out; have hnb10 := NB102_103.out; have hnc10 := NB103_102.out; obtain ⟨hcz11_0, hcz11_1⟩ := qC2 BK102.out; obtain ⟨hfz11_0, hfz11_1⟩ := qF2 BK102.out; obtain ⟨hcz12_0, hcz12_1⟩ := qC2 BK103.out; obtain ⟨hfz12_0, hfz12_1⟩ := qF2 BK103.out))
  refine bodyPost_ret (results_cell_row rfl _ _ gb103 234 #[.int .i64 (wrap64 (IntKind.u64.wrap ((IntKind.u64.wrap ((IntKind.u64.wrap (a0_0)) + (IntKind.u64.wrap (a1_0)))) + 1))), .int .u64 (IntKind.u64.wrap (a0_1 + a1_1))] (0, 0) _ rfl (by (with_reducible repeat (first | refine blk_drewN ?_ _ | refine blk_drew ?_ | refine blk_alloc ?_ _)); refine blk_put (cs := #[.int .i64 (wrap64 (IntKind.u64.wrap ((IntKind.u64.wrap ((IntKind.u64.wrap (a0_0)) + (IntKind.u64.wrap (a1_0)))) + 1))), .int .u64 0]) ?_ 1 _ rfl; (with_reducible repeat (first | refine blk_drewN ?_ _ | refine blk_drew ?_ | refine blk_alloc ?_ _)); refine blk_put (cs := #[.int .i64 0, .int .u64 0]) ?_ 0 _ rfl; (with_reducible repeat (first | refine blk_drewN ?_ _ | refine blk_drew ?_ | refine blk_alloc ?_ _)); exact BK103.out) Try.underlying234 rfl (by kernel_rfl)) rfl ?_
  exact ⟨qz13, qz46 GE101.out GE102.out GE103.out⟩
 ·rw [if_neg c3] at H
  have c3b0 : decide ((IntKind.u64.wrap (a0_1 + a1_1)) < a0_1) = false := decide_eq_false c3; clear c3; simp only [Option.some.injEq, Prod.mk.injEq] at H; obtain ⟨rfl, rfl⟩ := H; go_enter Try.func279, Try.ntmps279
  go_wp2_with (first | ((with_reducible refine gate_dst (N := 2) rfl ?_); refine box_event ?hg (N := 2) ?hd (cs := #[.int .i64 a0_0, .int .u64 a0_1]) (t := 234) ?hr ?_; (case hd => rfl); (case hg => rfl); (case hr => exact qz5); intro gb101 hg w13 hbox hb; have h_ := qA4 (below_step qz6 hb) (hbox) ((qz7 : w.heap.size ≤ gb101)) ((qz7 : w.heap.size ≤ gb101)); clear HB; obtain ⟨HB, BK101, GW101, GE101⟩ := h_; clear hb hbox hg) | ((with_reducible refine gate_dst (N := 3) rfl ?_); refine box_event ?hg (N := 3) ?hd (cs := #[.int .i64 a1_0, .int .u64 a1_1]) (t := 234) ?hr ?_; (case hd => rfl); (case hg => rfl); (case hr => exact qz5); intro gb102 hg w14 hbox hb; have h_ := qA7 (blk_below (g := gb101) (o := .cells #[.int .i64 a0_0, .int .u64 a0_1] 234 (0, 0)) (qz8 BK101.out) hb) (below_step (qz10 GE101.out) hb) (hbox) ((qz38 GE101.out : w.heap.size ≤ gb102)) ((qz38 GE101.out : w.heap.size ≤ gb102)) ((qz399 BK101.out : gb101 ≠ gb102)) ((qz400 BK101.out : gb102 ≠ gb101)); clear BK101 HB; obtain ⟨BK101, HB, BK102, GW102, GE102, NB101_102, NB102_101⟩ := h_; clear hb hbox hg) | ((with_reducible refine gate_dst (N := 4) rfl ?_); refine box_event ?hg (N := 4) ?hd (cs := #[.int .i64 0, .int .u64 0]) (t := 234) ?hr ?_; (case hd => rfl); (case hg => rfl); (case hr => exact qz5); intro gb103 hg w15 hbox hb; have h_ := qA10 (blk_below (g := gb101) (o := .cells #[.int .i64 a0_0, .int .u64 a0_1] 234 (0, 0)) (qz8 BK101.out) hb) (blk_below (g := gb102) (o := .cells #[.int .i64 a1_0, .int .u64 a1_1] 234 (0, 0)) (qz8 BK102.out) hb) (below_step (qz43 GE101.out GE102.out) hb) (hbox) ((qz48 GE101.out GE102.out : w.heap.size ≤ gb103)) ((qz48 GE101.out GE102.out : w.heap.size ≤ gb103)) ((qz399 BK101.out : gb101 ≠ gb103)) ((qz400 BK101.out : gb103 ≠ gb101)) ((qz401 BK102.out : gb102 ≠ gb103)) ((qz402 BK102.out : gb103 ≠ gb102)); clear BK101 BK102 HB; obtain ⟨BK101, BK102, HB, BK103, GW103, GE103, NB101_103, NB103_101, NB102_103, NB103_102⟩ := h_; clear hb hbox hg; have hnb16 := NB101_102.out; have hnc16 := NB102_101.out; have hnb17 := NB101_103.out; have hnc17 := NB103_101.out; obtain ⟨hcz18_0, hcz18_1⟩ := qC2 BK101.out; obtain ⟨hfz18_0, hfz18_1⟩ := qF2 BK101.out; have hnb19 := NB102_103.out; have hnc19 := NB103_102.out; obtain ⟨hcz20_0, hcz20_1⟩ := qC2 BK102.out; obtain ⟨hfz20_0, hfz20_1⟩ := qF2 BK102.out; obtain ⟨hcz21_0, hcz21_1⟩ := qC2 BK103.out; obtain ⟨hfz21_0, hfz21_1⟩ := qF2 BK103.out))
  refine bodyPost_ret (results_cell_row rfl _ _ gb103 234 #[.int .i64 (wrap64 (IntKind.u64.wrap ((IntKind.u64.wrap (a0_0)) + (IntKind.u64.wrap (a1_0))))), .int .u64 (IntKind.u64.wrap (a0_1 + a1_1))] (0, 0) _ rfl (by (with_reducible repeat (first | refine blk_drewN ?_ _ | refine blk_drew ?_ | refine blk_alloc ?_ _)); refine blk_put (cs := #[.int .i64 (wrap64 (IntKind.u64.wrap ((IntKind.u64.wrap (a0_0)) + (IntKind.u64.wrap (a1_0))))), .int .u64 0]) ?_ 1 _ rfl; (with_reducible repeat (first | refine blk_drewN ?_ _ | refine blk_drew ?_ | refine blk_alloc ?_ _)); refine blk_put (cs := #[.int .i64 0, .int .u64 0]) ?_ 0 _ rfl; (with_reducible repeat (first | refine blk_drewN ?_ _ | refine blk_drew ?_ | refine blk_alloc ?_ _)); exact BK103.out) Try.underlying234 rfl (by kernel_rfl)) rfl ?_
  exact ⟨qz13, qz46 GE101.out GE102.out GE103.out⟩
/-! ### spec_WideNeg: function 281 -/
set_option maxHeartbeats 8000000 in
set_option maxRecDepth 100000 in
theorem spec_WideNeg.calls (a0_0 : Int) (a0_1 : Int) (r1 : Int) (r2 : Int) (w : World) (h : spec_WideNeg.f a0_0 a0_1 = some (r1, r2)) :
  Calls Try.prog 281 #[.agg #[.int .i64 a0_0, .int .u64 a0_1]] w fun e w' => e = .returned (.agg #[.int .i64 r1, .int .u64 r2]) ∧ Below w.heap.size w w' := by
 have hu234 := Try.underlying234
 have HB := Aside0.mk (Below.refl w.heap.size w)
 have H : ((spec_WideAdd.f (wrap64 ((-1) - a0_0)) (IntKind.u64.wrap (18446744073709551615 - a0_1)) 0 1).bind fun bt103 => (some (bt103.1, bt103.2))) = some (r1, r2) := h
 clear h
 replace H := qB H
 obtain ⟨⟨t103, t104⟩, A2, H⟩ := H
 try dsimp only at H
 simp only [Option.some.injEq, Prod.mk.injEq] at H
 obtain ⟨rfl, rfl⟩ := H
 go_enter Try.func281, Try.ntmps281
 go_wp2_with (first | ((with_reducible refine gate_dst (N := 1) rfl ?_); refine box_event ?hg (N := 1) ?hd (cs := #[.int .i64 a0_0, .int .u64 a0_1]) (t := 234) ?hr ?_; (case hd => rfl); (case hg => rfl); (case hr => exact qz5); intro gb101 hg w3 hbox hb; have h_ := qA4 (below_step qz6 hb) (hbox) ((qz7 : w.heap.size ≤ gb101)) ((qz7 : w.heap.size ≤ gb101)); clear HB; obtain ⟨HB, BK101, GW101, GE101⟩ := h_; clear hb hbox hg) | ((with_reducible refine gate_dst (N := 2) rfl ?_); refine box_event ?hg (N := 2) ?hd (cs := #[.int .i64 0, .int .u64 0]) (t := 234) ?hr ?_; (case hd => rfl); (case hg => rfl); (case hr => exact qz5); intro gb102 hg w4 hbox hb; have h_ := qA7 (blk_below (g := gb101) (o := .cells #[.int .i64 a0_0, .int .u64 a0_1] 234 (0, 0)) (qz8 BK101.out) hb) (below_step (qz10 GE101.out) hb) (hbox) ((qz38 GE101.out : w.heap.size ≤ gb102)) ((qz38 GE101.out : w.heap.size ≤ gb102)) ((qz399 BK101.out : gb101 ≠ gb102)) ((qz400 BK101.out : gb102 ≠ gb101)); clear BK101 HB; obtain ⟨BK101, HB, BK102, GW102, GE102, NB101_102, NB102_101⟩ := h_; clear hb hbox hg; have hnb5 := NB101_102.out; have hnc5 := NB102_101.out; obtain ⟨hcz6_0, hcz6_1⟩ := qC2 BK101.out; obtain ⟨hfz6_0, hfz6_1⟩ := qF2 BK101.out) | ((with_reducible refine gate_callee (f := 279) rfl ?_); refine goesL_ (some 11) rfl rfl Try.func279 (by kernel_rfl) rfl #[.agg #[.int .i64 (wrap64 ((-1) - a0_0)), .int .u64 (IntKind.u64.wrap (18446744073709551615 - a0_1))], .agg #[.int .i64 0, .int .u64 1]] rfl qz1 ?_; (with_reducible refine (spec_WideAdd.calls (wrap64 ((-1) - a0_0)) (IntKind.u64.wrap (18446744073709551615 - a0_1)) 0 1 t103 t104 _ A2.out).mono ?_); rintro e w7 ⟨rfl, hb⟩; refine ⟨_, rfl, ?_⟩; have h_ := qA3 (blk_below (g := gb101) (o := .cells #[.int .i64 a0_0, .int .u64 a0_1] 234 (0, 0)) (qz8 BK101.out) hb) (blk_below (g := gb102) (o := .cells #[.int .i64 0, .int .u64 0] 234 (0, 0)) (qz8 BK102.out) hb) (below_step (qz43 GE101.out GE102.out) hb); clear BK101 BK102 HB; obtain ⟨BK101, BK102, HB⟩ := h_; (try clear hb); (try clear hb2); (try clear hk); (try clear hi); obtain ⟨hcz8_0, hcz8_1⟩ := qC2 BK102.out; obtain ⟨hfz8_0, hfz8_1⟩ := qF2 BK102.out))
 refine bodyPost_ret (results_cell_row rfl _ _ gb102 234 #[.int .i64 t103, .int .u64 t104] (0, 0) _ rfl (qz407 BK102.out) Try.underlying234 rfl (by kernel_rfl)) rfl ?_
 exact ⟨qz13, qz43 GE101.out GE102.out⟩
/-! ### spec_l03Times: function 282 -/
set_option maxHeartbeats 8000000 in
set_option maxRecDepth 100000 in
theorem spec_l03Times.calls (k : Nat) (a0 : Int) (a1 : Int) (r1 : Int) (r2 : Int) (w : World) (h : spec_l03Times.f k a0 a1 = some (r1, r2)) :
  Calls Try.prog 282 #[.int .i64 a0, .int .i64 a1] w fun e w' => e = .returned (.agg #[.int .i64 r1, .int .u64 r2]) ∧ Below w.heap.size w w' := by
 have hu234 := Try.underlying234
 have HB := Aside0.mk (Below.refl w.heap.size w)
 have H : ((spec_WideOf.f a0).bind fun bt103 => (if a1 < 0 then ((spec_WideNeg.f bt103.1 bt103.2).bind fun bt106 => (spec_l03Times.j0 k (IntKind.u64.wrap (-(IntKind.u64.wrap (a1)))) 0 0 bt106.1 bt106.2)) else (spec_l03Times.j0 k (IntKind.u64.wrap (a1)) 0 0 bt103.1 bt103.2))) = some (r1, r2) := h
 clear h
 replace H := qB H
 obtain ⟨⟨t103, t104⟩, A3, H⟩ := H
 try dsimp only at H
 have HC4 := Aside0.mk H
 clear H
 go_enter Try.func282, Try.ntmps282
 go_upto_if 14 with (first | ((with_reducible refine gate_dst (N := 4) rfl ?_); refine box_event ?hg (N := 4) ?hd (cs := #[.int .i64 0, .int .u64 0]) (t := 234) ?hr ?_; (case hd => rfl); (case hg => rfl); (case hr => exact qz5); intro gb101 hg w5 hbox hb; have h_ := qA4 (below_step qz6 hb) (hbox) ((qz7 : w.heap.size ≤ gb101)) ((qz7 : w.heap.size ≤ gb101)); clear HB; obtain ⟨HB, BK101, GW101, GE101⟩ := h_; clear hb hbox hg) | ((with_reducible refine gate_dst (N := 5) rfl ?_); refine box_event ?hg (N := 5) ?hd (cs := #[.int .i64 0, .int .u64 0]) (t := 234) ?hr ?_; (case hd => rfl); (case hg => rfl); (case hr => exact qz5); intro gb102 hg w6 hbox hb; have h_ := qA7 (blk_below (g := gb101) (o := .cells #[.int .i64 0, .int .u64 0] 234 (0, 0)) (qz8 BK101.out) hb) (below_step (qz10 GE101.out) hb) (hbox) ((qz38 GE101.out : w.heap.size ≤ gb102)) ((qz38 GE101.out : w.heap.size ≤ gb102)) ((qz616 BK101.out : gb101 ≠ gb102)) ((qz617 BK101.out : gb102 ≠ gb101)); clear BK101 HB; obtain ⟨BK101, HB, BK102, GW102, GE102, NB101_102, NB102_101⟩ := h_; clear hb hbox hg; have hnb7 := NB102_101.out; have hnc7 := NB101_102.out; obtain ⟨hcz8_0, hcz8_1⟩ := qC2 BK102.out; obtain ⟨hfz8_0, hfz8_1⟩ := qF2 BK102.out) | ((with_reducible refine gate_callee (f := 280) rfl ?_); refine goesL_ (some 10) rfl rfl Try.func280 (by kernel_rfl) rfl #[.int .i64 a0] rfl qz1 ?_; (with_reducible refine (spec_WideOf.calls a0 t103 t104 _ A3.out).mono ?_); rintro e w9 ⟨rfl, hb⟩; refine ⟨_, rfl, ?_⟩; have h_ := qA3 (blk_below (g := gb101) (o := .cells #[.int .i64 0, .int .u64 0] 234 (0, 0)) (qz41 NB101_102.out BK101.out) hb) (blk_below (g := gb102) (o := .cells #[.int .i64 0, .int .u64 0] 234 (0, 0)) (qz233 BK102.out) hb) (below_step (qz43 GE101.out GE102.out) hb); clear BK101 BK102 HB; obtain ⟨BK101, BK102, HB⟩ := h_; (try clear hb); (try clear hb2); (try clear hk); (try clear hi)) | ((with_reducible refine gate_dst (N := 6) rfl ?_); refine box_event ?hg (N := 6) ?hd (cs := #[.int .i64 0, .int .u64 0]) (t := 234) ?hr ?_; (case hd => rfl); (case hg => rfl); (case hr => exact qz5); intro gb105 hg w10 hbox hb; have h_ := qA10 (blk_below (g := gb101) (o := .cells #[.int .i64 0, .int .u64 0] 234 (0, 0)) (qz8 BK101.out) hb) (blk_below (g := gb102) (o := .cells #[.int .i64 0, .int .u64 0] 234 (0, 0)) (qz8 BK102.out) hb) (below_step (qz43 GE101.out GE102.out) hb) (hbox) ((qz48 GE101.out GE102.out : w.heap.size ≤ gb105)) ((qz48 GE101.out GE102.out : w.heap.size ≤ gb105)) ((qz616 BK101.out : gb101 ≠ gb105)) ((qz617 BK101.out : gb105 ≠ gb101)) ((by rw [hg]; exact Nat.ne_of_lt (blk_lt (g := gb102) (o := .cells #[.int .i64 0, .int .u64 0] 234 (0, 0)) (qz8 BK102.out)) : gb102 ≠ gb105)) ((by rw [hg]; exact Nat.ne_of_gt (blk_lt (g := gb102) (o := .cells #[.int .i64 0, .int .u64 0] 234 (0, 0)) (qz8 BK102.out)) : gb105 ≠ gb102)); clear BK101 BK102 HB; obtain ⟨BK101, BK102, HB, BK105, GW105, GE105, NB101_105, NB105_101, NB102_105, NB105_102⟩ := h_; clear hb hbox hg; have hnb11 := NB105_101.out; have hnc11 := NB101_105.out; have hnb12 := NB105_102.out; have hnc12 := NB102_105.out; obtain ⟨hcz13_0, hcz13_1⟩ := qC2 BK105.out; obtain ⟨hfz13_0, hfz13_1⟩ := qF2 BK105.out))
 (try simp only [Act.put, List.setIfInBounds_toArray, List.set_cons_zero, List.set_cons_succ])
 go_cut [7] (fun v7 wc => ∃ (kq : Nat) (x7_3 : Int) (x106000_3 : Int) (x106001_3 : Int), v7 = .int .u64 x7_3 ∧ Aside0 (spec_l03Times.j0 kq x7_3 0 0 x106000_3 x106001_3 = some (r1, r2)) ∧ Aside0 (kq ≤ k) ∧ Aside0 (wc.heap[gb101]? = some (.cells #[.int .i64 0, .int .u64 0] 234 (0, 0))) ∧ Aside0 (wc.heap[gb102]? = some (.cells #[.int .i64 0, .int .u64 0] 234 (0, 0))) ∧ Aside0 (wc.heap[gb105]? = some (.cells #[.int .i64 x106000_3, .int .u64 x106001_3] 234 (0, 0))) ∧ Aside0 (Below w.heap.size w wc))
 case first =>
  have H := HC4.out; clear HC4
  by_cases c14 : a1 < 0
  ·rw [if_pos c14] at H
   have c14b0 : decide (a1 < 0) = true := decide_eq_true c14; clear c14
   (first | rw [c14b0] | (simp only [i64_w, i32_w]; rw [c14b0]) | skip)
   replace H := qB H; obtain ⟨⟨t106, t107⟩, A15, H⟩ := H
   try dsimp only at H
   have H' := Aside0.mk H; clear H; have hnb16 := NB105_101.out; have hnc16 := NB101_105.out; have hnb17 := NB105_102.out; have hnc17 := NB102_105.out; obtain ⟨hcz18_0, hcz18_1⟩ := qC2 BK105.out; obtain ⟨hfz18_0, hfz18_1⟩ := qF2 BK105.out
   go_wp2_with (first | ((with_reducible refine gate_callee (f := 281) rfl ?_); refine goesL_ (some 16) rfl rfl Try.func281 (by kernel_rfl) rfl #[.agg #[.int .i64 t103, .int .u64 t104]] rfl qz1 ?_; (with_reducible refine (spec_WideNeg.calls t103 t104 t106 t107 _ A15.out).mono ?_); rintro e w19 ⟨rfl, hb⟩; refine ⟨_, rfl, ?_⟩; have h_ := qA4 (blk_below (g := gb101) (o := .cells #[.int .i64 0, .int .u64 0] 234 (0, 0)) (qz41 NB101_105.out BK101.out) hb) (blk_below (g := gb102) (o := .cells #[.int .i64 0, .int .u64 0] 234 (0, 0)) (qz41 NB102_105.out BK102.out) hb) (blk_below (g := gb105) (o := .cells #[.int .i64 t103, .int .u64 t104] 234 (0, 0)) (qz407 BK105.out) hb) (below_step (qz46 GE101.out GE102.out GE105.out) hb); clear BK101 BK102 BK105 HB; obtain ⟨BK101, BK102, BK105, HB⟩ := h_; (try clear hb); (try clear hb2); (try clear hk); (try clear hi); obtain ⟨hcz20_0, hcz20_1⟩ := qC2 BK105.out; obtain ⟨hfz20_0, hfz20_1⟩ := qF2 BK105.out))
   go_meet
   case rel => exact ⟨_, (IntKind.u64.wrap (-(IntKind.u64.wrap (a1)))), (t106), (t107), qz2, H', ⟨qz36⟩, ⟨qz41 NB101_105.out BK101.out⟩, ⟨qz41 NB102_105.out BK102.out⟩, ⟨by (with_reducible repeat (first | refine blk_drewN ?_ _ | refine blk_drew ?_ | refine blk_alloc ?_ _)); refine blk_put (cs := #[.int .i64 t106, .int .u64 t104]) ?_ 1 _ rfl; (with_reducible repeat (first | refine blk_drewN ?_ _ | refine blk_drew ?_ | refine blk_alloc ?_ _)); refine blk_put (cs := #[.int .i64 t103, .int .u64 t104]) ?_ 0 _ rfl; (with_reducible repeat (first | refine blk_drewN ?_ _ | refine blk_drew ?_ | refine blk_alloc ?_ _)); exact BK105.out⟩, ⟨qz46 GE101.out GE102.out GE105.out⟩⟩
  ·rw [if_neg c14] at H
   have c14b0 : decide (a1 < 0) = false := decide_eq_false c14; clear c14
   (first | rw [c14b0] | (simp only [i64_w, i32_w]; rw [c14b0]) | skip)
   have H' := Aside0.mk H; clear H
   go_wp2
   go_meet
   case rel => exact ⟨_, (IntKind.u64.wrap (a1)), (t103), (t104), qz2, H', ⟨qz36⟩, ⟨qz41 NB101_105.out BK101.out⟩, ⟨qz41 NB102_105.out BK102.out⟩, ⟨qz407 BK105.out⟩, ⟨qz46 GE101.out GE102.out GE105.out⟩⟩
 case rest =>
  clear HC4; (try clear c1); (try clear c2); (try clear p2); (try clear c7); (try clear c11); (try clear c12); (try clear c14); (try clear c14b0); (try clear c16); (try clear c17); (try clear hcz13_0); (try clear hcz13_1); (try clear hcz18_0); (try clear hcz18_1); (try clear hcz20_0); (try clear hcz20_1); (try clear hcz8_0); (try clear hcz8_1); (try clear hfz13_0); (try clear hfz13_1); (try clear hfz18_0); (try clear hfz18_1); (try clear hfz20_0); (try clear hfz20_1); (try clear hfz8_0); (try clear hfz8_1); obtain ⟨kq, x7_3, x106000_3, x106001_3, rfl, HA, HJ3, BK101, BK102, BK105, HB⟩ := hcut
  cases kq with
  | zero => exact absurd HA.out (by simp [spec_l03Times.j0])
  | succ kj3 =>
   have H := HA.out; clear HA; simp only [spec_l03Times.j0] at H; have H' := Aside0.mk H; clear H
   go_wp2
   go_loopg [7] kj3 (fun kq v7 w' => ∃ (x7_2 : Int) (x103000_2 : Int) (x103001_2 : Int) (x106000_2 : Int) (x106001_2 : Int), v7 = .int .u64 x7_2 ∧ Aside0 (spec_l03Times.l0 kq x7_2 x103000_2 x103001_2 x106000_2 x106001_2 = some (r1, r2)) ∧ Aside0 (kq ≤ kj3) ∧ Aside0 (w'.heap[gb101]? = some (.cells #[.int .i64 0, .int .u64 0] 234 (0, 0))) ∧ Aside0 (w'.heap[gb102]? = some (.cells #[.int .i64 x103000_2, .int .u64 x103001_2] 234 (0, 0))) ∧ Aside0 (w'.heap[gb105]? = some (.cells #[.int .i64 x106000_2, .int .u64 x106001_2] 234 (0, 0))) ∧ Aside0 (Below w.heap.size w w'))
   case atStart => exact ⟨(x7_3), (0), (0), (x106000_3), (x106001_3), qz2, H', ⟨Nat.le_refl _⟩, ⟨qz8 BK101.out⟩, ⟨qz8 BK102.out⟩, ⟨qz8 BK105.out⟩, ⟨qz46 GE101.out GE102.out GE105.out⟩⟩
   case round =>
    clear H'; (try clear c1); (try clear c2); (try clear p2); (try clear c7); (try clear c11); (try clear c12); (try clear c14); (try clear c14b0); (try clear c16); (try clear c17); (try clear hcz13_0); (try clear hcz13_1); (try clear hcz18_0); (try clear hcz18_1); (try clear hcz20_0); (try clear hcz20_1); (try clear hcz8_0); (try clear hcz8_1); (try clear hfz13_0); (try clear hfz13_1); (try clear hfz18_0); (try clear hfz18_1); (try clear hfz20_0); (try clear hfz20_1); (try clear hfz8_0); (try clear hfz8_1); (try clear p2); obtain ⟨x7_2, x103000_2, x103001_2, x106000_2, x106001_2, rfl, HA, HK2, BK101, BK102, BK105, HB⟩ := hrel
    cases gk with
    | zero => exact absurd HA.out (by simp [spec_l03Times.l0])
    | succ k2 =>
     have H := HA.out; clear HA; simp only [spec_l03Times.l0] at H
     by_cases c21 : x7_2 > 0
     ·rw [if_pos c21] at H
      have c21b0 : decide (0 < x7_2) = true := decide_eq_true c21; clear c21
      by_cases c22 : (Int.tmod x7_2 2) = 1
      ·rw [if_pos c22] at H
       have c22b0 : ((Int.tmod x7_2 2) == 1) = true := beq_iff_eq.mpr c22; have c22b1 : ((Int.tmod x7_2 2) != 1) = false := bne_eq_false_iff_eq.mpr c22; clear c22; replace H := qB H; obtain ⟨⟨t108, t109⟩, A23, H⟩ := H
       try dsimp only at H
       replace H := qB H; obtain ⟨⟨t110, t111⟩, A24, H⟩ := H
       try dsimp only at H
       have H' := Aside0.mk H; clear H; have hnb25 := NB102_101.out; have hnc25 := NB101_102.out; have hnb26 := NB102_105.out; have hnc26 := NB105_102.out; obtain ⟨hcz27_0, hcz27_1⟩ := qC2 BK102.out; obtain ⟨hfz27_0, hfz27_1⟩ := qF2 BK102.out; have hnb28 := NB105_101.out; have hnc28 := NB101_105.out; obtain ⟨hcz29_0, hcz29_1⟩ := qC2 BK105.out; obtain ⟨hfz29_0, hfz29_1⟩ := qF2 BK105.out
       go_wp2_with (first | ((with_reducible refine gate_callee (f := 279) rfl ?_); refine goesL_ (some 26) rfl rfl Try.func279 (by kernel_rfl) rfl #[.agg #[.int .i64 x103000_2, .int .u64 x103001_2], .agg #[.int .i64 x106000_2, .int .u64 x106001_2]] rfl qz1 ?_; (with_reducible refine (spec_WideAdd.calls x103000_2 x103001_2 x106000_2 x106001_2 t108 t109 _ A23.out).mono ?_); rintro e w30 ⟨rfl, hb⟩; refine ⟨_, rfl, ?_⟩; have h_ := qA4 (blk_below (g := gb101) (o := .cells #[.int .i64 0, .int .u64 0] 234 (0, 0)) (qz8 BK101.out) hb) (blk_below (g := gb102) (o := .cells #[.int .i64 x103000_2, .int .u64 x103001_2] 234 (0, 0)) (qz8 BK102.out) hb) (blk_below (g := gb105) (o := .cells #[.int .i64 x106000_2, .int .u64 x106001_2] 234 (0, 0)) (qz8 BK105.out) hb) (below_step (qz46 GE101.out GE102.out GE105.out) hb); clear BK101 BK102 BK105 HB; obtain ⟨BK101, BK102, BK105, HB⟩ := h_; (try clear hb); (try clear hb2); (try clear hk); (try clear hi); obtain ⟨hcz31_0, hcz31_1⟩ := qC2 BK102.out; obtain ⟨hfz31_0, hfz31_1⟩ := qF2 BK102.out; obtain ⟨hcz32_0, hcz32_1⟩ := qC2 BK105.out; obtain ⟨hfz32_0, hfz32_1⟩ := qF2 BK105.out) | ((with_reducible refine gate_callee (f := 279) rfl ?_); refine goesL_ (some 29) rfl rfl Try.func279 (by kernel_rfl) rfl #[.agg #[.int .i64 x106000_2, .int .u64 x106001_2], .agg #[.int .i64 x106000_2, .int .u64 x106001_2]] rfl qz1 ?_; (with_reducible refine (spec_WideAdd.calls x106000_2 x106001_2 x106000_2 x106001_2 t110 t111 _ A24.out).mono ?_); rintro e w33 ⟨rfl, hb⟩; refine ⟨_, rfl, ?_⟩; have h_ := qA4 (blk_below (g := gb101) (o := .cells #[.int .i64 0, .int .u64 0] 234 (0, 0)) (qz41 NB101_102.out BK101.out) hb) (blk_below (g := gb102) (o := .cells #[.int .i64 t108, .int .u64 t109] 234 (0, 0)) (by (with_reducible repeat (first | refine blk_drewN ?_ _ | refine blk_drew ?_ | refine blk_alloc ?_ _)); refine blk_put (cs := #[.int .i64 t108, .int .u64 x103001_2]) ?_ 1 _ rfl; (with_reducible repeat (first | refine blk_drewN ?_ _ | refine blk_drew ?_ | refine blk_alloc ?_ _)); refine blk_put (cs := #[.int .i64 x103000_2, .int .u64 x103001_2]) ?_ 0 _ rfl; (with_reducible repeat (first | refine blk_drewN ?_ _ | refine blk_drew ?_ | refine blk_alloc ?_ _)); exact BK102.out) hb) (blk_below (g := gb105) (o := .cells #[.int .i64 x106000_2, .int .u64 x106001_2] 234 (0, 0)) (qz41 NB105_102.out BK105.out) hb) (below_step (qz46 GE101.out GE102.out GE105.out) hb); clear BK101 BK102 BK105 HB; obtain ⟨BK101, BK102, BK105, HB⟩ := h_; (try clear hb); (try clear hb2); (try clear hk); (try clear hi); obtain ⟨hcz34_0, hcz34_1⟩ := qC2 BK105.out; obtain ⟨hfz34_0, hfz34_1⟩ := qF2 BK105.out))
       go_roundg k2
       case measure => have := HJ3.out; have := HK2.out; omega
       case rel => exact ⟨(IntKind.u64.wrap (Int.tdiv x7_2 2)), (t108), (t109), (t110), (t111), qz2, H', ⟨qz34 HJ3.out HK2.out⟩, ⟨qz41 NB101_105.out BK101.out⟩, ⟨qz41 NB102_105.out BK102.out⟩, ⟨by (with_reducible repeat (first | refine blk_drewN ?_ _ | refine blk_drew ?_ | refine blk_alloc ?_ _)); refine blk_put (cs := #[.int .i64 t110, .int .u64 x106001_2]) ?_ 1 _ rfl; (with_reducible repeat (first | refine blk_drewN ?_ _ | refine blk_drew ?_ | refine blk_alloc ?_ _)); refine blk_put (cs := #[.int .i64 x106000_2, .int .u64 x106001_2]) ?_ 0 _ rfl; (with_reducible repeat (first | refine blk_drewN ?_ _ | refine blk_drew ?_ | refine blk_alloc ?_ _)); exact BK105.out⟩, ⟨qz46 GE101.out GE102.out GE105.out⟩⟩
      ·rw [if_neg c22] at H
       have c22b0 : ((Int.tmod x7_2 2) == 1) = false := beq_eq_false_iff_ne.mpr c22; have c22b1 : ((Int.tmod x7_2 2) != 1) = true := bne_iff_ne.mpr c22; replace H := qB H; obtain ⟨⟨t112, t113⟩, A35, H⟩ := H
       try dsimp only at H
       have H' := Aside0.mk H; clear H; have hnb36 := NB105_101.out; have hnc36 := NB101_105.out; have hnb37 := NB105_102.out; have hnc37 := NB102_105.out; obtain ⟨hcz38_0, hcz38_1⟩ := qC2 BK105.out; obtain ⟨hfz38_0, hfz38_1⟩ := qF2 BK105.out
       go_wp2_with (first | ((with_reducible refine gate_callee (f := 279) rfl ?_); refine goesL_ (some 29) rfl rfl Try.func279 (by kernel_rfl) rfl #[.agg #[.int .i64 x106000_2, .int .u64 x106001_2], .agg #[.int .i64 x106000_2, .int .u64 x106001_2]] rfl qz1 ?_; (with_reducible refine (spec_WideAdd.calls x106000_2 x106001_2 x106000_2 x106001_2 t112 t113 _ A35.out).mono ?_); rintro e w39 ⟨rfl, hb⟩; refine ⟨_, rfl, ?_⟩; have h_ := qA4 (blk_below (g := gb101) (o := .cells #[.int .i64 0, .int .u64 0] 234 (0, 0)) (qz8 BK101.out) hb) (blk_below (g := gb102) (o := .cells #[.int .i64 x103000_2, .int .u64 x103001_2] 234 (0, 0)) (qz8 BK102.out) hb) (blk_below (g := gb105) (o := .cells #[.int .i64 x106000_2, .int .u64 x106001_2] 234 (0, 0)) (qz8 BK105.out) hb) (below_step (qz46 GE101.out GE102.out GE105.out) hb); clear BK101 BK102 BK105 HB; obtain ⟨BK101, BK102, BK105, HB⟩ := h_; (try clear hb); (try clear hb2); (try clear hk); (try clear hi); obtain ⟨hcz40_0, hcz40_1⟩ := qC2 BK105.out; obtain ⟨hfz40_0, hfz40_1⟩ := qF2 BK105.out))
       go_roundg k2
       case measure => have := HJ3.out; have := HK2.out; omega
       case rel => exact ⟨(IntKind.u64.wrap (Int.tdiv x7_2 2)), (x103000_2), (x103001_2), (t112), (t113), qz2, H', ⟨qz34 HJ3.out HK2.out⟩, ⟨qz41 NB101_105.out BK101.out⟩, ⟨qz41 NB102_105.out BK102.out⟩, ⟨by (with_reducible repeat (first | refine blk_drewN ?_ _ | refine blk_drew ?_ | refine blk_alloc ?_ _)); refine blk_put (cs := #[.int .i64 t112, .int .u64 x106001_2]) ?_ 1 _ rfl; (with_reducible repeat (first | refine blk_drewN ?_ _ | refine blk_drew ?_ | refine blk_alloc ?_ _)); refine blk_put (cs := #[.int .i64 x106000_2, .int .u64 x106001_2]) ?_ 0 _ rfl; (with_reducible repeat (first | refine blk_drewN ?_ _ | refine blk_drew ?_ | refine blk_alloc ?_ _)); exact BK105.out⟩, ⟨qz46 GE101.out GE102.out GE105.out⟩⟩
     ·rw [if_neg c21] at H
      have c21b0 : decide (0 < x7_2) = false := decide_eq_false c21; clear c21; simp only [Option.some.injEq, Prod.mk.injEq] at H; obtain ⟨rfl, rfl⟩ := H; have hnb41 := NB102_101.out; have hnc41 := NB101_102.out; have hnb42 := NB102_105.out; have hnc42 := NB105_102.out; obtain ⟨hcz43_0, hcz43_1⟩ := qC2 BK102.out; obtain ⟨hfz43_0, hfz43_1⟩ := qF2 BK102.out; have hnb44 := NB101_105.out; have hnc44 := NB105_101.out; obtain ⟨hcz45_0, hcz45_1⟩ := qC2 BK101.out; obtain ⟨hfz45_0, hfz45_1⟩ := qF2 BK101.out
      go_wp2
      refine bodyPost_ret (results_cell_row rfl _ _ gb101 234 #[.int .i64 x103000_2, .int .u64 x103001_2] (0, 0) _ rfl (by (with_reducible repeat (first | refine blk_drewN ?_ _ | refine blk_drew ?_ | refine blk_alloc ?_ _)); refine blk_put (cs := #[.int .i64 x103000_2, .int .u64 0]) ?_ 1 _ rfl; (with_reducible repeat (first | refine blk_drewN ?_ _ | refine blk_drew ?_ | refine blk_alloc ?_ _)); refine blk_put (cs := #[.int .i64 0, .int .u64 0]) ?_ 0 _ rfl; (with_reducible repeat (first | refine blk_drewN ?_ _ | refine blk_drew ?_ | refine blk_alloc ?_ _)); exact BK101.out) Try.underlying234 rfl (by kernel_rfl)) rfl ?_
      exact ⟨qz13, qz46 GE101.out GE102.out GE105.out⟩
/-! ### spec_l03Two: function 241 -/
set_option maxHeartbeats 8000000 in
set_option maxRecDepth 100000 in
theorem spec_l03Two.calls (k : Nat) (a0 : Int) (a1 : Int) (a2 : Int) (r1 : Int) (r2 : Int) (r3 : Int) (w : World) (h : spec_l03Two.f k a0 a1 a2 = some (r1, r2, r3)) :
  Calls Try.prog 241 #[.int .i64 a0, .int .i64 a1, .int .i64 a2] w fun e w' => e = .returned (.tuple #[.agg #[.int .i64 r1, .int .u64 r2], .int .i64 r3]) ∧ Below w.heap.size w w' := by
 have hu234 := Try.underlying234
 have HB := Aside0.mk (Below.refl w.heap.size w)
 have H : (if a0 = 4 then ((spec_WideOf.f a1).bind fun bt102 => ((spec_WideOf.f a2).bind fun bt104 => ((spec_WideAdd.f bt102.1 bt102.2 bt104.1 bt104.2).bind fun bt106 => (some (bt106.1, bt106.2, 0))))) else (if a0 = 5 then ((spec_WideOf.f a1).bind fun bt108 => ((spec_WideOf.f a2).bind fun bt110 => ((spec_WideNeg.f bt110.1 bt110.2).bind fun bt112 => ((spec_WideAdd.f bt108.1 bt108.2 bt112.1 bt112.2).bind fun bt114 => (some (bt114.1, bt114.2, 0)))))) else (if a0 = 6 then ((spec_l03Times.f k a1 a2).bind fun bt116 => (some (bt116.1, bt116.2, 0))) else (if a0 = 7 then (if a2 = 0 then (some (0, 0, 3)) else (if a2 = (-1) then ((spec_WideOf.f a1).bind fun bt118 => ((spec_WideNeg.f bt118.1 bt118.2).bind fun bt120 => (some (bt120.1, bt120.2, 0)))) else ((spec_WideOf.f (wrap64 (Int.tdiv a1 a2))).bind fun bt122 => (some (bt122.1, bt122.2, 0))))) else (if a0 = 8 then ((spec_l03Bool.f (decide (a1 < a2))).bind fun t124 => ((spec_WideOf.f t124).bind fun bt125 => (some (bt125.1, bt125.2, 0)))) else (if a0 = 9 then ((spec_l03Bool.f (a1 == a2)).bind fun t127 => ((spec_WideOf.f t127).bind fun bt128 => (some (bt128.1, bt128.2, 0)))) else (if a1 = 0 then ((spec_l03Bool.f false).bind fun t130 => ((spec_WideOf.f t130).bind fun bt131 => (some (bt131.1, bt131.2, 0)))) else ((spec_l03Bool.f (a2 != 0)).bind fun t133 => ((spec_WideOf.f t133).bind fun bt134 => (some (bt134.1, bt134.2, 0))))))))))) = some (r1, r2, r3) := h
 clear h
 by_cases c4 : a0 = 4
 ·rw [if_pos c4] at H
  have c4b0 : (a0 == 4) = true := beq_iff_eq.mpr c4; have c4b1 : (a0 != 4) = false := bne_eq_false_iff_eq.mpr c4; clear c4; replace H := qB H; obtain ⟨⟨t102, t103⟩, A5, H⟩ := H
  try dsimp only at H
  replace H := qB H; obtain ⟨⟨t104, t105⟩, A6, H⟩ := H
  try dsimp only at H
  replace H := qB H; obtain ⟨⟨t106, t107⟩, A7, H⟩ := H
  try dsimp only at H
  simp only [Option.some.injEq, Prod.mk.injEq] at H
  obtain ⟨rfl, rfl, rfl⟩ := H; go_enter Try.func241, Try.ntmps241
  go_wp2_with (first | ((with_reducible refine gate_dst (N := 6) rfl ?_); refine box_event ?hg (N := 6) ?hd (cs := #[.int .i64 0, .int .u64 0]) (t := 234) ?hr ?_; (case hd => rfl); (case hg => rfl); (case hr => exact qz5); intro gb101 hg w8 hbox hb; have h_ := qA4 (below_step qz6 hb) (hbox) ((qz7 : w.heap.size ≤ gb101)) ((qz7 : w.heap.size ≤ gb101)); clear HB; obtain ⟨HB, BK101, GW101, GE101⟩ := h_; clear hb hbox hg) | ((with_reducible refine gate_callee (f := 280) rfl ?_); refine goesL_ (some 12) rfl rfl Try.func280 (by kernel_rfl) rfl #[.int .i64 a1] rfl qz1 ?_; (with_reducible refine (spec_WideOf.calls a1 t102 t103 _ A5.out).mono ?_); rintro e w9 ⟨rfl, hb⟩; refine ⟨_, rfl, ?_⟩; have h_ := qA2 (blk_below (g := gb101) (o := .cells #[.int .i64 0, .int .u64 0] 234 (0, 0)) (qz8 BK101.out) hb) (below_step (qz10 GE101.out) hb); clear BK101 HB; obtain ⟨BK101, HB⟩ := h_; (try clear hb); (try clear hb2); (try clear hk); (try clear hi)) | ((with_reducible refine gate_callee (f := 280) rfl ?_); refine goesL_ (some 14) rfl rfl Try.func280 (by kernel_rfl) rfl #[.int .i64 a2] rfl qz1 ?_; (with_reducible refine (spec_WideOf.calls a2 t104 t105 _ A6.out).mono ?_); rintro e w10 ⟨rfl, hb⟩; refine ⟨_, rfl, ?_⟩; have h_ := qA2 (blk_below (g := gb101) (o := .cells #[.int .i64 0, .int .u64 0] 234 (0, 0)) (qz8 BK101.out) hb) (below_step (qz10 GE101.out) hb); clear BK101 HB; obtain ⟨BK101, HB⟩ := h_; (try clear hb); (try clear hb2); (try clear hk); (try clear hi)) | ((with_reducible refine gate_callee (f := 279) rfl ?_); refine goesL_ (some 15) rfl rfl Try.func279 (by kernel_rfl) rfl #[.agg #[.int .i64 t102, .int .u64 t103], .agg #[.int .i64 t104, .int .u64 t105]] rfl qz1 ?_; (with_reducible refine (spec_WideAdd.calls t102 t103 t104 t105 t106 t107 _ A7.out).mono ?_); rintro e w11 ⟨rfl, hb⟩; refine ⟨_, rfl, ?_⟩; have h_ := qA2 (blk_below (g := gb101) (o := .cells #[.int .i64 0, .int .u64 0] 234 (0, 0)) (qz8 BK101.out) hb) (below_step (qz10 GE101.out) hb); clear BK101 HB; obtain ⟨BK101, HB⟩ := h_; (try clear hb); (try clear hb2); (try clear hk); (try clear hi); obtain ⟨hcz12_0, hcz12_1⟩ := qC2 BK101.out; obtain ⟨hfz12_0, hfz12_1⟩ := qF2 BK101.out))
  refine bodyPost_ret (results_ct rfl _ _ gb101 234 #[.int .i64 t106, .int .u64 t107] (0, 0) _ rfl (by (with_reducible repeat (first | refine blk_drewN ?_ _ | refine blk_drew ?_ | refine blk_alloc ?_ _)); refine blk_put (cs := #[.int .i64 t106, .int .u64 0]) ?_ 1 _ rfl; (with_reducible repeat (first | refine blk_drewN ?_ _ | refine blk_drew ?_ | refine blk_alloc ?_ _)); refine blk_put (cs := #[.int .i64 0, .int .u64 0]) ?_ 0 _ rfl; (with_reducible repeat (first | refine blk_drewN ?_ _ | refine blk_drew ?_ | refine blk_alloc ?_ _)); exact BK101.out) Try.underlying234 rfl (by kernel_rfl)) rfl ?_
  exact ⟨qz13, qz10 GE101.out⟩
 ·rw [if_neg c4] at H
  have c4b0 : (a0 == 4) = false := beq_eq_false_iff_ne.mpr c4; have c4b1 : (a0 != 4) = true := bne_iff_ne.mpr c4
  by_cases c13 : a0 = 5
  ·rw [if_pos c13] at H
   have c13b0 : (a0 == 5) = true := beq_iff_eq.mpr c13; have c13b1 : (a0 != 5) = false := bne_eq_false_iff_eq.mpr c13; clear c13; replace H := qB H; obtain ⟨⟨t108, t109⟩, A14, H⟩ := H
   try dsimp only at H
   replace H := qB H; obtain ⟨⟨t110, t111⟩, A15, H⟩ := H
   try dsimp only at H
   replace H := qB H; obtain ⟨⟨t112, t113⟩, A16, H⟩ := H
   try dsimp only at H
   replace H := qB H; obtain ⟨⟨t114, t115⟩, A17, H⟩ := H
   try dsimp only at H
   simp only [Option.some.injEq, Prod.mk.injEq] at H
   obtain ⟨rfl, rfl, rfl⟩ := H; go_enter Try.func241, Try.ntmps241
   go_wp2_with (first | ((with_reducible refine gate_dst (N := 6) rfl ?_); refine box_event ?hg (N := 6) ?hd (cs := #[.int .i64 0, .int .u64 0]) (t := 234) ?hr ?_; (case hd => rfl); (case hg => rfl); (case hr => exact qz5); intro gb101 hg w18 hbox hb; have h_ := qA4 (below_step qz6 hb) (hbox) ((qz7 : w.heap.size ≤ gb101)) ((qz7 : w.heap.size ≤ gb101)); clear HB; obtain ⟨HB, BK101, GW101, GE101⟩ := h_; clear hb hbox hg) | ((with_reducible refine gate_callee (f := 280) rfl ?_); refine goesL_ (some 19) rfl rfl Try.func280 (by kernel_rfl) rfl #[.int .i64 a1] rfl qz1 ?_; (with_reducible refine (spec_WideOf.calls a1 t108 t109 _ A14.out).mono ?_); rintro e w19 ⟨rfl, hb⟩; refine ⟨_, rfl, ?_⟩; have h_ := qA2 (blk_below (g := gb101) (o := .cells #[.int .i64 0, .int .u64 0] 234 (0, 0)) (qz8 BK101.out) hb) (below_step (qz10 GE101.out) hb); clear BK101 HB; obtain ⟨BK101, HB⟩ := h_; (try clear hb); (try clear hb2); (try clear hk); (try clear hi)) | ((with_reducible refine gate_callee (f := 280) rfl ?_); refine goesL_ (some 21) rfl rfl Try.func280 (by kernel_rfl) rfl #[.int .i64 a2] rfl qz1 ?_; (with_reducible refine (spec_WideOf.calls a2 t110 t111 _ A15.out).mono ?_); rintro e w20 ⟨rfl, hb⟩; refine ⟨_, rfl, ?_⟩; have h_ := qA2 (blk_below (g := gb101) (o := .cells #[.int .i64 0, .int .u64 0] 234 (0, 0)) (qz8 BK101.out) hb) (below_step (qz10 GE101.out) hb); clear BK101 HB; obtain ⟨BK101, HB⟩ := h_; (try clear hb); (try clear hb2); (try clear hk); (try clear hi)) | ((with_reducible refine gate_callee (f := 281) rfl ?_); refine goesL_ (some 22) rfl rfl Try.func281 (by kernel_rfl) rfl #[.agg #[.int .i64 t110, .int .u64 t111]] rfl qz1 ?_; (with_reducible refine (spec_WideNeg.calls t110 t111 t112 t113 _ A16.out).mono ?_); rintro e w21 ⟨rfl, hb⟩; refine ⟨_, rfl, ?_⟩; have h_ := qA2 (blk_below (g := gb101) (o := .cells #[.int .i64 0, .int .u64 0] 234 (0, 0)) (qz8 BK101.out) hb) (below_step (qz10 GE101.out) hb); clear BK101 HB; obtain ⟨BK101, HB⟩ := h_; (try clear hb); (try clear hb2); (try clear hk); (try clear hi)) | ((with_reducible refine gate_callee (f := 279) rfl ?_); refine goesL_ (some 23) rfl rfl Try.func279 (by kernel_rfl) rfl #[.agg #[.int .i64 t108, .int .u64 t109], .agg #[.int .i64 t112, .int .u64 t113]] rfl qz1 ?_; (with_reducible refine (spec_WideAdd.calls t108 t109 t112 t113 t114 t115 _ A17.out).mono ?_); rintro e w22 ⟨rfl, hb⟩; refine ⟨_, rfl, ?_⟩; have h_ := qA2 (blk_below (g := gb101) (o := .cells #[.int .i64 0, .int .u64 0] 234 (0, 0)) (qz8 BK101.out) hb) (below_step (qz10 GE101.out) hb); clear BK101 HB; obtain ⟨BK101, HB⟩ := h_; (try clear hb); (try clear hb2); (try clear hk); (try clear hi); obtain ⟨hcz23_0, hcz23_1⟩ := qC2 BK101.out; obtain ⟨hfz23_0, hfz23_1⟩ := qF2 BK101.out))
   refine bodyPost_ret (results_ct rfl _ _ gb101 234 #[.int .i64 t114, .int .u64 t115] (0, 0) _ rfl (by (with_reducible repeat (first | refine blk_drewN ?_ _ | refine blk_drew ?_ | refine blk_alloc ?_ _)); refine blk_put (cs := #[.int .i64 t114, .int .u64 0]) ?_ 1 _ rfl; (with_reducible repeat (first | refine blk_drewN ?_ _ | refine blk_drew ?_ | refine blk_alloc ?_ _)); refine blk_put (cs := #[.int .i64 0, .int .u64 0]) ?_ 0 _ rfl; (with_reducible repeat (first | refine blk_drewN ?_ _ | refine blk_drew ?_ | refine blk_alloc ?_ _)); exact BK101.out) Try.underlying234 rfl (by kernel_rfl)) rfl ?_
   exact ⟨qz13, qz10 GE101.out⟩
  ·rw [if_neg c13] at H
   have c13b0 : (a0 == 5) = false := beq_eq_false_iff_ne.mpr c13; have c13b1 : (a0 != 5) = true := bne_iff_ne.mpr c13
   by_cases c24 : a0 = 6
   ·rw [if_pos c24] at H
    have c24b0 : (a0 == 6) = true := beq_iff_eq.mpr c24; have c24b1 : (a0 != 6) = false := bne_eq_false_iff_eq.mpr c24; clear c24; replace H := qB H; obtain ⟨⟨t116, t117⟩, A25, H⟩ := H
    try dsimp only at H
    simp only [Option.some.injEq, Prod.mk.injEq] at H
    obtain ⟨rfl, rfl, rfl⟩ := H; go_enter Try.func241, Try.ntmps241
    go_wp2_with (first | ((with_reducible refine gate_dst (N := 6) rfl ?_); refine box_event ?hg (N := 6) ?hd (cs := #[.int .i64 0, .int .u64 0]) (t := 234) ?hr ?_; (case hd => rfl); (case hg => rfl); (case hr => exact qz5); intro gb101 hg w26 hbox hb; have h_ := qA4 (below_step qz6 hb) (hbox) ((qz7 : w.heap.size ≤ gb101)) ((qz7 : w.heap.size ≤ gb101)); clear HB; obtain ⟨HB, BK101, GW101, GE101⟩ := h_; clear hb hbox hg) | ((with_reducible refine gate_callee (f := 282) rfl ?_); refine goesL_ (some 28) rfl rfl Try.func282 (by kernel_rfl) rfl #[.int .i64 a1, .int .i64 a2] rfl qz1 ?_; (with_reducible refine (spec_l03Times.calls k a1 a2 t116 t117 _ A25.out).mono ?_); rintro e w27 ⟨rfl, hb⟩; refine ⟨_, rfl, ?_⟩; have h_ := qA2 (blk_below (g := gb101) (o := .cells #[.int .i64 0, .int .u64 0] 234 (0, 0)) (qz8 BK101.out) hb) (below_step (qz10 GE101.out) hb); clear BK101 HB; obtain ⟨BK101, HB⟩ := h_; (try clear hb); (try clear hb2); (try clear hk); (try clear hi); obtain ⟨hcz28_0, hcz28_1⟩ := qC2 BK101.out; obtain ⟨hfz28_0, hfz28_1⟩ := qF2 BK101.out))
    refine bodyPost_ret (results_ct rfl _ _ gb101 234 #[.int .i64 t116, .int .u64 t117] (0, 0) _ rfl (by (with_reducible repeat (first | refine blk_drewN ?_ _ | refine blk_drew ?_ | refine blk_alloc ?_ _)); refine blk_put (cs := #[.int .i64 t116, .int .u64 0]) ?_ 1 _ rfl; (with_reducible repeat (first | refine blk_drewN ?_ _ | refine blk_drew ?_ | refine blk_alloc ?_ _)); refine blk_put (cs := #[.int .i64 0, .int .u64 0]) ?_ 0 _ rfl; (with_reducible repeat (first | refine blk_drewN ?_ _ | refine blk_drew ?_ | refine blk_alloc ?_ _)); exact BK101.out) Try.underlying234 rfl (by kernel_rfl)) rfl ?_
    exact ⟨qz13, qz10 GE101.out⟩
   ·rw [if_neg c24] at H
    have c24b0 : (a0 == 6) = false := beq_eq_false_iff_ne.mpr c24; have c24b1 : (a0 != 6) = true := bne_iff_ne.mpr c24
    by_cases c29 : a0 = 7
    ·rw [if_pos c29] at H
     have c29b0 : (a0 == 7) = true := beq_iff_eq.mpr c29; have c29b1 : (a0 != 7) = false := bne_eq_false_iff_eq.mpr c29; clear c29
     by_cases c30 : a2 = 0
     ·rw [if_pos c30] at H
      have c30b0 : (a2 == 0) = true := beq_iff_eq.mpr c30; have c30b1 : (a2 != 0) = false := bne_eq_false_iff_eq.mpr c30; clear c30; simp only [Option.some.injEq, Prod.mk.injEq] at H; obtain ⟨rfl, rfl, rfl⟩ := H; go_enter Try.func241, Try.ntmps241
      go_wp2_with (first | ((with_reducible refine gate_dst (N := 6) rfl ?_); refine box_event ?hg (N := 6) ?hd (cs := #[.int .i64 0, .int .u64 0]) (t := 234) ?hr ?_; (case hd => rfl); (case hg => rfl); (case hr => exact qz5); intro gb101 hg w31 hbox hb; have h_ := qA4 (below_step qz6 hb) (hbox) ((qz7 : w.heap.size ≤ gb101)) ((qz7 : w.heap.size ≤ gb101)); clear HB; obtain ⟨HB, BK101, GW101, GE101⟩ := h_; clear hb hbox hg; obtain ⟨hcz32_0, hcz32_1⟩ := qC2 BK101.out; obtain ⟨hfz32_0, hfz32_1⟩ := qF2 BK101.out))
      refine bodyPost_ret (results_ct rfl _ _ gb101 234 #[.int .i64 0, .int .u64 0] (0, 0) _ rfl (qz233 BK101.out) Try.underlying234 rfl (by kernel_rfl)) rfl ?_
      exact ⟨qz13, qz10 GE101.out⟩
     ·rw [if_neg c30] at H
      have c30b0 : (a2 == 0) = false := beq_eq_false_iff_ne.mpr c30; have c30b1 : (a2 != 0) = true := bne_iff_ne.mpr c30
      by_cases c33 : a2 = (-1)
      ·rw [if_pos c33] at H
       have c33b0 : (a2 == (-1)) = true := beq_iff_eq.mpr c33; have c33b1 : (a2 != (-1)) = false := bne_eq_false_iff_eq.mpr c33; clear c33; replace H := qB H; obtain ⟨⟨t118, t119⟩, A34, H⟩ := H
       try dsimp only at H
       replace H := qB H; obtain ⟨⟨t120, t121⟩, A35, H⟩ := H
       try dsimp only at H
       simp only [Option.some.injEq, Prod.mk.injEq] at H
       obtain ⟨rfl, rfl, rfl⟩ := H; go_enter Try.func241, Try.ntmps241
       go_wp2_with (first | ((with_reducible refine gate_dst (N := 6) rfl ?_); refine box_event ?hg (N := 6) ?hd (cs := #[.int .i64 0, .int .u64 0]) (t := 234) ?hr ?_; (case hd => rfl); (case hg => rfl); (case hr => exact qz5); intro gb101 hg w36 hbox hb; have h_ := qA4 (below_step qz6 hb) (hbox) ((qz7 : w.heap.size ≤ gb101)) ((qz7 : w.heap.size ≤ gb101)); clear HB; obtain ⟨HB, BK101, GW101, GE101⟩ := h_; clear hb hbox hg) | ((with_reducible refine gate_callee (f := 280) rfl ?_); refine goesL_ (some 37) rfl rfl Try.func280 (by kernel_rfl) rfl #[.int .i64 a1] rfl qz1 ?_; (with_reducible refine (spec_WideOf.calls a1 t118 t119 _ A34.out).mono ?_); rintro e w37 ⟨rfl, hb⟩; refine ⟨_, rfl, ?_⟩; have h_ := qA2 (blk_below (g := gb101) (o := .cells #[.int .i64 0, .int .u64 0] 234 (0, 0)) (qz8 BK101.out) hb) (below_step (qz10 GE101.out) hb); clear BK101 HB; obtain ⟨BK101, HB⟩ := h_; (try clear hb); (try clear hb2); (try clear hk); (try clear hi)) | ((with_reducible refine gate_callee (f := 281) rfl ?_); refine goesL_ (some 38) rfl rfl Try.func281 (by kernel_rfl) rfl #[.agg #[.int .i64 t118, .int .u64 t119]] rfl qz1 ?_; (with_reducible refine (spec_WideNeg.calls t118 t119 t120 t121 _ A35.out).mono ?_); rintro e w38 ⟨rfl, hb⟩; refine ⟨_, rfl, ?_⟩; have h_ := qA2 (blk_below (g := gb101) (o := .cells #[.int .i64 0, .int .u64 0] 234 (0, 0)) (qz8 BK101.out) hb) (below_step (qz10 GE101.out) hb); clear BK101 HB; obtain ⟨BK101, HB⟩ := h_; (try clear hb); (try clear hb2); (try clear hk); (try clear hi); obtain ⟨hcz39_0, hcz39_1⟩ := qC2 BK101.out; obtain ⟨hfz39_0, hfz39_1⟩ := qF2 BK101.out))
       refine bodyPost_ret (results_ct rfl _ _ gb101 234 #[.int .i64 t120, .int .u64 t121] (0, 0) _ rfl (by (with_reducible repeat (first | refine blk_drewN ?_ _ | refine blk_drew ?_ | refine blk_alloc ?_ _)); refine blk_put (cs := #[.int .i64 t120, .int .u64 0]) ?_ 1 _ rfl; (with_reducible repeat (first | refine blk_drewN ?_ _ | refine blk_drew ?_ | refine blk_alloc ?_ _)); refine blk_put (cs := #[.int .i64 0, .int .u64 0]) ?_ 0 _ rfl; (with_reducible repeat (first | refine blk_drewN ?_ _ | refine blk_drew ?_ | refine blk_alloc ?_ _)); exact BK101.out) Try.underlying234 rfl (by kernel_rfl)) rfl ?_
       exact ⟨qz13, qz10 GE101.out⟩
      ·rw [if_neg c33] at H
       have c33b0 : (a2 == (-1)) = false := beq_eq_false_iff_ne.mpr c33; have c33b1 : (a2 != (-1)) = true := bne_iff_ne.mpr c33; replace H := qB H; obtain ⟨⟨t122, t123⟩, A40, H⟩ := H
       try dsimp only at H
       simp only [Option.some.injEq, Prod.mk.injEq] at H
       obtain ⟨rfl, rfl, rfl⟩ := H; go_enter Try.func241, Try.ntmps241
       go_wp2_with (first | ((with_reducible refine gate_dst (N := 6) rfl ?_); refine box_event ?hg (N := 6) ?hd (cs := #[.int .i64 0, .int .u64 0]) (t := 234) ?hr ?_; (case hd => rfl); (case hg => rfl); (case hr => exact qz5); intro gb101 hg w41 hbox hb; have h_ := qA4 (below_step qz6 hb) (hbox) ((qz7 : w.heap.size ≤ gb101)) ((qz7 : w.heap.size ≤ gb101)); clear HB; obtain ⟨HB, BK101, GW101, GE101⟩ := h_; clear hb hbox hg) | ((with_reducible refine gate_callee (f := 280) rfl ?_); refine goesL_ (some 42) rfl rfl Try.func280 (by kernel_rfl) rfl #[.int .i64 (wrap64 (Int.tdiv a1 a2))] rfl qz1 ?_; (with_reducible refine (spec_WideOf.calls (wrap64 (Int.tdiv a1 a2)) t122 t123 _ A40.out).mono ?_); rintro e w42 ⟨rfl, hb⟩; refine ⟨_, rfl, ?_⟩; have h_ := qA2 (blk_below (g := gb101) (o := .cells #[.int .i64 0, .int .u64 0] 234 (0, 0)) (qz8 BK101.out) hb) (below_step (qz10 GE101.out) hb); clear BK101 HB; obtain ⟨BK101, HB⟩ := h_; (try clear hb); (try clear hb2); (try clear hk); (try clear hi); obtain ⟨hcz43_0, hcz43_1⟩ := qC2 BK101.out; obtain ⟨hfz43_0, hfz43_1⟩ := qF2 BK101.out))
       refine bodyPost_ret (results_ct rfl _ _ gb101 234 #[.int .i64 t122, .int .u64 t123] (0, 0) _ rfl (by (with_reducible repeat (first | refine blk_drewN ?_ _ | refine blk_drew ?_ | refine blk_alloc ?_ _)); refine blk_put (cs := #[.int .i64 t122, .int .u64 0]) ?_ 1 _ rfl; (with_reducible repeat (first | refine blk_drewN ?_ _ | refine blk_drew ?_ | refine blk_alloc ?_ _)); refine blk_put (cs := #[.int .i64 0, .int .u64 0]) ?_ 0 _ rfl; (with_reducible repeat (first | refine blk_drewN ?_ _ | refine blk_drew ?_ | refine blk_alloc ?_ _)); exact BK101.out) Try.underlying234 rfl (by kernel_rfl)) rfl ?_
       exact ⟨qz13, qz10 GE101.out⟩
    ·rw [if_neg c29] at H
     have c29b0 : (a0 == 7) = false := beq_eq_false_iff_ne.mpr c29; have c29b1 : (a0 != 7) = true := bne_iff_ne.mpr c29
     by_cases c44 : a0 = 8
     ·rw [if_pos c44] at H
      have c44b0 : (a0 == 8) = true := beq_iff_eq.mpr c44; have c44b1 : (a0 != 8) = false := bne_eq_false_iff_eq.mpr c44; clear c44; replace H := qB H; obtain ⟨t124, A45, H⟩ := H
      try dsimp only at H
      replace H := qB H; obtain ⟨⟨t125, t126⟩, A46, H⟩ := H
      try dsimp only at H
      simp only [Option.some.injEq, Prod.mk.injEq] at H
      obtain ⟨rfl, rfl, rfl⟩ := H; go_enter Try.func241, Try.ntmps241
      go_wp2_with (first | ((with_reducible refine gate_dst (N := 6) rfl ?_); refine box_event ?hg (N := 6) ?hd (cs := #[.int .i64 0, .int .u64 0]) (t := 234) ?hr ?_; (case hd => rfl); (case hg => rfl); (case hr => exact qz5); intro gb101 hg w47 hbox hb; have h_ := qA4 (below_step qz6 hb) (hbox) ((qz7 : w.heap.size ≤ gb101)) ((qz7 : w.heap.size ≤ gb101)); clear HB; obtain ⟨HB, BK101, GW101, GE101⟩ := h_; clear hb hbox hg) | ((with_reducible refine gate_callee (f := 240) rfl ?_); refine goesL_ (some 48) rfl rfl Try.func240 (by kernel_rfl) rfl #[.bool (decide (a1 < a2))] rfl qz1 ?_; (with_reducible refine (spec_l03Bool.calls (decide (a1 < a2)) t124 _ A45.out).mono ?_); rintro e w' ⟨rfl, ⟨nd, rfl⟩⟩; refine ⟨_, rfl, ?_⟩; (try (rw [drewN_self w47]; generalize hq_ : World.drewN w47 _ = w47; have h_ := qA2 ((⟨qz9 BK101.out⟩ : Aside0 (w47.heap[gb101]? = some (.cells #[.int .i64 0, .int .u64 0] 234 (0, 0)))).out) ((⟨qz11 GE101.out⟩ : Aside0 (Below w.heap.size w w47)).out); clear BK101 HB hq_; obtain ⟨BK101, HB⟩ := h_))) | ((with_reducible refine gate_callee (f := 280) rfl ?_); refine goesL_ (some 49) rfl rfl Try.func280 (by kernel_rfl) rfl #[.int .i64 t124] rfl qz1 ?_; (with_reducible refine (spec_WideOf.calls t124 t125 t126 _ A46.out).mono ?_); rintro e w48 ⟨rfl, hb⟩; refine ⟨_, rfl, ?_⟩; have h_ := qA2 (blk_below (g := gb101) (o := .cells #[.int .i64 0, .int .u64 0] 234 (0, 0)) (qz8 BK101.out) hb) (below_step (qz10 GE101.out) hb); clear BK101 HB; obtain ⟨BK101, HB⟩ := h_; (try clear hb); (try clear hb2); (try clear hk); (try clear hi); obtain ⟨hcz49_0, hcz49_1⟩ := qC2 BK101.out; obtain ⟨hfz49_0, hfz49_1⟩ := qF2 BK101.out))
      refine bodyPost_ret (results_ct rfl _ _ gb101 234 #[.int .i64 t125, .int .u64 t126] (0, 0) _ rfl (by (with_reducible repeat (first | refine blk_drewN ?_ _ | refine blk_drew ?_ | refine blk_alloc ?_ _)); refine blk_put (cs := #[.int .i64 t125, .int .u64 0]) ?_ 1 _ rfl; (with_reducible repeat (first | refine blk_drewN ?_ _ | refine blk_drew ?_ | refine blk_alloc ?_ _)); refine blk_put (cs := #[.int .i64 0, .int .u64 0]) ?_ 0 _ rfl; (with_reducible repeat (first | refine blk_drewN ?_ _ | refine blk_drew ?_ | refine blk_alloc ?_ _)); exact BK101.out) Try.underlying234 rfl (by kernel_rfl)) rfl ?_
      exact ⟨qz13, qz10 GE101.out⟩
     ·rw [if_neg c44] at H
      have c44b0 : (a0 == 8) = false := beq_eq_false_iff_ne.mpr c44; have c44b1 : (a0 != 8) = true := bne_iff_ne.mpr c44
      by_cases c50 : a0 = 9
      ·rw [if_pos c50] at H
       have c50b0 : (a0 == 9) = true := beq_iff_eq.mpr c50; have c50b1 : (a0 != 9) = false := bne_eq_false_iff_eq.mpr c50; clear c50; replace H := qB H; obtain ⟨t127, A51, H⟩ := H
       try dsimp only at H
       replace H := qB H; obtain ⟨⟨t128, t129⟩, A52, H⟩ := H
       try dsimp only at H
       simp only [Option.some.injEq, Prod.mk.injEq] at H
       obtain ⟨rfl, rfl, rfl⟩ := H; go_enter Try.func241, Try.ntmps241
       go_wp2_with (first | ((with_reducible refine gate_dst (N := 6) rfl ?_); refine box_event ?hg (N := 6) ?hd (cs := #[.int .i64 0, .int .u64 0]) (t := 234) ?hr ?_; (case hd => rfl); (case hg => rfl); (case hr => exact qz5); intro gb101 hg w53 hbox hb; have h_ := qA4 (below_step qz6 hb) (hbox) ((qz7 : w.heap.size ≤ gb101)) ((qz7 : w.heap.size ≤ gb101)); clear HB; obtain ⟨HB, BK101, GW101, GE101⟩ := h_; clear hb hbox hg) | ((with_reducible refine gate_callee (f := 240) rfl ?_); refine goesL_ (some 55) rfl rfl Try.func240 (by kernel_rfl) rfl #[.bool (a1 == a2)] rfl qz1 ?_; (with_reducible refine (spec_l03Bool.calls (a1 == a2) t127 _ A51.out).mono ?_); rintro e w' ⟨rfl, ⟨nd, rfl⟩⟩; refine ⟨_, rfl, ?_⟩; (try (rw [drewN_self w53]; generalize hq_ : World.drewN w53 _ = w53; have h_ := qA2 ((⟨qz9 BK101.out⟩ : Aside0 (w53.heap[gb101]? = some (.cells #[.int .i64 0, .int .u64 0] 234 (0, 0)))).out) ((⟨qz11 GE101.out⟩ : Aside0 (Below w.heap.size w w53)).out); clear BK101 HB hq_; obtain ⟨BK101, HB⟩ := h_))) | ((with_reducible refine gate_callee (f := 280) rfl ?_); refine goesL_ (some 56) rfl rfl Try.func280 (by kernel_rfl) rfl #[.int .i64 t127] rfl qz1 ?_; (with_reducible refine (spec_WideOf.calls t127 t128 t129 _ A52.out).mono ?_); rintro e w54 ⟨rfl, hb⟩; refine ⟨_, rfl, ?_⟩; have h_ := qA2 (blk_below (g := gb101) (o := .cells #[.int .i64 0, .int .u64 0] 234 (0, 0)) (qz8 BK101.out) hb) (below_step (qz10 GE101.out) hb); clear BK101 HB; obtain ⟨BK101, HB⟩ := h_; (try clear hb); (try clear hb2); (try clear hk); (try clear hi); obtain ⟨hcz55_0, hcz55_1⟩ := qC2 BK101.out; obtain ⟨hfz55_0, hfz55_1⟩ := qF2 BK101.out))
       refine bodyPost_ret (results_ct rfl _ _ gb101 234 #[.int .i64 t128, .int .u64 t129] (0, 0) _ rfl (by (with_reducible repeat (first | refine blk_drewN ?_ _ | refine blk_drew ?_ | refine blk_alloc ?_ _)); refine blk_put (cs := #[.int .i64 t128, .int .u64 0]) ?_ 1 _ rfl; (with_reducible repeat (first | refine blk_drewN ?_ _ | refine blk_drew ?_ | refine blk_alloc ?_ _)); refine blk_put (cs := #[.int .i64 0, .int .u64 0]) ?_ 0 _ rfl; (with_reducible repeat (first | refine blk_drewN ?_ _ | refine blk_drew ?_ | refine blk_alloc ?_ _)); exact BK101.out) Try.underlying234 rfl (by kernel_rfl)) rfl ?_
       exact ⟨qz13, qz10 GE101.out⟩
      ·rw [if_neg c50] at H
       have c50b0 : (a0 == 9) = false := beq_eq_false_iff_ne.mpr c50; have c50b1 : (a0 != 9) = true := bne_iff_ne.mpr c50
       by_cases c56 : a1 = 0
       ·rw [if_pos c56] at H
        have c56b0 : (a1 == 0) = true := beq_iff_eq.mpr c56; have c56b1 : (a1 != 0) = false := bne_eq_false_iff_eq.mpr c56; clear c56; replace H := qB H; obtain ⟨t130, A57, H⟩ := H
        try dsimp only at H
        replace H := qB H; obtain ⟨⟨t131, t132⟩, A58, H⟩ := H
        try dsimp only at H
        simp only [Option.some.injEq, Prod.mk.injEq] at H
        obtain ⟨rfl, rfl, rfl⟩ := H; go_enter Try.func241, Try.ntmps241
        go_wp2_with (first | ((with_reducible refine gate_dst (N := 6) rfl ?_); refine box_event ?hg (N := 6) ?hd (cs := #[.int .i64 0, .int .u64 0]) (t := 234) ?hr ?_; (case hd => rfl); (case hg => rfl); (case hr => exact qz5); intro gb101 hg w59 hbox hb; have h_ := qA4 (below_step qz6 hb) (hbox) ((qz7 : w.heap.size ≤ gb101)) ((qz7 : w.heap.size ≤ gb101)); clear HB; obtain ⟨HB, BK101, GW101, GE101⟩ := h_; clear hb hbox hg) | ((with_reducible refine gate_callee (f := 240) rfl ?_); refine goesL_ (some 63) rfl rfl Try.func240 (by kernel_rfl) rfl #[.bool false] rfl qz1 ?_; (with_reducible refine (spec_l03Bool.calls false t130 _ A57.out).mono ?_); rintro e w' ⟨rfl, ⟨nd, rfl⟩⟩; refine ⟨_, rfl, ?_⟩; (try (rw [drewN_self w59]; generalize hq_ : World.drewN w59 _ = w59; have h_ := qA2 ((⟨qz9 BK101.out⟩ : Aside0 (w59.heap[gb101]? = some (.cells #[.int .i64 0, .int .u64 0] 234 (0, 0)))).out) ((⟨qz11 GE101.out⟩ : Aside0 (Below w.heap.size w w59)).out); clear BK101 HB hq_; obtain ⟨BK101, HB⟩ := h_))) | ((with_reducible refine gate_callee (f := 280) rfl ?_); refine goesL_ (some 64) rfl rfl Try.func280 (by kernel_rfl) rfl #[.int .i64 t130] rfl qz1 ?_; (with_reducible refine (spec_WideOf.calls t130 t131 t132 _ A58.out).mono ?_); rintro e w60 ⟨rfl, hb⟩; refine ⟨_, rfl, ?_⟩; have h_ := qA2 (blk_below (g := gb101) (o := .cells #[.int .i64 0, .int .u64 0] 234 (0, 0)) (qz8 BK101.out) hb) (below_step (qz10 GE101.out) hb); clear BK101 HB; obtain ⟨BK101, HB⟩ := h_; (try clear hb); (try clear hb2); (try clear hk); (try clear hi); obtain ⟨hcz61_0, hcz61_1⟩ := qC2 BK101.out; obtain ⟨hfz61_0, hfz61_1⟩ := qF2 BK101.out))
        refine bodyPost_ret (results_ct rfl _ _ gb101 234 #[.int .i64 t131, .int .u64 t132] (0, 0) _ rfl (by (with_reducible repeat (first | refine blk_drewN ?_ _ | refine blk_drew ?_ | refine blk_alloc ?_ _)); refine blk_put (cs := #[.int .i64 t131, .int .u64 0]) ?_ 1 _ rfl; (with_reducible repeat (first | refine blk_drewN ?_ _ | refine blk_drew ?_ | refine blk_alloc ?_ _)); refine blk_put (cs := #[.int .i64 0, .int .u64 0]) ?_ 0 _ rfl; (with_reducible repeat (first | refine blk_drewN ?_ _ | refine blk_drew ?_ | refine blk_alloc ?_ _)); exact BK101.out) Try.underlying234 rfl (by kernel_rfl)) rfl ?_
        exact ⟨qz13, qz10 GE101.out⟩
       ·rw [if_neg c56] at H
        have c56b0 : (a1 == 0) = false := beq_eq_false_iff_ne.mpr c56; have c56b1 : (a1 != 0) = true := bne_iff_ne.mpr c56; replace H := qB H; obtain ⟨t133, A62, H⟩ := H
        try dsimp only at H
        replace H := qB H; obtain ⟨⟨t134, t135⟩, A63, H⟩ := H
        try dsimp only at H
        simp only [Option.some.injEq, Prod.mk.injEq] at H
        obtain ⟨rfl, rfl, rfl⟩ := H; go_enter Try.func241, Try.ntmps241
        go_wp2_with (first | ((with_reducible refine gate_dst (N := 6) rfl ?_); refine box_event ?hg (N := 6) ?hd (cs := #[.int .i64 0, .int .u64 0]) (t := 234) ?hr ?_; (case hd => rfl); (case hg => rfl); (case hr => exact qz5); intro gb101 hg w64 hbox hb; have h_ := qA4 (below_step qz6 hb) (hbox) ((qz7 : w.heap.size ≤ gb101)) ((qz7 : w.heap.size ≤ gb101)); clear HB; obtain ⟨HB, BK101, GW101, GE101⟩ := h_; clear hb hbox hg) | ((with_reducible refine gate_callee (f := 240) rfl ?_); refine goesL_ (some 63) rfl rfl Try.func240 (by kernel_rfl) rfl #[.bool (a2 != 0)] rfl qz1 ?_; (with_reducible refine (spec_l03Bool.calls (a2 != 0) t133 _ A62.out).mono ?_); rintro e w' ⟨rfl, ⟨nd, rfl⟩⟩; refine ⟨_, rfl, ?_⟩; (try (rw [drewN_self w64]; generalize hq_ : World.drewN w64 _ = w64; have h_ := qA2 ((⟨qz9 BK101.out⟩ : Aside0 (w64.heap[gb101]? = some (.cells #[.int .i64 0, .int .u64 0] 234 (0, 0)))).out) ((⟨qz11 GE101.out⟩ : Aside0 (Below w.heap.size w w64)).out); clear BK101 HB hq_; obtain ⟨BK101, HB⟩ := h_))) | ((with_reducible refine gate_callee (f := 280) rfl ?_); refine goesL_ (some 64) rfl rfl Try.func280 (by kernel_rfl) rfl #[.int .i64 t133] rfl qz1 ?_; (with_reducible refine (spec_WideOf.calls t133 t134 t135 _ A63.out).mono ?_); rintro e w65 ⟨rfl, hb⟩; refine ⟨_, rfl, ?_⟩; have h_ := qA2 (blk_below (g := gb101) (o := .cells #[.int .i64 0, .int .u64 0] 234 (0, 0)) (qz8 BK101.out) hb) (below_step (qz10 GE101.out) hb); clear BK101 HB; obtain ⟨BK101, HB⟩ := h_; (try clear hb); (try clear hb2); (try clear hk); (try clear hi); obtain ⟨hcz66_0, hcz66_1⟩ := qC2 BK101.out; obtain ⟨hfz66_0, hfz66_1⟩ := qF2 BK101.out))
        refine bodyPost_ret (results_ct rfl _ _ gb101 234 #[.int .i64 t134, .int .u64 t135] (0, 0) _ rfl (by (with_reducible repeat (first | refine blk_drewN ?_ _ | refine blk_drew ?_ | refine blk_alloc ?_ _)); refine blk_put (cs := #[.int .i64 t134, .int .u64 0]) ?_ 1 _ rfl; (with_reducible repeat (first | refine blk_drewN ?_ _ | refine blk_drew ?_ | refine blk_alloc ?_ _)); refine blk_put (cs := #[.int .i64 0, .int .u64 0]) ?_ 0 _ rfl; (with_reducible repeat (first | refine blk_drewN ?_ _ | refine blk_drew ?_ | refine blk_alloc ?_ _)); exact BK101.out) Try.underlying234 rfl (by kernel_rfl)) rfl ?_
        exact ⟨qz13, qz10 GE101.out⟩
end Go.Proofs.Ytjhfjnknajhanaa.P
