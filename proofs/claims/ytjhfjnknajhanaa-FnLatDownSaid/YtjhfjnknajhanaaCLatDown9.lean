/- The law FnLatDown returns true for every byte string that can be read, with no condition: LatDown lists exactly the labels at or below a label, in ascending order, and the join of all of them is that label. -/
import Derived.WalkKit
import Derived.ProofKit
import Derived.OpenShut
import Derived.ShutString
import Derived.ChangeOld
import Derived.Below
import Derived.SizedLaws
import Derived.Test.YtjhfjnknajhanaaCLatDown5
import Derived.Test.YtjhfjnknajhanaaCLatDown6
import Derived.Test.YtjhfjnknajhanaaCLatDown8
import Derived.Test.YtjhfjnknajhanaaRows
import Derived.Test.YtjhfjnknajhanaaCLatDown4
import Derived.Test.YtjhfjnknajhanaaCLatDown1
namespace Go.Proofs.Ytjhfjnknajhanaa.P
open Go.RowKit Go.Proofs.YtjhfjnknajhanaaW.PrintWords Go.Proofs.YtjhfjnknajhanaaW.PrintLast Go.Proofs.YtjhfjnknajhanaaW.PrintMore
attribute [local go_sem] max2_int min2_int max_two min_two max_three min_three max_four min_four   -- for this text's walks alone
set_option linter.unusedVariables false
set_option linter.unusedSimpArgs false

/-! ### laws_FnLatDown: function 6 -/
def laws_FnLatDown.T10 : Bool × List (List Nat × List Nat) := (true, [([], []), ([], []), ([], []), ([1, 2], [1, 2]), ([3], [3]), ([], []), ([0, 4, 5], [0, 4, 5]), ([6], [6]), ([7, 6], [7]), ([8], [8]), ([9, 8], [8, 9]), ([10, 8, 8], [8, 10]), ([11], [11]), ([11], [11]), ([13, 11], [11, 13]), ([12, 14, 11], [11, 12, 14]), ([15, 11], [11, 15]), ([11], [11]), ([11], [11]), ([17, 18, 11], [11, 17, 18]), ([19, 11], [11, 19]), ([16, 20, 11], [11, 16, 20]), ([11, 21, 8], [8, 11, 21]), ([8, 22], [8, 22])])
def laws_FnLatDown.B10 : List Nat := [0, 0, 0, 6, 14, 0, 63, 127, 255, 511, 1023, 2047, 4095, 4095, 12287, 32767, 65535, 4095, 4095, 397311, 921599, 2097151, 4194303, 8388607]
theorem laws_FnLatDown.tab10 : rtab .any (opsOf Try.f6 10) = laws_FnLatDown.T10 := by kernel_rfl
theorem laws_FnLatDown.bits10 : waitsOk laws_FnLatDown.T10.2 laws_FnLatDown.B10 = true := by kernel_rfl
set_option maxHeartbeats 8000000 in
set_option maxRecDepth 100000 in
theorem laws_FnLatDown.calls (k : Nat) (A0 : Option Addr) (c0 : Nat) (l0 : List Int) (r : Bool) (w : World) (hr0 : Kd.C (Kd.int .u8) w A0 l0.length l0) (hc0 : l0.length ≤ c0) (h : laws_FnLatDown.f k l0 = some r) :
  Calls Try.prog 6 #[.slice A0 l0.length c0] w fun e w' => e = .returned (.bool r) ∧ Below w.heap.size w w' := by
 have hu47 := Try.underlying47
 have HR0 := Aside0.mk hr0
 have HC0 := Aside0.mk hc0
 clear hr0 hc0
 have HB := Aside0.mk (Below.refl w.heap.size w)
 have H : ((laws_big.f l0).bind fun t101 => (if t101 = true then (some true) else ((spec_DrawLatDown.f k l0).bind fun bt102 => ((impl_LatDown.f k bt102.1 bt102.2.1 bt102.2.2).bind fun t108 => ((spec_LatDown.f k bt102.1 bt102.2.1 bt102.2.2).bind fun t111 => ((laws_same.f k t108 t111).bind fun t114 => (if t114 = true then (laws_FnLatDown.j0 k bt102.2.2 t108 ((t108.length : Int) == 0) bt102.1 bt102.2.1) else (laws_FnLatDown.j0 k bt102.2.2 t108 true bt102.1 bt102.2.1)))))))) = some r := h
 clear h
 replace H := Option.bind_eq_some_iff.mp H
 obtain ⟨t101, A20, H⟩ := H
 replace H : (if t101 = true then (some true) else ((spec_DrawLatDown.f k l0).bind fun bt102 => ((impl_LatDown.f k bt102.1 bt102.2.1 bt102.2.2).bind fun t108 => ((spec_LatDown.f k bt102.1 bt102.2.1 bt102.2.2).bind fun t111 => ((laws_same.f k t108 t111).bind fun t114 => (if t114 = true then (laws_FnLatDown.j0 k bt102.2.2 t108 ((t108.length : Int) == 0) bt102.1 bt102.2.1) else (laws_FnLatDown.j0 k bt102.2.2 t108 true bt102.1 bt102.2.1))))))) = some r := H
 have A2 := Aside0.mk A20
 clear A20
 by_cases c3 : t101 = true
 ·subst c3
  have H1 : (some true) = some r := by rw [if_pos rfl] at H; exact H
  clear H
  have H := H1
  clear H1
  obtain rfl := Option.some.inj H
  go_enter Try.func6, Try.ntmps6
  go_wp2_with (first | ((with_reducible refine gate_callee (f := 19) rfl ?_); refine goesL_ (some 8) rfl rfl Try.func19 (by kernel_rfl) rfl #[.slice A0 l0.length c0] rfl qz1 ?_; (with_reducible refine (laws_big.calls _ _ l0 true _ ?side1 ?side2 A2.out).mono ?_); (case side1 => exact qz62 HR0.out); (case side2 => exact HC0.out); rintro e w' ⟨rfl, ⟨nd, rfl⟩⟩; refine ⟨_, rfl, ?_⟩))
  go_ret
  exact ⟨qz13, qz6⟩
 ·replace c3 := Bool.eq_false_iff.mpr c3
  subst c3
  have H1 : ((spec_DrawLatDown.f k l0).bind fun bt102 => ((impl_LatDown.f k bt102.1 bt102.2.1 bt102.2.2).bind fun t108 => ((spec_LatDown.f k bt102.1 bt102.2.1 bt102.2.2).bind fun t111 => ((laws_same.f k t108 t111).bind fun t114 => (if t114 = true then (laws_FnLatDown.j0 k bt102.2.2 t108 ((t108.length : Int) == 0) bt102.1 bt102.2.1) else (laws_FnLatDown.j0 k bt102.2.2 t108 true bt102.1 bt102.2.1)))))) = some r := by rw [if_neg (show ¬ (false = true) by decide)] at H; exact H
  clear H
  have H := H1
  clear H1
  replace H := Option.bind_eq_some_iff.mp H
  obtain ⟨⟨t102, t103, t106⟩, A40, H⟩ := H
  replace H : ((impl_LatDown.f k t102 t103 t106).bind fun t108 => ((spec_LatDown.f k t102 t103 t106).bind fun t111 => ((laws_same.f k t108 t111).bind fun t114 => (if t114 = true then (laws_FnLatDown.j0 k t106 t108 ((t108.length : Int) == 0) t102 t103) else (laws_FnLatDown.j0 k t106 t108 true t102 t103))))) = some r := H
  have A4 := Aside0.mk A40
  clear A40
  replace H := Option.bind_eq_some_iff.mp H
  obtain ⟨t108, A50, H⟩ := H
  replace H : ((spec_LatDown.f k t102 t103 t106).bind fun t111 => ((laws_same.f k t108 t111).bind fun t114 => (if t114 = true then (laws_FnLatDown.j0 k t106 t108 ((t108.length : Int) == 0) t102 t103) else (laws_FnLatDown.j0 k t106 t108 true t102 t103)))) = some r := H
  have A5 := Aside0.mk A50
  clear A50
  have HC6 := Aside0.mk H
  clear H
  go_enter Try.func6, Try.ntmps6
  go_upto_region 5 with (first | ((with_reducible refine gate_callee (f := 19) rfl ?_); refine goesL_ (some 8) rfl rfl Try.func19 (by kernel_rfl) rfl #[.slice A0 l0.length c0] rfl qz1 ?_; (with_reducible refine (laws_big.calls _ _ l0 false _ ?side1 ?side2 A2.out).mono ?_); (case side1 => exact qz62 HR0.out); (case side2 => exact HC0.out); rintro e w' ⟨rfl, ⟨nd, rfl⟩⟩; refine ⟨_, rfl, ?_⟩) | ((with_reducible refine gate_callee (f := 41) rfl ?_); refine goesL_ (some 11) rfl rfl Try.func41 (by kernel_rfl) rfl #[.slice A0 l0.length c0] rfl qz1 ?_; (with_reducible refine (spec_DrawLatDown.calls k _ _ l0 t102 t103 t106 _ ?side1 ?side2 A4.out).mono ?_); (case side1 => exact qz62 HR0.out); (case side2 => exact HC0.out); rintro e w7 ⟨v104, rfl, ho0, hb⟩; refine ⟨_, rfl, ?_⟩; have n0_ := Aside0.mk (Kd.R_lower ho0 (below_size qz6)); have n1_ := Aside0.mk (below_step qz6 hb); clear HB; have HO105 := n0_; have HB := n1_; clear n0_ n1_; (try clear hb); (try clear hb2); (try clear hk); (try clear hi); (try clear ho0)) | ((with_reducible refine gate_dst (N := 3) rfl ?_); (try (refine gate_guard (by rfl) ?_; dsimp only)); refine box_event ?hg (N := 3) ?hd (cs := #[.int .i64 0, .slice none 0 0]) (t := 47) ?hr ?_; (case hd => rfl); (case hg => rfl); (case hr => exact qz5); intro gb107 hg w8 hbox hb; have n0_ := Aside0.mk (Kd.R_below (qz21 HO105.out) hb); have n1_ := Aside0.mk (below_step qz6 hb); have n2_ := Aside0.mk (hbox); have n3_ := Aside0.mk ((qz7 : w.heap.size ≤ gb107)); have n4_ := Aside0.mk ((qz7 : w.heap.size ≤ gb107)); clear HO105; clear HB; have HO105 := n0_; have HB := n1_; have BK107 := n2_; have GW107 := n3_; have GE107 := n4_; clear n0_ n1_ n2_ n3_ n4_; clear hb hbox hg; have hcz9_0 : w8.cell? ⟨gb107, 0, none⟩ = some (.int .i64 0) := (blk_cell BK107.out 0).trans rfl; have hcz9_1 : w8.cell? ⟨gb107, 1, none⟩ = some (.slice none 0 0) := (blk_cell BK107.out 1).trans rfl; have hfz9_0 := blk_frozen BK107.out 0; have hfz9_1 := blk_frozen BK107.out 1; obtain ⟨Ao10, co10, eo10⟩ := Kd.R_slice HO105.out; subst eo10) | ((with_reducible refine gate_callee (f := 42) rfl ?_); refine goesL_ (some 16) rfl rfl Try.func42 (by kernel_rfl) rfl #[.agg #[.int .i64 t102, .slice Ao10 t103.length co10], .int .i64 t106] rfl qz1 ?_; (with_reducible refine (impl_LatDown.calls k t102 _ _ t103 t106 t108 _ ?side1 ?side2 A5.out).mono ?_); (case side1 => refine (Kd.R_reads' (e := 153) (base := w.heap.size) (ok := fun k_ => True) (n := t103.length) (c := co10) ?_).2.2; exact (qz171 HO105.out BK107.out)); (case side2 => exact qz20 HO105.out); rintro e w11 ⟨v109, rfl, ho0, hb⟩; refine ⟨_, rfl, ?_⟩; have n0_ := Aside0.mk (Kd.R_below (qz171 HO105.out BK107.out) hb); have n1_ := Aside0.mk (Kd.R_lower ho0 (below_size (qz10 GE107.out))); have n2_ := Aside0.mk (blk_below (g := gb107) (o := .cells #[.int .i64 t102, .slice Ao10 t103.length co10] 47 (0, 0)) (qz167 BK107.out) hb); have n3_ := Aside0.mk (below_step (qz10 GE107.out) hb); clear HO105; clear BK107; clear HB; have HO105 := n0_; have HO110 := n1_; have BK107 := n2_; have HB := n3_; clear n0_ n1_ n2_ n3_; (try clear hb); (try clear hb2); (try clear hk); (try clear hi); (try clear ho0)))
  (try simp only [Act.put, List.setIfInBounds_toArray, List.set_cons_zero, List.set_cons_succ])
  go_cut [27] (fun v27 wc => ∃ (kq : Nat) (x27_5 : Bool), v27 = .bool x27_5 ∧ Aside0 (laws_FnLatDown.j0 kq t106 t108 x27_5 t102 t103 = some r) ∧ Aside0 (kq ≤ k) ∧ Aside0 (Kd.R (Kd.int .i64) 3 wc w.heap.size (fun _ => True) v109 t108) ∧ Aside0 (Kd.R (Kd.int .u64) 153 wc w.heap.size (fun _ => True) (.slice Ao10 t103.length co10) t103) ∧ Aside0 (wc.heap[gb107]? = some (.cells #[.int .i64 t102, (.slice Ao10 t103.length co10)] 47 (0, 0))) ∧ Aside0 (Below w.heap.size w wc))
  case first =>
   have H := HC6.out
   clear HC6
   replace H := Option.bind_eq_some_iff.mp H
   obtain ⟨t111, A120, H⟩ := H
   replace H : ((laws_same.f k t108 t111).bind fun t114 => (if t114 = true then (laws_FnLatDown.j0 k t106 t108 ((t108.length : Int) == 0) t102 t103) else (laws_FnLatDown.j0 k t106 t108 true t102 t103))) = some r := H
   have A12 := Aside0.mk A120
   clear A120
   replace H := Option.bind_eq_some_iff.mp H
   obtain ⟨t114, A130, H⟩ := H
   replace H : (if t114 = true then (laws_FnLatDown.j0 k t106 t108 ((t108.length : Int) == 0) t102 t103) else (laws_FnLatDown.j0 k t106 t108 true t102 t103)) = some r := H
   have A13 := Aside0.mk A130
   clear A130
   by_cases c14 : t114 = true
   ·subst c14
    have H1 : (laws_FnLatDown.j0 k t106 t108 ((t108.length : Int) == 0) t102 t103) = some r := by rw [if_pos rfl] at H; exact H
    clear H
    have H := H1
    clear H1
    have H' := Aside0.mk H
    clear H
    have hcz15_0 : w11.cell? ⟨gb107, 0, none⟩ = some (.int .i64 t102) := (blk_cell BK107.out 0).trans rfl
    have hcz15_1 : w11.cell? ⟨gb107, 1, none⟩ = some (.slice Ao10 t103.length co10) := (blk_cell BK107.out 1).trans rfl
    have hfz15_0 := blk_frozen BK107.out 0
    have hfz15_1 := blk_frozen BK107.out 1
    go_wp2_with (first | ((with_reducible refine gate_callee (f := 44) rfl ?_); refine goesL_ (some 20) rfl rfl Try.func44 (by kernel_rfl) rfl #[.agg #[.int .i64 t102, .slice Ao10 t103.length co10], .int .i64 t106] rfl qz1 ?_; (with_reducible refine (spec_LatDown.calls k t102 _ _ t103 t106 t111 _ ?side1 ?side2 A12.out).mono ?_); (case side1 => exact qz19 HO105.out); (case side2 => exact qz20 HO105.out); rintro e w16 ⟨v112, rfl, ho0, hb⟩; refine ⟨_, rfl, ?_⟩; have n0_ := Aside0.mk (Kd.R_below (qz21 HO105.out) hb); have n1_ := Aside0.mk (Kd.R_elder' (qz21 HO110.out) (Kd.R_base ho0) hb); have n2_ := Aside0.mk (Kd.R_lower (Kd.R_new' ho0 (Kd.R_lt (qz21 HO110.out))) (below_size (qz10 GE107.out))); have n3_ := Aside0.mk (blk_below (g := gb107) (o := .cells #[.int .i64 t102, .slice Ao10 t103.length co10] 47 (0, 0)) (qz8 BK107.out) hb); have n4_ := Aside0.mk (below_step (qz10 GE107.out) hb); clear HO105; clear HO110; clear BK107; clear HB; have HO105 := n0_; have HO110 := n1_; have HO113 := n2_; have BK107 := n3_; have HB := n4_; clear n0_ n1_ n2_ n3_ n4_; (try clear hb); (try clear hb2); (try clear hk); (try clear hi); (try clear ho0); obtain ⟨Ao17, co17, eo17⟩ := Kd.R_slice HO110.out; subst eo17; obtain ⟨Ao18, co18, eo18⟩ := Kd.R_slice HO113.out; subst eo18) | ((with_reducible refine gate_callee (f := 43) rfl ?_); refine goesL_ (some 21) rfl rfl Try.func43 (by kernel_rfl) rfl #[.slice Ao17 t108.length co17, .slice Ao18 t111.length co18] rfl qz1 ?_; (with_reducible refine (laws_same.calls k _ _ t108 _ _ t111 true _ ?side1 ?side2 ?side3 ?side4 A13.out).mono ?_); (case side1 => exact qz19 HO110.out); (case side2 => exact qz20 HO110.out); (case side3 => exact qz19 HO113.out); (case side4 => exact qz20 HO113.out); rintro e w' ⟨rfl, ⟨nd, rfl⟩⟩; refine ⟨_, rfl, ?_⟩))
    go_meet
    case rel => exact ⟨_, (((t108.length : Int) == 0)), qz2, H', ⟨qz36⟩, ⟨qz23 HO110.out⟩, ⟨qz21 HO105.out⟩, ⟨qz8 BK107.out⟩, ⟨qz10 GE107.out⟩⟩
   ·replace c14 := Bool.eq_false_iff.mpr c14
    subst c14
    have H1 : (laws_FnLatDown.j0 k t106 t108 true t102 t103) = some r := by rw [if_neg (show ¬ (false = true) by decide)] at H; exact H
    clear H
    have H := H1
    clear H1
    have H' := Aside0.mk H
    clear H
    have hcz19_0 : w11.cell? ⟨gb107, 0, none⟩ = some (.int .i64 t102) := (blk_cell BK107.out 0).trans rfl
    have hcz19_1 : w11.cell? ⟨gb107, 1, none⟩ = some (.slice Ao10 t103.length co10) := (blk_cell BK107.out 1).trans rfl
    have hfz19_0 := blk_frozen BK107.out 0
    have hfz19_1 := blk_frozen BK107.out 1
    go_wp2_with (first | ((with_reducible refine gate_callee (f := 44) rfl ?_); refine goesL_ (some 20) rfl rfl Try.func44 (by kernel_rfl) rfl #[.agg #[.int .i64 t102, .slice Ao10 t103.length co10], .int .i64 t106] rfl qz1 ?_; (with_reducible refine (spec_LatDown.calls k t102 _ _ t103 t106 t111 _ ?side1 ?side2 A12.out).mono ?_); (case side1 => exact qz19 HO105.out); (case side2 => exact qz20 HO105.out); rintro e w20 ⟨v112, rfl, ho0, hb⟩; refine ⟨_, rfl, ?_⟩; have n0_ := Aside0.mk (Kd.R_below (qz21 HO105.out) hb); have n1_ := Aside0.mk (Kd.R_elder' (qz21 HO110.out) (Kd.R_base ho0) hb); have n2_ := Aside0.mk (Kd.R_lower (Kd.R_new' ho0 (Kd.R_lt (qz21 HO110.out))) (below_size (qz10 GE107.out))); have n3_ := Aside0.mk (blk_below (g := gb107) (o := .cells #[.int .i64 t102, .slice Ao10 t103.length co10] 47 (0, 0)) (qz8 BK107.out) hb); have n4_ := Aside0.mk (below_step (qz10 GE107.out) hb); clear HO105; clear HO110; clear BK107; clear HB; have HO105 := n0_; have HO110 := n1_; have HO113 := n2_; have BK107 := n3_; have HB := n4_; clear n0_ n1_ n2_ n3_ n4_; (try clear hb); (try clear hb2); (try clear hk); (try clear hi); (try clear ho0); obtain ⟨Ao21, co21, eo21⟩ := Kd.R_slice HO110.out; subst eo21; obtain ⟨Ao22, co22, eo22⟩ := Kd.R_slice HO113.out; subst eo22) | ((with_reducible refine gate_callee (f := 43) rfl ?_); refine goesL_ (some 21) rfl rfl Try.func43 (by kernel_rfl) rfl #[.slice Ao21 t108.length co21, .slice Ao22 t111.length co22] rfl qz1 ?_; (with_reducible refine (laws_same.calls k _ _ t108 _ _ t111 false _ ?side1 ?side2 ?side3 ?side4 A13.out).mono ?_); (case side1 => exact qz19 HO110.out); (case side2 => exact qz20 HO110.out); (case side3 => exact qz19 HO113.out); (case side4 => exact qz20 HO113.out); rintro e w' ⟨rfl, ⟨nd, rfl⟩⟩; refine ⟨_, rfl, ?_⟩))
    go_meet
    case rel => exact ⟨_, (true), qz2, H', ⟨qz36⟩, ⟨qz23 HO110.out⟩, ⟨qz21 HO105.out⟩, ⟨qz8 BK107.out⟩, ⟨qz10 GE107.out⟩⟩
  case rest =>
   clear HC6
   try clear c1
   try clear p2
   try clear c3
   try clear c4
   try clear c6
   try clear c14
   try clear c19
   try clear hcz15_0
   try clear hcz15_1
   try clear hcz19_0
   try clear hcz19_1
   try clear hcz9_0
   try clear hcz9_1
   try clear hfz15_0
   try clear hfz15_1
   try clear hfz19_0
   try clear hfz19_1
   try clear hfz9_0
   try clear hfz9_1
   obtain ⟨kq, x27_5, rfl, HA, HJ5, HO_5, HO_108001, BK107, HB⟩ := hcut
   cases kq with
   | zero => exact absurd HA.out (by simp [laws_FnLatDown.j0])
   | succ kj5 =>
    have H := HA.out
    clear HA
    simp only [laws_FnLatDown.j0] at H
    by_cases c23 : x27_5 = true
    ·subst c23
     have H1 : ((spec_LatDown.f kj5 t102 t103 t106).bind fun t115 => ((laws_same.f kj5 t108 t115).bind fun t118 => (some t118))) = some r := by rw [if_pos rfl] at H; exact H
     clear H
     have H := H1
     clear H1
     replace H := Option.bind_eq_some_iff.mp H
     obtain ⟨t115, A240, H⟩ := H
     replace H : ((laws_same.f kj5 t108 t115).bind fun t118 => (some t118)) = some r := H
     have A24 := Aside0.mk A240
     clear A240
     replace H := Option.bind_eq_some_iff.mp H
     obtain ⟨t118, A250, H⟩ := H
     replace H : (some t118) = some r := H
     have A25 := Aside0.mk A250
     clear A250
     obtain rfl := Option.some.inj H
     have hcz26_0 : wc.cell? ⟨gb107, 0, none⟩ = some (.int .i64 t102) := (blk_cell BK107.out 0).trans rfl
     have hcz26_1 : wc.cell? ⟨gb107, 1, none⟩ = some (.slice Ao10 t103.length co10) := (blk_cell BK107.out 1).trans rfl
     have hfz26_0 := blk_frozen BK107.out 0
     have hfz26_1 := blk_frozen BK107.out 1
     go_wp2_with (first | ((with_reducible refine gate_callee (f := 44) rfl ?_); refine goesL_ (some 31) rfl rfl Try.func44 (by kernel_rfl) rfl #[.agg #[.int .i64 t102, .slice Ao10 t103.length co10], .int .i64 t106] rfl qz1 ?_; (with_reducible refine (spec_LatDown.calls kj5 t102 _ _ t103 t106 t115 _ ?side1 ?side2 A24.out).mono ?_); (case side1 => exact qz172); (case side2 => exact qz173); rintro e w27 ⟨v116, rfl, ho0, hb⟩; refine ⟨_, rfl, ?_⟩; have n0_ := Aside0.mk (Kd.R_elder' qz24 (Kd.R_base ho0) hb); have n1_ := Aside0.mk (Kd.R_below qz174 hb); have n2_ := Aside0.mk (Kd.R_lower (Kd.R_new' ho0 (Kd.R_lt qz24)) (below_size (qz10 GE107.out))); have n3_ := Aside0.mk (blk_below (g := gb107) (o := .cells #[.int .i64 t102, .slice Ao10 t103.length co10] 47 (0, 0)) (qz8 BK107.out) hb); have n4_ := Aside0.mk (below_step (qz10 GE107.out) hb); clear HO_5; clear HO_108001; clear BK107; clear HB; have HO_5 := n0_; have HO_108001 := n1_; have HO117 := n2_; have BK107 := n3_; have HB := n4_; clear n0_ n1_ n2_ n3_ n4_; (try clear hb); (try clear hb2); (try clear hk); (try clear hi); (try clear ho0); obtain ⟨Ao28, co28, eo28⟩ := Kd.R_slice HO_5.out; subst eo28; obtain ⟨Ao29, co29, eo29⟩ := Kd.R_slice HO117.out; subst eo29) | ((with_reducible refine gate_callee (f := 43) rfl ?_); refine goesL_ (some 32) rfl rfl Try.func43 (by kernel_rfl) rfl #[.slice Ao28 t108.length co28, .slice Ao29 t115.length co29] rfl qz1 ?_; (with_reducible refine (laws_same.calls kj5 _ _ t108 _ _ t115 t118 _ ?side1 ?side2 ?side3 ?side4 A25.out).mono ?_); (case side1 => exact qz175); (case side2 => exact (Kd.R_reads' HO_5.out).2.1); (case side3 => exact qz19 HO117.out); (case side4 => exact qz20 HO117.out); rintro e w' ⟨rfl, ⟨nd, rfl⟩⟩; refine ⟨_, rfl, ?_⟩))
     go_ret
     exact ⟨qz13, qz10 GE107.out⟩
    ·replace c23 := Bool.eq_false_iff.mpr c23
     subst c23
     have H1 : (laws_FnLatDown.l0 kj5 t106 t108 0 t102 t103) = some r := by rw [if_neg (show ¬ (false = true) by decide)] at H; exact H
     clear H
     have H := H1
     clear H1
     have H' := Aside0.mk H
     clear H
     go_wp2
     go_loopg [6] kj5 (fun kq v6 w' => ∃ (x6_2 : Int), v6 = .int .i64 x6_2 ∧ Aside0 (laws_FnLatDown.l0 kq t106 t108 x6_2 t102 t103 = some r) ∧ Aside0 (kq ≤ kj5) ∧ Aside0 (Kd.R (Kd.int .i64) 3 w' w.heap.size (fun _ => True) v109 t108) ∧ Aside0 (Kd.R (Kd.int .u64) 153 w' w.heap.size (fun _ => True) (.slice Ao10 t103.length co10) t103) ∧ Aside0 (w'.heap[gb107]? = some (.cells #[.int .i64 t102, (.slice Ao10 t103.length co10)] 47 (0, 0))) ∧ Aside0 (Below w.heap.size w w'))
     case atStart => exact ⟨(0), qz2, H', ⟨Nat.le_refl _⟩, ⟨qz24⟩, ⟨qz174⟩, ⟨qz8 BK107.out⟩, ⟨qz10 GE107.out⟩⟩
     case round =>
      clear H'
      try clear c1
      try clear c2
      try clear p2
      try clear c3
      try clear c4
      try clear c6
      try clear c14
      try clear c19
      try clear c23
      try clear hcz15_0
      try clear hcz15_1
      try clear hcz19_0
      try clear hcz19_1
      try clear hcz26_0
      try clear hcz26_1
      try clear hcz9_0
      try clear hcz9_1
      try clear hfz15_0
      try clear hfz15_1
      try clear hfz19_0
      try clear hfz19_1
      try clear hfz26_0
      try clear hfz26_1
      try clear hfz9_0
      try clear hfz9_1
      try clear p2
      obtain ⟨x6_2, rfl, HA, HK2, HO_5, HO_108001, BK107, HB⟩ := hrel
      cases gk with
      | zero => exact absurd HA.out (by simp [laws_FnLatDown.l0])
      | succ k2 =>
       have H := HA.out
       clear HA
       simp only [laws_FnLatDown.l0] at H
       by_cases c30 : x6_2 < (t108.length : Int)
       ·rw [if_pos c30] at H
        have c30b0 : decide (x6_2 < (t108.length : Int)) = true := decide_eq_true c30
        clear c30
        by_cases c31 : 0 ≤ x6_2
        ·rw [if_pos c31] at H
         have c31b0 : decide (0 ≤ x6_2) = true := decide_eq_true c31
         clear c31
         replace H := Option.bind_eq_some_iff.mp H
         obtain ⟨t120, A320, H⟩ := H
         replace H : (if t120 = true then (if x6_2 > 0 then (if 0 ≤ (wrap64 (x6_2 - 1)) then (if (wrap64 (x6_2 - 1)) < (t108.length : Int) then (if (rd t108 (wrap64 (x6_2 - 1))) ≥ (rd t108 x6_2) then (some false) else (laws_FnLatDown.l0 k2 t106 t108 (wrap64 (x6_2 + 1)) t102 t103)) else (none)) else (none)) else (laws_FnLatDown.l0 k2 t106 t108 (wrap64 (x6_2 + 1)) t102 t103)) else (some false)) = some r := H
         have A32 := Aside0.mk A320
         clear A320
         by_cases c33 : t120 = true
         ·subst c33
          have H1 : (if x6_2 > 0 then (if 0 ≤ (wrap64 (x6_2 - 1)) then (if (wrap64 (x6_2 - 1)) < (t108.length : Int) then (if (rd t108 (wrap64 (x6_2 - 1))) ≥ (rd t108 x6_2) then (some false) else (laws_FnLatDown.l0 k2 t106 t108 (wrap64 (x6_2 + 1)) t102 t103)) else (none)) else (none)) else (laws_FnLatDown.l0 k2 t106 t108 (wrap64 (x6_2 + 1)) t102 t103)) = some r := by rw [if_pos rfl] at H; exact H
          clear H
          have H := H1
          clear H1
          by_cases c34 : x6_2 > 0
          ·rw [if_pos c34] at H
           have c34b0 : decide (0 < x6_2) = true := decide_eq_true c34
           clear c34
           obtain ⟨ji35, hji35⟩ : ∃ j_ : Int, (wrap64 (x6_2 - 1)) = j_ := ⟨_, rfl⟩
           replace H : (if 0 ≤ (ji35) then (if (ji35) < (t108.length : Int) then (if (rd t108 (ji35)) ≥ (rd t108 x6_2) then (some false) else (laws_FnLatDown.l0 k2 t106 t108 (wrap64 (x6_2 + 1)) t102 t103)) else (none)) else (none)) = some r := by first | (rw [hji35] at H; exact H) | (simp only [hji35] at H ⊢; exact H)
           (try rw [hji35] at A32)
           have hji35w : (IntKind.i64.wrap (x6_2 - 1)) = ji35 := (i64_w _).trans hji35
           by_cases c36 : 0 ≤ (ji35)
           ·rw [if_pos c36] at H
            have c36b0 : decide (0 ≤ (ji35)) = true := decide_eq_true c36
            clear c36
            by_cases c37 : (ji35) < (t108.length : Int)
            ·rw [if_pos c37] at H
             have c37b0 : decide ((ji35) < (t108.length : Int)) = true := decide_eq_true c37
             clear c37
             by_cases c38 : (rd t108 (ji35)) ≥ (rd t108 x6_2)
             ·rw [if_pos c38] at H
              have c38b0 : decide ((rd t108 x6_2) ≤ (rd t108 (ji35))) = true := decide_eq_true c38
              clear c38
              obtain rfl := Option.some.inj H
              obtain ⟨Ao39, co39, eo39⟩ := Kd.R_slice HO_5.out
              subst eo39
              try go_wp2
              have n0_ := Aside0.mk (Kd.R_drew HO_5.out)
              have n1_ := Aside0.mk (Kd.R_drew HO_108001.out)
              have n2_ := Aside0.mk (blk_drew BK107.out)
              have n3_ := Aside0.mk (below_drew1 HB.out)
              clear HO_5
              clear HO_108001
              clear BK107
              clear HB
              have HO_5 := n0_
              have HO_108001 := n1_
              have BK107 := n2_
              have HB := n3_
              clear n0_ n1_ n2_ n3_
              have p119 : 0 ≤ (x6_2 : Int) := of_decide_eq_true qz4
              have q119 : x6_2 < (t108.length : Int) := of_decide_eq_true qz4
              obtain ⟨ad119, e119, hx119_0⟩ := Kd.at_int (Kd.R_reads' HO_5.out).2.2 x6_2 p119 q119
              cases e119
              replace p119 := eq_true p119
              replace q119 := eq_true q119
              have p121 : 0 ≤ ((ji35) : Int) := of_decide_eq_true qz4
              have q121 : (ji35) < (t108.length : Int) := of_decide_eq_true qz4
              obtain ⟨ad121, e121, hx121_0⟩ := Kd.at_int (Kd.R_reads' HO_5.out).2.2 (ji35) p121 q121
              obtain rfl : ad119 = ad121 := (by injection e121)
              replace p121 := eq_true p121
              replace q121 := eq_true q121
              have p122 : 0 ≤ (x6_2 : Int) := of_decide_eq_true qz4
              have q122 : x6_2 < (t108.length : Int) := of_decide_eq_true qz4
              obtain ⟨ad122, e122, hx122_0⟩ := Kd.at_int (Kd.R_reads' HO_5.out).2.2 x6_2 p122 q122
              obtain rfl : ad119 = ad122 := (by injection e122)
              replace p122 := eq_true p122
              replace q122 := eq_true q122
              refine start_ (n := 24) (S := fun w' => w'.cell? ⟨gb107, 0, none⟩ = some (.int .i64 t102) ∧ w'.cell? ⟨gb107, 1, none⟩ = some (.slice Ao10 t103.length co10) ∧ w'.cell? (ad119.add (x6_2).toNat) = some (.int .i64 (rd t108 x6_2)) ∧ w'.cell? (ad119.add ((ji35)).toNat) = some (.int .i64 (rd t108 (ji35))) ∧ w'.cell? (ad119.add (x6_2).toNat) = some (.int .i64 (rd t108 x6_2))) (ds := []) #[false, false, false, false, false, false, false, false, false, false, false, false, false, false, false, false, false, false, false, false, false, false, false, false] (by kernel_rfl) rfl rfl ⟨(blk_cell BK107.out 0).trans rfl, (blk_cell BK107.out 1).trans rfl, hx119_0, hx121_0, hx122_0⟩ (fun hHeld => ?_); refine with_tabW laws_FnLatDown.tab10 laws_FnLatDown.bits10 (fun HT_ HW_ => ?_)
              generalize wr.drew = w40 at HO_5 HO_108001 BK107 HB hx119_0 hx121_0 hx122_0 hHeld ⊢
              refine pure_ (i := 1) (N := some 40) (v := ?_) (a' := ?_) #[false, true, false, false, false, false, false, false, false, false, false, false, false, false, false, false, false, false, false, false, false, false, false, false] rfl rfl (any_of HT_.out (by kernel_rfl)) (fun _ _ _ h => h) (Or.inl ⟨by rfl, ?_⟩) ?_ ?_
              rotate_left
              ·intro w'
               go_simp
               with_reducible rfl
              rotate_left
              ·simp only [Act.put, List.setIfInBounds_toArray, List.set_cons_zero, List.set_cons_succ, i64_w, i32_w]
               rfl
              refine pure_ (i := 2) (N := some 41) (v := ?_) (a' := ?_) #[false, true, true, false, false, false, false, false, false, false, false, false, false, false, false, false, false, false, false, false, false, false, false, false] rfl rfl (any_of HT_.out (by kernel_rfl)) (fun _ _ _ h => h) (Or.inl ⟨by rfl, ?_⟩) ?_ ?_
              rotate_left
              ·intro w'
               go_simp
               with_reducible rfl
              rotate_left
              ·simp only [Act.put, List.setIfInBounds_toArray, List.set_cons_zero, List.set_cons_succ, i64_w, i32_w]
               rfl
              refine pure_ (i := 3) (N := some 42) (v := ?_) (a' := ?_) #[false, true, true, true, false, false, false, false, false, false, false, false, false, false, false, false, false, false, false, false, false, false, false, false] rfl rfl (any_of HT_.out (by kernel_rfl)) (fun _ _ _ h => h) (Or.inl ⟨by rfl, ?_⟩) ?_ ?_
              rotate_left
              ·intro w'
               go_simp
               with_reducible rfl
              rotate_left
              ·simp only [Act.put, List.setIfInBounds_toArray, List.set_cons_zero, List.set_cons_succ, i64_w, i32_w]
               rfl
              refine pure_ (i := 5) (N := some 44) (v := ?_) (a' := ?_) #[false, true, true, true, false, true, false, false, false, false, false, false, false, false, false, false, false, false, false, false, false, false, false, false] rfl rfl (any_of HT_.out (by kernel_rfl)) (fun _ _ _ h => h) (Or.inl ⟨by rfl, ?_⟩) ?_ ?_
              rotate_left
              ·intro w'
               go_simp
               with_reducible rfl
              rotate_left
              ·simp only [Act.put, List.setIfInBounds_toArray, List.set_cons_zero, List.set_cons_succ, i64_w, i32_w]
               rfl
              refine take_ (i := 0) (N := some 39) (v := ?_) (a' := ?_) #[true, true, true, true, false, true, false, false, false, false, false, false, false, false, false, false, false, false, false, false, false, false, false, false] rfl rfl (take_ofW HT_.out HW_.out (by kernel_rfl)) (fun _ _ _ h => h) (Or.inl ⟨by rfl, ?_⟩) hHeld ?_ ?_
              rotate_left
              ·rintro w' ⟨s0, s1, s2, s3, s4⟩
               go_simp
               with_reducible rfl
              rotate_left
              ·simp only [Act.put, List.setIfInBounds_toArray, List.set_cons_zero, List.set_cons_succ, i64_w, i32_w]
               rfl
              refine take_ (i := 4) (N := some 43) (v := ?_) (a' := ?_) #[true, true, true, true, true, true, false, false, false, false, false, false, false, false, false, false, false, false, false, false, false, false, false, false] rfl rfl (take_ofW HT_.out HW_.out (by kernel_rfl)) (fun _ _ _ h => h) (Or.inl ⟨by rfl, ?_⟩) hHeld ?_ ?_
              rotate_left
              ·rintro w' ⟨s0, s1, s2, s3, s4⟩
               go_simp
               with_reducible rfl
              rotate_left
              ·simp only [Act.put, List.setIfInBounds_toArray, List.set_cons_zero, List.set_cons_succ, i64_w, i32_w]
               rfl
              refine one_ (i := 6) (N := some 45) #[true, true, true, true, true, true, true, false, false, false, false, false, false, false, false, false, false, false, false, false, false, false, false, false] rfl rfl (one_of HT_.out (by kernel_rfl)) (by decide) (fun K hK => ?_)
              refine goes_ Try.func40 (by kernel_rfl) rfl #[.agg #[.int .i64 t102, .slice Ao10 t103.length co10], .int .i64 (rd t108 x6_2), .int .i64 t106] (by rfl) rfl rfl qz1 ?_
              with_reducible refine (impl_LatLe.calls k2 t102 _ _ t103 (rd t108 x6_2) t106 true _ ?side1 ?side2 A32.out).mono ?_
              (case side1 => exact qz172)
              (case side2 => exact qz173)
              rintro e w41 ⟨rfl, hb⟩
              have HS2_ := (hb.cell (World.block_lt_of_cell? _ _ (hHeld.2.2.1))).trans (hHeld.2.2.1)
              have HS3_ := (hb.cell (World.block_lt_of_cell? _ _ (hHeld.2.2.2.1))).trans (hHeld.2.2.2.1)
              have HS4_ := (hb.cell (World.block_lt_of_cell? _ _ (hHeld.2.2.2.2))).trans (hHeld.2.2.2.2)
              refine ⟨_, rfl, ?_⟩
              have n0_ := Aside0.mk (Kd.R_below qz24 hb)
              have n1_ := Aside0.mk (Kd.R_below qz174 hb)
              have n2_ := Aside0.mk (blk_below (g := gb107) (o := .cells #[.int .i64 t102, .slice Ao10 t103.length co10] 47 (0, 0)) (qz8 BK107.out) hb)
              have n3_ := Aside0.mk (below_step (qz10 GE107.out) hb)
              clear HO_5
              clear HO_108001
              clear BK107
              clear HB
              have HO_5 := n0_
              have HO_108001 := n1_
              have BK107 := n2_
              have HB := n3_
              clear n0_ n1_ n2_ n3_
              (try clear hb)
              (try clear hb2)
              (try clear hk)
              (try clear hi)
              refine hK.out _ _ ⟨(blk_cell BK107.out 0).trans rfl, (blk_cell BK107.out 1).trans rfl, HS2_, HS3_, HS4_⟩ (fun hHeld => ?_)
              clear hK K
              refine norm_ (a' := ?_) ?_ ?_
              rotate_left
              ·show Act.put _ (some 45) _ = _
               simp only [Act.put, List.setIfInBounds_toArray, List.set_cons_zero, List.set_cons_succ, i64_w, i32_w]
               rfl
              refine pure_ (i := 7) (N := some 46) (v := ?_) (a' := ?_) #[true, true, true, true, true, true, true, true, false, false, false, false, false, false, false, false, false, false, false, false, false, false, false, false] rfl rfl (any_of HT_.out (by kernel_rfl)) (fun _ _ _ h => h) (Or.inl ⟨by rfl, ?_⟩) ?_ ?_
              rotate_left
              ·intro w'
               go_simp
               with_reducible rfl
              rotate_left
              ·simp only [Act.put, List.setIfInBounds_toArray, List.set_cons_zero, List.set_cons_succ, i64_w, i32_w]
               rfl
              refine pure_ (i := 8) (N := some 47) (v := ?_) (a' := ?_) #[true, true, true, true, true, true, true, true, true, false, false, false, false, false, false, false, false, false, false, false, false, false, false, false] rfl rfl (any_of HT_.out (by kernel_rfl)) (fun _ _ _ h => h) (Or.inl ⟨by rfl, ?_⟩) ?_ ?_
              rotate_left
              ·intro w'
               go_simp
               with_reducible rfl
              rotate_left
              ·simp only [Act.put, List.setIfInBounds_toArray, List.set_cons_zero, List.set_cons_succ, i64_w, i32_w]
               rfl
              refine pure_ (i := 9) (N := some 48) (v := ?_) (a' := ?_) #[true, true, true, true, true, true, true, true, true, true, false, false, false, false, false, false, false, false, false, false, false, false, false, false] rfl rfl (any_of HT_.out (by kernel_rfl)) (fun _ _ _ h => h) (Or.inl ⟨by rfl, ?_⟩) ?_ ?_
              rotate_left
              ·intro w'
               go_simp
               with_reducible rfl
              rotate_left
              ·simp only [Act.put, List.setIfInBounds_toArray, List.set_cons_zero, List.set_cons_succ, i64_w, i32_w]
               rfl
              refine pure_ (i := 10) (N := some 49) (v := ?_) (a' := ?_) #[true, true, true, true, true, true, true, true, true, true, true, false, false, false, false, false, false, false, false, false, false, false, false, false] rfl rfl (any_of HT_.out (by kernel_rfl)) (fun _ _ _ h => h) (Or.inl ⟨by rfl, ?_⟩) ?_ ?_
              rotate_left
              ·intro w'
               go_simp
               with_reducible rfl
              rotate_left
              ·simp only [Act.put, List.setIfInBounds_toArray, List.set_cons_zero, List.set_cons_succ, i64_w, i32_w]
               rfl
              refine pure_ (i := 11) (N := some 50) (v := ?_) (a' := ?_) #[true, true, true, true, true, true, true, true, true, true, true, true, false, false, false, false, false, false, false, false, false, false, false, false] rfl rfl (any_of HT_.out (by kernel_rfl)) (fun _ _ _ h => h) (Or.inl ⟨by rfl, ?_⟩) ?_ ?_
              rotate_left
              ·intro w'
               go_simp
               with_reducible rfl
              rotate_left
              ·simp only [Act.put, List.setIfInBounds_toArray, List.set_cons_zero, List.set_cons_succ, i64_w, i32_w]
               rfl
              refine pure_ (i := 12) (N := some 51) (v := ?_) (a' := ?_) #[true, true, true, true, true, true, true, true, true, true, true, true, true, false, false, false, false, false, false, false, false, false, false, false] rfl rfl (any_of HT_.out (by kernel_rfl)) (fun _ _ _ h => h) (Or.inl ⟨by rfl, ?_⟩) ?_ ?_
              rotate_left
              ·intro w'
               go_simp
               with_reducible rfl
              rotate_left
              ·simp only [Act.put, List.setIfInBounds_toArray, List.set_cons_zero, List.set_cons_succ, i64_w, i32_w]
               rfl
              refine pure_ (i := 13) (N := some 52) (v := ?_) (a' := ?_) #[true, true, true, true, true, true, true, true, true, true, true, true, true, true, false, false, false, false, false, false, false, false, false, false] rfl rfl (any_of HT_.out (by kernel_rfl)) (fun _ _ _ h => h) (Or.inl ⟨by rfl, ?_⟩) ?_ ?_
              rotate_left
              ·intro w'
               go_simp
               with_reducible rfl
              rotate_left
              ·simp only [Act.put, List.setIfInBounds_toArray, List.set_cons_zero, List.set_cons_succ, i64_w, i32_w]
               rfl
              refine pure_ (i := 14) (N := some 53) (v := ?_) (a' := ?_) #[true, true, true, true, true, true, true, true, true, true, true, true, true, true, true, false, false, false, false, false, false, false, false, false] rfl rfl (any_of HT_.out (by kernel_rfl)) (fun _ _ _ h => h) (Or.inl ⟨by rfl, ?_⟩) ?_ ?_
              rotate_left
              ·intro w'
               go_simp
               with_reducible rfl
              rotate_left
              ·simp only [Act.put, List.setIfInBounds_toArray, List.set_cons_zero, List.set_cons_succ, i64_w, i32_w]
               rfl
              refine pure_ (i := 15) (N := some 54) (v := ?_) (a' := ?_) #[true, true, true, true, true, true, true, true, true, true, true, true, true, true, true, true, false, false, false, false, false, false, false, false] rfl rfl (any_of HT_.out (by kernel_rfl)) (fun _ _ _ h => h) (Or.inl ⟨by rfl, ?_⟩) ?_ ?_
              rotate_left
              ·intro w'
               go_simp
               with_reducible rfl
              rotate_left
              ·simp only [Act.put, List.setIfInBounds_toArray, List.set_cons_zero, List.set_cons_succ, i64_w, i32_w]
               rfl
              refine pure_ (i := 17) (N := some 56) (v := ?_) (a' := ?_) #[true, true, true, true, true, true, true, true, true, true, true, true, true, true, true, true, false, true, false, false, false, false, false, false] rfl rfl (any_of HT_.out (by kernel_rfl)) (fun _ _ _ h => h) (Or.inl ⟨by rfl, ?_⟩) ?_ ?_
              rotate_left
              ·intro w'
               go_simp
               with_reducible rfl
              rotate_left
              ·simp only [Act.put, List.setIfInBounds_toArray, List.set_cons_zero, List.set_cons_succ, i64_w, i32_w]
               rfl
              refine pure_ (i := 18) (N := some 57) (v := ?_) (a' := ?_) #[true, true, true, true, true, true, true, true, true, true, true, true, true, true, true, true, false, true, true, false, false, false, false, false] rfl rfl (any_of HT_.out (by kernel_rfl)) (fun _ _ _ h => h) (Or.inl ⟨by rfl, ?_⟩) ?_ ?_
              rotate_left
              ·intro w'
               go_simp
               with_reducible rfl
              rotate_left
              ·simp only [Act.put, List.setIfInBounds_toArray, List.set_cons_zero, List.set_cons_succ, i64_w, i32_w]
               rfl
              refine pure_ (i := 19) (N := some 58) (v := ?_) (a' := ?_) #[true, true, true, true, true, true, true, true, true, true, true, true, true, true, true, true, false, true, true, true, false, false, false, false] rfl rfl (any_of HT_.out (by kernel_rfl)) (fun _ _ _ h => h) (Or.inl ⟨by rfl, ?_⟩) ?_ ?_
              rotate_left
              ·intro w'
               go_simp
               with_reducible rfl
              rotate_left
              ·simp only [Act.put, List.setIfInBounds_toArray, List.set_cons_zero, List.set_cons_succ, i64_w, i32_w]
               rfl
              refine take_ (i := 16) (N := some 55) (v := ?_) (a' := ?_) #[true, true, true, true, true, true, true, true, true, true, true, true, true, true, true, true, true, true, true, true, false, false, false, false] rfl rfl (take_ofW HT_.out HW_.out (by kernel_rfl)) (fun _ _ _ h => h) (Or.inl ⟨by rfl, ?_⟩) hHeld ?_ ?_
              rotate_left
              ·rintro w' ⟨s0, s1, s2, s3, s4⟩
               go_simp
               with_reducible rfl
              rotate_left
              ·simp only [Act.put, List.setIfInBounds_toArray, List.set_cons_zero, List.set_cons_succ, i64_w, i32_w]
               rfl
              refine take_ (i := 20) (N := some 59) (v := ?_) (a' := ?_) #[true, true, true, true, true, true, true, true, true, true, true, true, true, true, true, true, true, true, true, true, true, false, false, false] rfl rfl (take_ofW HT_.out HW_.out (by kernel_rfl)) (fun _ _ _ h => h) (Or.inl ⟨by rfl, ?_⟩) hHeld ?_ ?_
              rotate_left
              ·rintro w' ⟨s0, s1, s2, s3, s4⟩
               go_simp
               with_reducible rfl
              rotate_left
              ·simp only [Act.put, List.setIfInBounds_toArray, List.set_cons_zero, List.set_cons_succ, i64_w, i32_w]
               rfl
              refine pure_ (i := 21) (N := some 60) (v := ?_) (a' := ?_) #[true, true, true, true, true, true, true, true, true, true, true, true, true, true, true, true, true, true, true, true, true, true, false, false] rfl rfl (any_of HT_.out (by kernel_rfl)) (fun _ _ _ h => h) (Or.inl ⟨by rfl, ?_⟩) ?_ ?_
              rotate_left
              ·intro w'
               go_simp
               with_reducible rfl
              rotate_left
              ·simp only [Act.put, List.setIfInBounds_toArray, List.set_cons_zero, List.set_cons_succ, i64_w, i32_w]
               rfl
              refine pure_ (i := 22) (N := some 61) (v := ?_) (a' := ?_) #[true, true, true, true, true, true, true, true, true, true, true, true, true, true, true, true, true, true, true, true, true, true, true, false] rfl rfl (any_of HT_.out (by kernel_rfl)) (fun _ _ _ h => h) (Or.inl ⟨by rfl, ?_⟩) ?_ ?_
              rotate_left
              ·intro w'
               go_simp
               with_reducible rfl
              rotate_left
              ·simp only [Act.put, List.setIfInBounds_toArray, List.set_cons_zero, List.set_cons_succ, i64_w, i32_w]
               rfl
              refine pure_ (i := 23) (N := some 62) (v := ?_) (a' := ?_) #[true, true, true, true, true, true, true, true, true, true, true, true, true, true, true, true, true, true, true, true, true, true, true, true] rfl rfl (any_of HT_.out (by kernel_rfl)) (fun _ _ _ h => h) (Or.inl ⟨by rfl, ?_⟩) ?_ ?_
              rotate_left
              ·intro w'
               go_simp
               with_reducible rfl
              rotate_left
              ·simp only [Act.put, List.setIfInBounds_toArray, List.set_cons_zero, List.set_cons_succ, i64_w, i32_w]
               rfl
              refine done_ (done_of HT_.out (by kernel_rfl)) ?_
              try go_wp2
              go_ret
              exact ⟨by first | rfl | (simp [errW_none, errW_some] <;> rfl) | (simp only [← hji35]; first | rfl | (simp [errW_none, errW_some] <;> rfl)) | (simp [*, errW_none, errW_some] <;> rfl), qz10 GE107.out⟩
             ·rw [if_neg c38] at H
              have c38b0 : decide ((rd t108 x6_2) ≤ (rd t108 (ji35))) = false := decide_eq_false c38
              clear c38
              have H' := Aside0.mk H
              clear H
              obtain ⟨Ao42, co42, eo42⟩ := Kd.R_slice HO_5.out
              subst eo42
              try go_wp2
              have n0_ := Aside0.mk (Kd.R_drew HO_5.out)
              have n1_ := Aside0.mk (Kd.R_drew HO_108001.out)
              have n2_ := Aside0.mk (blk_drew BK107.out)
              have n3_ := Aside0.mk (below_drew1 HB.out)
              clear HO_5
              clear HO_108001
              clear BK107
              clear HB
              have HO_5 := n0_
              have HO_108001 := n1_
              have BK107 := n2_
              have HB := n3_
              clear n0_ n1_ n2_ n3_
              have p119 : 0 ≤ (x6_2 : Int) := of_decide_eq_true qz4
              have q119 : x6_2 < (t108.length : Int) := of_decide_eq_true qz4
              obtain ⟨ad119, e119, hx119_0⟩ := Kd.at_int (Kd.R_reads' HO_5.out).2.2 x6_2 p119 q119
              cases e119
              replace p119 := eq_true p119
              replace q119 := eq_true q119
              have p121 : 0 ≤ ((ji35) : Int) := of_decide_eq_true qz4
              have q121 : (ji35) < (t108.length : Int) := of_decide_eq_true qz4
              obtain ⟨ad121, e121, hx121_0⟩ := Kd.at_int (Kd.R_reads' HO_5.out).2.2 (ji35) p121 q121
              obtain rfl : ad119 = ad121 := (by injection e121)
              replace p121 := eq_true p121
              replace q121 := eq_true q121
              have p122 : 0 ≤ (x6_2 : Int) := of_decide_eq_true qz4
              have q122 : x6_2 < (t108.length : Int) := of_decide_eq_true qz4
              obtain ⟨ad122, e122, hx122_0⟩ := Kd.at_int (Kd.R_reads' HO_5.out).2.2 x6_2 p122 q122
              obtain rfl : ad119 = ad122 := (by injection e122)
              replace p122 := eq_true p122
              replace q122 := eq_true q122
              refine start_ (n := 24) (S := fun w' => w'.cell? ⟨gb107, 0, none⟩ = some (.int .i64 t102) ∧ w'.cell? ⟨gb107, 1, none⟩ = some (.slice Ao10 t103.length co10) ∧ w'.cell? (ad119.add (x6_2).toNat) = some (.int .i64 (rd t108 x6_2)) ∧ w'.cell? (ad119.add ((ji35)).toNat) = some (.int .i64 (rd t108 (ji35))) ∧ w'.cell? (ad119.add (x6_2).toNat) = some (.int .i64 (rd t108 x6_2))) (ds := []) #[false, false, false, false, false, false, false, false, false, false, false, false, false, false, false, false, false, false, false, false, false, false, false, false] (by kernel_rfl) rfl rfl ⟨(blk_cell BK107.out 0).trans rfl, (blk_cell BK107.out 1).trans rfl, hx119_0, hx121_0, hx122_0⟩ (fun hHeld => ?_); refine with_tabW laws_FnLatDown.tab10 laws_FnLatDown.bits10 (fun HT_ HW_ => ?_)
              generalize wr.drew = w43 at HO_5 HO_108001 BK107 HB hx119_0 hx121_0 hx122_0 hHeld ⊢
              refine pure_ (i := 1) (N := some 40) (v := ?_) (a' := ?_) #[false, true, false, false, false, false, false, false, false, false, false, false, false, false, false, false, false, false, false, false, false, false, false, false] rfl rfl (any_of HT_.out (by kernel_rfl)) (fun _ _ _ h => h) (Or.inl ⟨by rfl, ?_⟩) ?_ ?_
              rotate_left
              ·intro w'
               go_simp
               with_reducible rfl
              rotate_left
              ·simp only [Act.put, List.setIfInBounds_toArray, List.set_cons_zero, List.set_cons_succ, i64_w, i32_w]
               rfl
              refine pure_ (i := 2) (N := some 41) (v := ?_) (a' := ?_) #[false, true, true, false, false, false, false, false, false, false, false, false, false, false, false, false, false, false, false, false, false, false, false, false] rfl rfl (any_of HT_.out (by kernel_rfl)) (fun _ _ _ h => h) (Or.inl ⟨by rfl, ?_⟩) ?_ ?_
              rotate_left
              ·intro w'
               go_simp
               with_reducible rfl
              rotate_left
              ·simp only [Act.put, List.setIfInBounds_toArray, List.set_cons_zero, List.set_cons_succ, i64_w, i32_w]
               rfl
              refine pure_ (i := 3) (N := some 42) (v := ?_) (a' := ?_) #[false, true, true, true, false, false, false, false, false, false, false, false, false, false, false, false, false, false, false, false, false, false, false, false] rfl rfl (any_of HT_.out (by kernel_rfl)) (fun _ _ _ h => h) (Or.inl ⟨by rfl, ?_⟩) ?_ ?_
              rotate_left
              ·intro w'
               go_simp
               with_reducible rfl
              rotate_left
              ·simp only [Act.put, List.setIfInBounds_toArray, List.set_cons_zero, List.set_cons_succ, i64_w, i32_w]
               rfl
              refine pure_ (i := 5) (N := some 44) (v := ?_) (a' := ?_) #[false, true, true, true, false, true, false, false, false, false, false, false, false, false, false, false, false, false, false, false, false, false, false, false] rfl rfl (any_of HT_.out (by kernel_rfl)) (fun _ _ _ h => h) (Or.inl ⟨by rfl, ?_⟩) ?_ ?_
              rotate_left
              ·intro w'
               go_simp
               with_reducible rfl
              rotate_left
              ·simp only [Act.put, List.setIfInBounds_toArray, List.set_cons_zero, List.set_cons_succ, i64_w, i32_w]
               rfl
              refine take_ (i := 0) (N := some 39) (v := ?_) (a' := ?_) #[true, true, true, true, false, true, false, false, false, false, false, false, false, false, false, false, false, false, false, false, false, false, false, false] rfl rfl (take_ofW HT_.out HW_.out (by kernel_rfl)) (fun _ _ _ h => h) (Or.inl ⟨by rfl, ?_⟩) hHeld ?_ ?_
              rotate_left
              ·rintro w' ⟨s0, s1, s2, s3, s4⟩
               go_simp
               with_reducible rfl
              rotate_left
              ·simp only [Act.put, List.setIfInBounds_toArray, List.set_cons_zero, List.set_cons_succ, i64_w, i32_w]
               rfl
              refine take_ (i := 4) (N := some 43) (v := ?_) (a' := ?_) #[true, true, true, true, true, true, false, false, false, false, false, false, false, false, false, false, false, false, false, false, false, false, false, false] rfl rfl (take_ofW HT_.out HW_.out (by kernel_rfl)) (fun _ _ _ h => h) (Or.inl ⟨by rfl, ?_⟩) hHeld ?_ ?_
              rotate_left
              ·rintro w' ⟨s0, s1, s2, s3, s4⟩
               go_simp
               with_reducible rfl
              rotate_left
              ·simp only [Act.put, List.setIfInBounds_toArray, List.set_cons_zero, List.set_cons_succ, i64_w, i32_w]
               rfl
              refine one_ (i := 6) (N := some 45) #[true, true, true, true, true, true, true, false, false, false, false, false, false, false, false, false, false, false, false, false, false, false, false, false] rfl rfl (one_of HT_.out (by kernel_rfl)) (by decide) (fun K hK => ?_)
              refine goes_ Try.func40 (by kernel_rfl) rfl #[.agg #[.int .i64 t102, .slice Ao10 t103.length co10], .int .i64 (rd t108 x6_2), .int .i64 t106] (by rfl) rfl rfl qz1 ?_
              with_reducible refine (impl_LatLe.calls k2 t102 _ _ t103 (rd t108 x6_2) t106 true _ ?side1 ?side2 A32.out).mono ?_
              (case side1 => exact qz172)
              (case side2 => exact qz173)
              rintro e w44 ⟨rfl, hb⟩
              have HS2_ := (hb.cell (World.block_lt_of_cell? _ _ (hHeld.2.2.1))).trans (hHeld.2.2.1)
              have HS3_ := (hb.cell (World.block_lt_of_cell? _ _ (hHeld.2.2.2.1))).trans (hHeld.2.2.2.1)
              have HS4_ := (hb.cell (World.block_lt_of_cell? _ _ (hHeld.2.2.2.2))).trans (hHeld.2.2.2.2)
              refine ⟨_, rfl, ?_⟩
              have n0_ := Aside0.mk (Kd.R_below qz24 hb)
              have n1_ := Aside0.mk (Kd.R_below qz174 hb)
              have n2_ := Aside0.mk (blk_below (g := gb107) (o := .cells #[.int .i64 t102, .slice Ao10 t103.length co10] 47 (0, 0)) (qz8 BK107.out) hb)
              have n3_ := Aside0.mk (below_step (qz10 GE107.out) hb)
              clear HO_5
              clear HO_108001
              clear BK107
              clear HB
              have HO_5 := n0_
              have HO_108001 := n1_
              have BK107 := n2_
              have HB := n3_
              clear n0_ n1_ n2_ n3_
              (try clear hb)
              (try clear hb2)
              (try clear hk)
              (try clear hi)
              refine hK.out _ _ ⟨(blk_cell BK107.out 0).trans rfl, (blk_cell BK107.out 1).trans rfl, HS2_, HS3_, HS4_⟩ (fun hHeld => ?_)
              clear hK K
              refine norm_ (a' := ?_) ?_ ?_
              rotate_left
              ·show Act.put _ (some 45) _ = _
               simp only [Act.put, List.setIfInBounds_toArray, List.set_cons_zero, List.set_cons_succ, i64_w, i32_w]
               rfl
              refine pure_ (i := 7) (N := some 46) (v := ?_) (a' := ?_) #[true, true, true, true, true, true, true, true, false, false, false, false, false, false, false, false, false, false, false, false, false, false, false, false] rfl rfl (any_of HT_.out (by kernel_rfl)) (fun _ _ _ h => h) (Or.inl ⟨by rfl, ?_⟩) ?_ ?_
              rotate_left
              ·intro w'
               go_simp
               with_reducible rfl
              rotate_left
              ·simp only [Act.put, List.setIfInBounds_toArray, List.set_cons_zero, List.set_cons_succ, i64_w, i32_w]
               rfl
              refine pure_ (i := 8) (N := some 47) (v := ?_) (a' := ?_) #[true, true, true, true, true, true, true, true, true, false, false, false, false, false, false, false, false, false, false, false, false, false, false, false] rfl rfl (any_of HT_.out (by kernel_rfl)) (fun _ _ _ h => h) (Or.inl ⟨by rfl, ?_⟩) ?_ ?_
              rotate_left
              ·intro w'
               go_simp
               with_reducible rfl
              rotate_left
              ·simp only [Act.put, List.setIfInBounds_toArray, List.set_cons_zero, List.set_cons_succ, i64_w, i32_w]
               rfl
              refine pure_ (i := 9) (N := some 48) (v := ?_) (a' := ?_) #[true, true, true, true, true, true, true, true, true, true, false, false, false, false, false, false, false, false, false, false, false, false, false, false] rfl rfl (any_of HT_.out (by kernel_rfl)) (fun _ _ _ h => h) (Or.inl ⟨by rfl, ?_⟩) ?_ ?_
              rotate_left
              ·intro w'
               go_simp
               with_reducible rfl
              rotate_left
              ·simp only [Act.put, List.setIfInBounds_toArray, List.set_cons_zero, List.set_cons_succ, i64_w, i32_w]
               rfl
              refine pure_ (i := 10) (N := some 49) (v := ?_) (a' := ?_) #[true, true, true, true, true, true, true, true, true, true, true, false, false, false, false, false, false, false, false, false, false, false, false, false] rfl rfl (any_of HT_.out (by kernel_rfl)) (fun _ _ _ h => h) (Or.inl ⟨by rfl, ?_⟩) ?_ ?_
              rotate_left
              ·intro w'
               go_simp
               with_reducible rfl
              rotate_left
              ·simp only [Act.put, List.setIfInBounds_toArray, List.set_cons_zero, List.set_cons_succ, i64_w, i32_w]
               rfl
              refine pure_ (i := 11) (N := some 50) (v := ?_) (a' := ?_) #[true, true, true, true, true, true, true, true, true, true, true, true, false, false, false, false, false, false, false, false, false, false, false, false] rfl rfl (any_of HT_.out (by kernel_rfl)) (fun _ _ _ h => h) (Or.inl ⟨by rfl, ?_⟩) ?_ ?_
              rotate_left
              ·intro w'
               go_simp
               with_reducible rfl
              rotate_left
              ·simp only [Act.put, List.setIfInBounds_toArray, List.set_cons_zero, List.set_cons_succ, i64_w, i32_w]
               rfl
              refine pure_ (i := 12) (N := some 51) (v := ?_) (a' := ?_) #[true, true, true, true, true, true, true, true, true, true, true, true, true, false, false, false, false, false, false, false, false, false, false, false] rfl rfl (any_of HT_.out (by kernel_rfl)) (fun _ _ _ h => h) (Or.inl ⟨by rfl, ?_⟩) ?_ ?_
              rotate_left
              ·intro w'
               go_simp
               with_reducible rfl
              rotate_left
              ·simp only [Act.put, List.setIfInBounds_toArray, List.set_cons_zero, List.set_cons_succ, i64_w, i32_w]
               rfl
              refine pure_ (i := 13) (N := some 52) (v := ?_) (a' := ?_) #[true, true, true, true, true, true, true, true, true, true, true, true, true, true, false, false, false, false, false, false, false, false, false, false] rfl rfl (any_of HT_.out (by kernel_rfl)) (fun _ _ _ h => h) (Or.inl ⟨by rfl, ?_⟩) ?_ ?_
              rotate_left
              ·intro w'
               go_simp
               with_reducible rfl
              rotate_left
              ·simp only [Act.put, List.setIfInBounds_toArray, List.set_cons_zero, List.set_cons_succ, i64_w, i32_w]
               rfl
              refine pure_ (i := 14) (N := some 53) (v := ?_) (a' := ?_) #[true, true, true, true, true, true, true, true, true, true, true, true, true, true, true, false, false, false, false, false, false, false, false, false] rfl rfl (any_of HT_.out (by kernel_rfl)) (fun _ _ _ h => h) (Or.inl ⟨by rfl, ?_⟩) ?_ ?_
              rotate_left
              ·intro w'
               go_simp
               with_reducible rfl
              rotate_left
              ·simp only [Act.put, List.setIfInBounds_toArray, List.set_cons_zero, List.set_cons_succ, i64_w, i32_w]
               rfl
              refine pure_ (i := 15) (N := some 54) (v := ?_) (a' := ?_) #[true, true, true, true, true, true, true, true, true, true, true, true, true, true, true, true, false, false, false, false, false, false, false, false] rfl rfl (any_of HT_.out (by kernel_rfl)) (fun _ _ _ h => h) (Or.inl ⟨by rfl, ?_⟩) ?_ ?_
              rotate_left
              ·intro w'
               go_simp
               with_reducible rfl
              rotate_left
              ·simp only [Act.put, List.setIfInBounds_toArray, List.set_cons_zero, List.set_cons_succ, i64_w, i32_w]
               rfl
              refine pure_ (i := 17) (N := some 56) (v := ?_) (a' := ?_) #[true, true, true, true, true, true, true, true, true, true, true, true, true, true, true, true, false, true, false, false, false, false, false, false] rfl rfl (any_of HT_.out (by kernel_rfl)) (fun _ _ _ h => h) (Or.inl ⟨by rfl, ?_⟩) ?_ ?_
              rotate_left
              ·intro w'
               go_simp
               with_reducible rfl
              rotate_left
              ·simp only [Act.put, List.setIfInBounds_toArray, List.set_cons_zero, List.set_cons_succ, i64_w, i32_w]
               rfl
              refine pure_ (i := 18) (N := some 57) (v := ?_) (a' := ?_) #[true, true, true, true, true, true, true, true, true, true, true, true, true, true, true, true, false, true, true, false, false, false, false, false] rfl rfl (any_of HT_.out (by kernel_rfl)) (fun _ _ _ h => h) (Or.inl ⟨by rfl, ?_⟩) ?_ ?_
              rotate_left
              ·intro w'
               go_simp
               with_reducible rfl
              rotate_left
              ·simp only [Act.put, List.setIfInBounds_toArray, List.set_cons_zero, List.set_cons_succ, i64_w, i32_w]
               rfl
              refine pure_ (i := 19) (N := some 58) (v := ?_) (a' := ?_) #[true, true, true, true, true, true, true, true, true, true, true, true, true, true, true, true, false, true, true, true, false, false, false, false] rfl rfl (any_of HT_.out (by kernel_rfl)) (fun _ _ _ h => h) (Or.inl ⟨by rfl, ?_⟩) ?_ ?_
              rotate_left
              ·intro w'
               go_simp
               with_reducible rfl
              rotate_left
              ·simp only [Act.put, List.setIfInBounds_toArray, List.set_cons_zero, List.set_cons_succ, i64_w, i32_w]
               rfl
              refine take_ (i := 16) (N := some 55) (v := ?_) (a' := ?_) #[true, true, true, true, true, true, true, true, true, true, true, true, true, true, true, true, true, true, true, true, false, false, false, false] rfl rfl (take_ofW HT_.out HW_.out (by kernel_rfl)) (fun _ _ _ h => h) (Or.inl ⟨by rfl, ?_⟩) hHeld ?_ ?_
              rotate_left
              ·rintro w' ⟨s0, s1, s2, s3, s4⟩
               go_simp
               with_reducible rfl
              rotate_left
              ·simp only [Act.put, List.setIfInBounds_toArray, List.set_cons_zero, List.set_cons_succ, i64_w, i32_w]
               rfl
              refine take_ (i := 20) (N := some 59) (v := ?_) (a' := ?_) #[true, true, true, true, true, true, true, true, true, true, true, true, true, true, true, true, true, true, true, true, true, false, false, false] rfl rfl (take_ofW HT_.out HW_.out (by kernel_rfl)) (fun _ _ _ h => h) (Or.inl ⟨by rfl, ?_⟩) hHeld ?_ ?_
              rotate_left
              ·rintro w' ⟨s0, s1, s2, s3, s4⟩
               go_simp
               with_reducible rfl
              rotate_left
              ·simp only [Act.put, List.setIfInBounds_toArray, List.set_cons_zero, List.set_cons_succ, i64_w, i32_w]
               rfl
              refine pure_ (i := 21) (N := some 60) (v := ?_) (a' := ?_) #[true, true, true, true, true, true, true, true, true, true, true, true, true, true, true, true, true, true, true, true, true, true, false, false] rfl rfl (any_of HT_.out (by kernel_rfl)) (fun _ _ _ h => h) (Or.inl ⟨by rfl, ?_⟩) ?_ ?_
              rotate_left
              ·intro w'
               go_simp
               with_reducible rfl
              rotate_left
              ·simp only [Act.put, List.setIfInBounds_toArray, List.set_cons_zero, List.set_cons_succ, i64_w, i32_w]
               rfl
              refine pure_ (i := 22) (N := some 61) (v := ?_) (a' := ?_) #[true, true, true, true, true, true, true, true, true, true, true, true, true, true, true, true, true, true, true, true, true, true, true, false] rfl rfl (any_of HT_.out (by kernel_rfl)) (fun _ _ _ h => h) (Or.inl ⟨by rfl, ?_⟩) ?_ ?_
              rotate_left
              ·intro w'
               go_simp
               with_reducible rfl
              rotate_left
              ·simp only [Act.put, List.setIfInBounds_toArray, List.set_cons_zero, List.set_cons_succ, i64_w, i32_w]
               rfl
              refine pure_ (i := 23) (N := some 62) (v := ?_) (a' := ?_) #[true, true, true, true, true, true, true, true, true, true, true, true, true, true, true, true, true, true, true, true, true, true, true, true] rfl rfl (any_of HT_.out (by kernel_rfl)) (fun _ _ _ h => h) (Or.inl ⟨by rfl, ?_⟩) ?_ ?_
              rotate_left
              ·intro w'
               go_simp
               with_reducible rfl
              rotate_left
              ·simp only [Act.put, List.setIfInBounds_toArray, List.set_cons_zero, List.set_cons_succ, i64_w, i32_w]
               rfl
              refine done_ (done_of HT_.out (by kernel_rfl)) ?_
              try go_wp2
              go_roundg k2
              case measure => have := HJ5.out; have := HK2.out; omega
              case rel => exact ⟨(wrap64 (x6_2 + 1)), qz2, H', ⟨qz34 HJ5.out HK2.out⟩, ⟨qz24⟩, ⟨qz174⟩, ⟨qz8 BK107.out⟩, ⟨qz10 GE107.out⟩⟩
            ·rw [if_neg c37] at H
             exact absurd H (by simp)
           ·rw [if_neg c36] at H
            exact absurd H (by simp)
          ·rw [if_neg c34] at H
           have c34b0 : decide (0 < x6_2) = false := decide_eq_false c34
           clear c34
           have H' := Aside0.mk H
           clear H
           obtain ⟨Ao45, co45, eo45⟩ := Kd.R_slice HO_5.out
           subst eo45
           try go_wp2
           have n0_ := Aside0.mk (Kd.R_drew HO_5.out)
           have n1_ := Aside0.mk (Kd.R_drew HO_108001.out)
           have n2_ := Aside0.mk (blk_drew BK107.out)
           have n3_ := Aside0.mk (below_drew1 HB.out)
           clear HO_5
           clear HO_108001
           clear BK107
           clear HB
           have HO_5 := n0_
           have HO_108001 := n1_
           have BK107 := n2_
           have HB := n3_
           clear n0_ n1_ n2_ n3_
           have p119 : 0 ≤ (x6_2 : Int) := of_decide_eq_true qz4
           have q119 : x6_2 < (t108.length : Int) := of_decide_eq_true qz4
           obtain ⟨ad119, e119, hx119_0⟩ := Kd.at_int (Kd.R_reads' HO_5.out).2.2 x6_2 p119 q119
           cases e119
           replace p119 := eq_true p119
           replace q119 := eq_true q119
           refine start_ (n := 24) (S := fun w' => w'.cell? ⟨gb107, 0, none⟩ = some (.int .i64 t102) ∧ w'.cell? ⟨gb107, 1, none⟩ = some (.slice Ao10 t103.length co10) ∧ w'.cell? (ad119.add (x6_2).toNat) = some (.int .i64 (rd t108 x6_2))) (ds := []) #[false, false, false, false, false, false, false, false, false, false, false, false, false, false, false, false, false, false, false, false, false, false, false, false] (by kernel_rfl) rfl rfl ⟨(blk_cell BK107.out 0).trans rfl, (blk_cell BK107.out 1).trans rfl, hx119_0⟩ (fun hHeld => ?_); refine with_tabW laws_FnLatDown.tab10 laws_FnLatDown.bits10 (fun HT_ HW_ => ?_)
           generalize wr.drew = w46 at HO_5 HO_108001 BK107 HB hx119_0 hHeld ⊢
           refine pure_ (i := 1) (N := some 40) (v := ?_) (a' := ?_) #[false, true, false, false, false, false, false, false, false, false, false, false, false, false, false, false, false, false, false, false, false, false, false, false] rfl rfl (any_of HT_.out (by kernel_rfl)) (fun _ _ _ h => h) (Or.inl ⟨by rfl, ?_⟩) ?_ ?_
           rotate_left
           ·intro w'
            go_simp
            with_reducible rfl
           rotate_left
           ·simp only [Act.put, List.setIfInBounds_toArray, List.set_cons_zero, List.set_cons_succ, i64_w, i32_w]
            rfl
           refine pure_ (i := 2) (N := some 41) (v := ?_) (a' := ?_) #[false, true, true, false, false, false, false, false, false, false, false, false, false, false, false, false, false, false, false, false, false, false, false, false] rfl rfl (any_of HT_.out (by kernel_rfl)) (fun _ _ _ h => h) (Or.inl ⟨by rfl, ?_⟩) ?_ ?_
           rotate_left
           ·intro w'
            go_simp
            with_reducible rfl
           rotate_left
           ·simp only [Act.put, List.setIfInBounds_toArray, List.set_cons_zero, List.set_cons_succ, i64_w, i32_w]
            rfl
           refine pure_ (i := 3) (N := some 42) (v := ?_) (a' := ?_) #[false, true, true, true, false, false, false, false, false, false, false, false, false, false, false, false, false, false, false, false, false, false, false, false] rfl rfl (any_of HT_.out (by kernel_rfl)) (fun _ _ _ h => h) (Or.inl ⟨by rfl, ?_⟩) ?_ ?_
           rotate_left
           ·intro w'
            go_simp
            with_reducible rfl
           rotate_left
           ·simp only [Act.put, List.setIfInBounds_toArray, List.set_cons_zero, List.set_cons_succ, i64_w, i32_w]
            rfl
           refine pure_ (i := 5) (N := some 44) (v := ?_) (a' := ?_) #[false, true, true, true, false, true, false, false, false, false, false, false, false, false, false, false, false, false, false, false, false, false, false, false] rfl rfl (any_of HT_.out (by kernel_rfl)) (fun _ _ _ h => h) (Or.inl ⟨by rfl, ?_⟩) ?_ ?_
           rotate_left
           ·intro w'
            go_simp
            with_reducible rfl
           rotate_left
           ·simp only [Act.put, List.setIfInBounds_toArray, List.set_cons_zero, List.set_cons_succ, i64_w, i32_w]
            rfl
           refine take_ (i := 0) (N := some 39) (v := ?_) (a' := ?_) #[true, true, true, true, false, true, false, false, false, false, false, false, false, false, false, false, false, false, false, false, false, false, false, false] rfl rfl (take_ofW HT_.out HW_.out (by kernel_rfl)) (fun _ _ _ h => h) (Or.inl ⟨by rfl, ?_⟩) hHeld ?_ ?_
           rotate_left
           ·rintro w' ⟨s0, s1, s2⟩
            go_simp
            with_reducible rfl
           rotate_left
           ·simp only [Act.put, List.setIfInBounds_toArray, List.set_cons_zero, List.set_cons_succ, i64_w, i32_w]
            rfl
           refine take_ (i := 4) (N := some 43) (v := ?_) (a' := ?_) #[true, true, true, true, true, true, false, false, false, false, false, false, false, false, false, false, false, false, false, false, false, false, false, false] rfl rfl (take_ofW HT_.out HW_.out (by kernel_rfl)) (fun _ _ _ h => h) (Or.inl ⟨by rfl, ?_⟩) hHeld ?_ ?_
           rotate_left
           ·rintro w' ⟨s0, s1, s2⟩
            go_simp
            with_reducible rfl
           rotate_left
           ·simp only [Act.put, List.setIfInBounds_toArray, List.set_cons_zero, List.set_cons_succ, i64_w, i32_w]
            rfl
           refine one_ (i := 6) (N := some 45) #[true, true, true, true, true, true, true, false, false, false, false, false, false, false, false, false, false, false, false, false, false, false, false, false] rfl rfl (one_of HT_.out (by kernel_rfl)) (by decide) (fun K hK => ?_)
           refine goes_ Try.func40 (by kernel_rfl) rfl #[.agg #[.int .i64 t102, .slice Ao10 t103.length co10], .int .i64 (rd t108 x6_2), .int .i64 t106] (by rfl) rfl rfl qz1 ?_
           with_reducible refine (impl_LatLe.calls k2 t102 _ _ t103 (rd t108 x6_2) t106 true _ ?side1 ?side2 A32.out).mono ?_
           (case side1 => exact qz172)
           (case side2 => exact qz173)
           rintro e w47 ⟨rfl, hb⟩
           have HS2_ := (hb.cell (World.block_lt_of_cell? _ _ (hHeld.2.2))).trans (hHeld.2.2)
           refine ⟨_, rfl, ?_⟩
           have n0_ := Aside0.mk (Kd.R_below qz24 hb)
           have n1_ := Aside0.mk (Kd.R_below qz174 hb)
           have n2_ := Aside0.mk (blk_below (g := gb107) (o := .cells #[.int .i64 t102, .slice Ao10 t103.length co10] 47 (0, 0)) (qz8 BK107.out) hb)
           have n3_ := Aside0.mk (below_step (qz10 GE107.out) hb)
           clear HO_5
           clear HO_108001
           clear BK107
           clear HB
           have HO_5 := n0_
           have HO_108001 := n1_
           have BK107 := n2_
           have HB := n3_
           clear n0_ n1_ n2_ n3_
           (try clear hb)
           (try clear hb2)
           (try clear hk)
           (try clear hi)
           refine hK.out _ _ ⟨(blk_cell BK107.out 0).trans rfl, (blk_cell BK107.out 1).trans rfl, HS2_⟩ (fun hHeld => ?_)
           clear hK K
           refine norm_ (a' := ?_) ?_ ?_
           rotate_left
           ·show Act.put _ (some 45) _ = _
            simp only [Act.put, List.setIfInBounds_toArray, List.set_cons_zero, List.set_cons_succ, i64_w, i32_w]
            rfl
           refine pure_ (i := 7) (N := some 46) (v := ?_) (a' := ?_) #[true, true, true, true, true, true, true, true, false, false, false, false, false, false, false, false, false, false, false, false, false, false, false, false] rfl rfl (any_of HT_.out (by kernel_rfl)) (fun _ _ _ h => h) (Or.inl ⟨by rfl, ?_⟩) ?_ ?_
           rotate_left
           ·intro w'
            go_simp
            with_reducible rfl
           rotate_left
           ·simp only [Act.put, List.setIfInBounds_toArray, List.set_cons_zero, List.set_cons_succ, i64_w, i32_w]
            rfl
           refine pure_ (i := 8) (N := some 47) (v := ?_) (a' := ?_) #[true, true, true, true, true, true, true, true, true, false, false, false, false, false, false, false, false, false, false, false, false, false, false, false] rfl rfl (any_of HT_.out (by kernel_rfl)) (fun _ _ _ h => h) (Or.inl ⟨by rfl, ?_⟩) ?_ ?_
           rotate_left
           ·intro w'
            go_simp
            with_reducible rfl
           rotate_left
           ·simp only [Act.put, List.setIfInBounds_toArray, List.set_cons_zero, List.set_cons_succ, i64_w, i32_w]
            rfl
           refine pure_ (i := 9) (N := some 48) (v := ?_) (a' := ?_) #[true, true, true, true, true, true, true, true, true, true, false, false, false, false, false, false, false, false, false, false, false, false, false, false] rfl rfl (any_of HT_.out (by kernel_rfl)) (fun _ _ _ h => h) (Or.inl ⟨by rfl, ?_⟩) ?_ ?_
           rotate_left
           ·intro w'
            go_simp
            with_reducible rfl
           rotate_left
           ·simp only [Act.put, List.setIfInBounds_toArray, List.set_cons_zero, List.set_cons_succ, i64_w, i32_w]
            rfl
           refine pure_ (i := 10) (N := some 49) (v := ?_) (a' := ?_) #[true, true, true, true, true, true, true, true, true, true, true, false, false, false, false, false, false, false, false, false, false, false, false, false] rfl rfl (any_of HT_.out (by kernel_rfl)) (fun _ _ _ h => h) (Or.inl ⟨by rfl, ?_⟩) ?_ ?_
           rotate_left
           ·intro w'
            go_simp
            with_reducible rfl
           rotate_left
           ·simp only [Act.put, List.setIfInBounds_toArray, List.set_cons_zero, List.set_cons_succ, i64_w, i32_w]
            rfl
           refine pure_ (i := 11) (N := some 50) (v := ?_) (a' := ?_) #[true, true, true, true, true, true, true, true, true, true, true, true, false, false, false, false, false, false, false, false, false, false, false, false] rfl rfl (any_of HT_.out (by kernel_rfl)) (fun _ _ _ h => h) (Or.inl ⟨by rfl, ?_⟩) ?_ ?_
           rotate_left
           ·intro w'
            go_simp
            with_reducible rfl
           rotate_left
           ·simp only [Act.put, List.setIfInBounds_toArray, List.set_cons_zero, List.set_cons_succ, i64_w, i32_w]
            rfl
           refine pure_ (i := 12) (N := some 51) (v := undef) (a' := ?_) #[true, true, true, true, true, true, true, true, true, true, true, true, true, false, false, false, false, false, false, false, false, false, false, false] rfl rfl (any_of HT_.out (by kernel_rfl)) (fun _ _ _ h => h) (Or.inr ⟨by rfl, rfl⟩) ?_ ?_
           rotate_left
           ·simp only [Act.put, List.setIfInBounds_toArray, List.set_cons_zero, List.set_cons_succ, i64_w, i32_w]
            rfl
           refine pure_ (i := 13) (N := some 52) (v := undef) (a' := ?_) #[true, true, true, true, true, true, true, true, true, true, true, true, true, true, false, false, false, false, false, false, false, false, false, false] rfl rfl (any_of HT_.out (by kernel_rfl)) (fun _ _ _ h => h) (Or.inr ⟨by rfl, rfl⟩) ?_ ?_
           rotate_left
           ·simp only [Act.put, List.setIfInBounds_toArray, List.set_cons_zero, List.set_cons_succ, i64_w, i32_w]
            rfl
           refine pure_ (i := 14) (N := some 53) (v := undef) (a' := ?_) #[true, true, true, true, true, true, true, true, true, true, true, true, true, true, true, false, false, false, false, false, false, false, false, false] rfl rfl (any_of HT_.out (by kernel_rfl)) (fun _ _ _ h => h) (Or.inr ⟨by rfl, rfl⟩) ?_ ?_
           rotate_left
           ·simp only [Act.put, List.setIfInBounds_toArray, List.set_cons_zero, List.set_cons_succ, i64_w, i32_w]
            rfl
           refine pure_ (i := 15) (N := some 54) (v := undef) (a' := ?_) #[true, true, true, true, true, true, true, true, true, true, true, true, true, true, true, true, false, false, false, false, false, false, false, false] rfl rfl (any_of HT_.out (by kernel_rfl)) (fun _ _ _ h => h) (Or.inr ⟨by rfl, rfl⟩) ?_ ?_
           rotate_left
           ·simp only [Act.put, List.setIfInBounds_toArray, List.set_cons_zero, List.set_cons_succ, i64_w, i32_w]
            rfl
           refine pure_ (i := 16) (N := some 55) (v := undef) (a' := ?_) #[true, true, true, true, true, true, true, true, true, true, true, true, true, true, true, true, true, false, false, false, false, false, false, false] rfl rfl (any_of HT_.out (by kernel_rfl)) (fun _ _ _ h => h) (Or.inr ⟨by rfl, rfl⟩) ?_ ?_
           rotate_left
           ·simp only [Act.put, List.setIfInBounds_toArray, List.set_cons_zero, List.set_cons_succ, i64_w, i32_w]
            rfl
           refine pure_ (i := 17) (N := some 56) (v := undef) (a' := ?_) #[true, true, true, true, true, true, true, true, true, true, true, true, true, true, true, true, true, true, false, false, false, false, false, false] rfl rfl (any_of HT_.out (by kernel_rfl)) (fun _ _ _ h => h) (Or.inr ⟨by rfl, rfl⟩) ?_ ?_
           rotate_left
           ·simp only [Act.put, List.setIfInBounds_toArray, List.set_cons_zero, List.set_cons_succ, i64_w, i32_w]
            rfl
           refine pure_ (i := 18) (N := some 57) (v := undef) (a' := ?_) #[true, true, true, true, true, true, true, true, true, true, true, true, true, true, true, true, true, true, true, false, false, false, false, false] rfl rfl (any_of HT_.out (by kernel_rfl)) (fun _ _ _ h => h) (Or.inr ⟨by rfl, rfl⟩) ?_ ?_
           rotate_left
           ·simp only [Act.put, List.setIfInBounds_toArray, List.set_cons_zero, List.set_cons_succ, i64_w, i32_w]
            rfl
           refine pure_ (i := 19) (N := some 58) (v := undef) (a' := ?_) #[true, true, true, true, true, true, true, true, true, true, true, true, true, true, true, true, true, true, true, true, false, false, false, false] rfl rfl (any_of HT_.out (by kernel_rfl)) (fun _ _ _ h => h) (Or.inr ⟨by rfl, rfl⟩) ?_ ?_
           rotate_left
           ·simp only [Act.put, List.setIfInBounds_toArray, List.set_cons_zero, List.set_cons_succ, i64_w, i32_w]
            rfl
           refine pure_ (i := 20) (N := some 59) (v := undef) (a' := ?_) #[true, true, true, true, true, true, true, true, true, true, true, true, true, true, true, true, true, true, true, true, true, false, false, false] rfl rfl (any_of HT_.out (by kernel_rfl)) (fun _ _ _ h => h) (Or.inr ⟨by rfl, rfl⟩) ?_ ?_
           rotate_left
           ·simp only [Act.put, List.setIfInBounds_toArray, List.set_cons_zero, List.set_cons_succ, i64_w, i32_w]
            rfl
           refine pure_ (i := 21) (N := some 60) (v := undef) (a' := ?_) #[true, true, true, true, true, true, true, true, true, true, true, true, true, true, true, true, true, true, true, true, true, true, false, false] rfl rfl (any_of HT_.out (by kernel_rfl)) (fun _ _ _ h => h) (Or.inr ⟨by rfl, rfl⟩) ?_ ?_
           rotate_left
           ·simp only [Act.put, List.setIfInBounds_toArray, List.set_cons_zero, List.set_cons_succ, i64_w, i32_w]
            rfl
           refine pure_ (i := 22) (N := some 61) (v := ?_) (a' := ?_) #[true, true, true, true, true, true, true, true, true, true, true, true, true, true, true, true, true, true, true, true, true, true, true, false] rfl rfl (any_of HT_.out (by kernel_rfl)) (fun _ _ _ h => h) (Or.inl ⟨by rfl, ?_⟩) ?_ ?_
           rotate_left
           ·intro w'
            go_simp
            with_reducible rfl
           rotate_left
           ·simp only [Act.put, List.setIfInBounds_toArray, List.set_cons_zero, List.set_cons_succ, i64_w, i32_w]
            rfl
           refine pure_ (i := 23) (N := some 62) (v := ?_) (a' := ?_) #[true, true, true, true, true, true, true, true, true, true, true, true, true, true, true, true, true, true, true, true, true, true, true, true] rfl rfl (any_of HT_.out (by kernel_rfl)) (fun _ _ _ h => h) (Or.inl ⟨by rfl, ?_⟩) ?_ ?_
           rotate_left
           ·intro w'
            go_simp
            with_reducible rfl
           rotate_left
           ·simp only [Act.put, List.setIfInBounds_toArray, List.set_cons_zero, List.set_cons_succ, i64_w, i32_w]
            rfl
           refine done_ (done_of HT_.out (by kernel_rfl)) ?_
           try go_wp2
           go_roundg k2
           case measure => have := HJ5.out; have := HK2.out; omega
           case rel => exact ⟨(wrap64 (x6_2 + 1)), qz2, H', ⟨qz34 HJ5.out HK2.out⟩, ⟨qz24⟩, ⟨qz174⟩, ⟨qz8 BK107.out⟩, ⟨qz10 GE107.out⟩⟩
         ·replace c33 := Bool.eq_false_iff.mpr c33
          subst c33
          have H1 : (some false) = some r := by rw [if_neg (show ¬ (false = true) by decide)] at H; exact H
          clear H
          have H := H1
          clear H1
          obtain rfl := Option.some.inj H
          obtain ⟨Ao48, co48, eo48⟩ := Kd.R_slice HO_5.out
          subst eo48
          try go_wp2
          have n0_ := Aside0.mk (Kd.R_drew HO_5.out)
          have n1_ := Aside0.mk (Kd.R_drew HO_108001.out)
          have n2_ := Aside0.mk (blk_drew BK107.out)
          have n3_ := Aside0.mk (below_drew1 HB.out)
          clear HO_5
          clear HO_108001
          clear BK107
          clear HB
          have HO_5 := n0_
          have HO_108001 := n1_
          have BK107 := n2_
          have HB := n3_
          clear n0_ n1_ n2_ n3_
          have p119 : 0 ≤ (x6_2 : Int) := of_decide_eq_true qz4
          have q119 : x6_2 < (t108.length : Int) := of_decide_eq_true qz4
          obtain ⟨ad119, e119, hx119_0⟩ := Kd.at_int (Kd.R_reads' HO_5.out).2.2 x6_2 p119 q119
          cases e119
          replace p119 := eq_true p119
          replace q119 := eq_true q119
          refine start_ (n := 24) (S := fun w' => w'.cell? ⟨gb107, 0, none⟩ = some (.int .i64 t102) ∧ w'.cell? ⟨gb107, 1, none⟩ = some (.slice Ao10 t103.length co10) ∧ w'.cell? (ad119.add (x6_2).toNat) = some (.int .i64 (rd t108 x6_2))) (ds := []) #[false, false, false, false, false, false, false, false, false, false, false, false, false, false, false, false, false, false, false, false, false, false, false, false] (by kernel_rfl) rfl rfl ⟨(blk_cell BK107.out 0).trans rfl, (blk_cell BK107.out 1).trans rfl, hx119_0⟩ (fun hHeld => ?_); refine with_tabW laws_FnLatDown.tab10 laws_FnLatDown.bits10 (fun HT_ HW_ => ?_)
          generalize wr.drew = w49 at HO_5 HO_108001 BK107 HB hx119_0 hHeld ⊢
          refine pure_ (i := 1) (N := some 40) (v := ?_) (a' := ?_) #[false, true, false, false, false, false, false, false, false, false, false, false, false, false, false, false, false, false, false, false, false, false, false, false] rfl rfl (any_of HT_.out (by kernel_rfl)) (fun _ _ _ h => h) (Or.inl ⟨by rfl, ?_⟩) ?_ ?_
          rotate_left
          ·intro w'
           go_simp
           with_reducible rfl
          rotate_left
          ·simp only [Act.put, List.setIfInBounds_toArray, List.set_cons_zero, List.set_cons_succ, i64_w, i32_w]
           rfl
          refine pure_ (i := 2) (N := some 41) (v := ?_) (a' := ?_) #[false, true, true, false, false, false, false, false, false, false, false, false, false, false, false, false, false, false, false, false, false, false, false, false] rfl rfl (any_of HT_.out (by kernel_rfl)) (fun _ _ _ h => h) (Or.inl ⟨by rfl, ?_⟩) ?_ ?_
          rotate_left
          ·intro w'
           go_simp
           with_reducible rfl
          rotate_left
          ·simp only [Act.put, List.setIfInBounds_toArray, List.set_cons_zero, List.set_cons_succ, i64_w, i32_w]
           rfl
          refine pure_ (i := 3) (N := some 42) (v := ?_) (a' := ?_) #[false, true, true, true, false, false, false, false, false, false, false, false, false, false, false, false, false, false, false, false, false, false, false, false] rfl rfl (any_of HT_.out (by kernel_rfl)) (fun _ _ _ h => h) (Or.inl ⟨by rfl, ?_⟩) ?_ ?_
          rotate_left
          ·intro w'
           go_simp
           with_reducible rfl
          rotate_left
          ·simp only [Act.put, List.setIfInBounds_toArray, List.set_cons_zero, List.set_cons_succ, i64_w, i32_w]
           rfl
          refine pure_ (i := 5) (N := some 44) (v := ?_) (a' := ?_) #[false, true, true, true, false, true, false, false, false, false, false, false, false, false, false, false, false, false, false, false, false, false, false, false] rfl rfl (any_of HT_.out (by kernel_rfl)) (fun _ _ _ h => h) (Or.inl ⟨by rfl, ?_⟩) ?_ ?_
          rotate_left
          ·intro w'
           go_simp
           with_reducible rfl
          rotate_left
          ·simp only [Act.put, List.setIfInBounds_toArray, List.set_cons_zero, List.set_cons_succ, i64_w, i32_w]
           rfl
          refine take_ (i := 0) (N := some 39) (v := ?_) (a' := ?_) #[true, true, true, true, false, true, false, false, false, false, false, false, false, false, false, false, false, false, false, false, false, false, false, false] rfl rfl (take_ofW HT_.out HW_.out (by kernel_rfl)) (fun _ _ _ h => h) (Or.inl ⟨by rfl, ?_⟩) hHeld ?_ ?_
          rotate_left
          ·rintro w' ⟨s0, s1, s2⟩
           go_simp
           with_reducible rfl
          rotate_left
          ·simp only [Act.put, List.setIfInBounds_toArray, List.set_cons_zero, List.set_cons_succ, i64_w, i32_w]
           rfl
          refine take_ (i := 4) (N := some 43) (v := ?_) (a' := ?_) #[true, true, true, true, true, true, false, false, false, false, false, false, false, false, false, false, false, false, false, false, false, false, false, false] rfl rfl (take_ofW HT_.out HW_.out (by kernel_rfl)) (fun _ _ _ h => h) (Or.inl ⟨by rfl, ?_⟩) hHeld ?_ ?_
          rotate_left
          ·rintro w' ⟨s0, s1, s2⟩
           go_simp
           with_reducible rfl
          rotate_left
          ·simp only [Act.put, List.setIfInBounds_toArray, List.set_cons_zero, List.set_cons_succ, i64_w, i32_w]
           rfl
          refine one_ (i := 6) (N := some 45) #[true, true, true, true, true, true, true, false, false, false, false, false, false, false, false, false, false, false, false, false, false, false, false, false] rfl rfl (one_of HT_.out (by kernel_rfl)) (by decide) (fun K hK => ?_)
          refine goes_ Try.func40 (by kernel_rfl) rfl #[.agg #[.int .i64 t102, .slice Ao10 t103.length co10], .int .i64 (rd t108 x6_2), .int .i64 t106] (by rfl) rfl rfl qz1 ?_
          with_reducible refine (impl_LatLe.calls k2 t102 _ _ t103 (rd t108 x6_2) t106 false _ ?side1 ?side2 A32.out).mono ?_
          (case side1 => exact qz172)
          (case side2 => exact qz173)
          rintro e w50 ⟨rfl, hb⟩
          have HS2_ := (hb.cell (World.block_lt_of_cell? _ _ (hHeld.2.2))).trans (hHeld.2.2)
          refine ⟨_, rfl, ?_⟩
          have n0_ := Aside0.mk (Kd.R_below qz24 hb)
          have n1_ := Aside0.mk (Kd.R_below qz174 hb)
          have n2_ := Aside0.mk (blk_below (g := gb107) (o := .cells #[.int .i64 t102, .slice Ao10 t103.length co10] 47 (0, 0)) (qz8 BK107.out) hb)
          have n3_ := Aside0.mk (below_step (qz10 GE107.out) hb)
          clear HO_5
          clear HO_108001
          clear BK107
          clear HB
          have HO_5 := n0_
          have HO_108001 := n1_
          have BK107 := n2_
          have HB := n3_
          clear n0_ n1_ n2_ n3_
          (try clear hb)
          (try clear hb2)
          (try clear hk)
          (try clear hi)
          refine hK.out _ _ ⟨(blk_cell BK107.out 0).trans rfl, (blk_cell BK107.out 1).trans rfl, HS2_⟩ (fun hHeld => ?_)
          clear hK K
          refine norm_ (a' := ?_) ?_ ?_
          rotate_left
          ·show Act.put _ (some 45) _ = _
           simp only [Act.put, List.setIfInBounds_toArray, List.set_cons_zero, List.set_cons_succ, i64_w, i32_w]
           rfl
          refine pure_ (i := 7) (N := some 46) (v := ?_) (a' := ?_) #[true, true, true, true, true, true, true, true, false, false, false, false, false, false, false, false, false, false, false, false, false, false, false, false] rfl rfl (any_of HT_.out (by kernel_rfl)) (fun _ _ _ h => h) (Or.inl ⟨by rfl, ?_⟩) ?_ ?_
          rotate_left
          ·intro w'
           go_simp
           with_reducible rfl
          rotate_left
          ·simp only [Act.put, List.setIfInBounds_toArray, List.set_cons_zero, List.set_cons_succ, i64_w, i32_w]
           rfl
          refine pure_ (i := 8) (N := some 47) (v := ?_) (a' := ?_) #[true, true, true, true, true, true, true, true, true, false, false, false, false, false, false, false, false, false, false, false, false, false, false, false] rfl rfl (any_of HT_.out (by kernel_rfl)) (fun _ _ _ h => h) (Or.inl ⟨by rfl, ?_⟩) ?_ ?_
          rotate_left
          ·intro w'
           go_simp
           with_reducible rfl
          rotate_left
          ·simp only [Act.put, List.setIfInBounds_toArray, List.set_cons_zero, List.set_cons_succ, i64_w, i32_w]
           rfl
          refine pure_ (i := 9) (N := some 48) (v := undef) (a' := ?_) #[true, true, true, true, true, true, true, true, true, true, false, false, false, false, false, false, false, false, false, false, false, false, false, false] rfl rfl (any_of HT_.out (by kernel_rfl)) (fun _ _ _ h => h) (Or.inr ⟨by rfl, rfl⟩) ?_ ?_
          rotate_left
          ·simp only [Act.put, List.setIfInBounds_toArray, List.set_cons_zero, List.set_cons_succ, i64_w, i32_w]
           rfl
          refine pure_ (i := 10) (N := some 49) (v := undef) (a' := ?_) #[true, true, true, true, true, true, true, true, true, true, true, false, false, false, false, false, false, false, false, false, false, false, false, false] rfl rfl (any_of HT_.out (by kernel_rfl)) (fun _ _ _ h => h) (Or.inr ⟨by rfl, rfl⟩) ?_ ?_
          rotate_left
          ·simp only [Act.put, List.setIfInBounds_toArray, List.set_cons_zero, List.set_cons_succ, i64_w, i32_w]
           rfl
          refine pure_ (i := 11) (N := some 50) (v := undef) (a' := ?_) #[true, true, true, true, true, true, true, true, true, true, true, true, false, false, false, false, false, false, false, false, false, false, false, false] rfl rfl (any_of HT_.out (by kernel_rfl)) (fun _ _ _ h => h) (Or.inr ⟨by rfl, rfl⟩) ?_ ?_
          rotate_left
          ·simp only [Act.put, List.setIfInBounds_toArray, List.set_cons_zero, List.set_cons_succ, i64_w, i32_w]
           rfl
          refine pure_ (i := 12) (N := some 51) (v := undef) (a' := ?_) #[true, true, true, true, true, true, true, true, true, true, true, true, true, false, false, false, false, false, false, false, false, false, false, false] rfl rfl (any_of HT_.out (by kernel_rfl)) (fun _ _ _ h => h) (Or.inr ⟨by rfl, rfl⟩) ?_ ?_
          rotate_left
          ·simp only [Act.put, List.setIfInBounds_toArray, List.set_cons_zero, List.set_cons_succ, i64_w, i32_w]
           rfl
          refine pure_ (i := 13) (N := some 52) (v := undef) (a' := ?_) #[true, true, true, true, true, true, true, true, true, true, true, true, true, true, false, false, false, false, false, false, false, false, false, false] rfl rfl (any_of HT_.out (by kernel_rfl)) (fun _ _ _ h => h) (Or.inr ⟨by rfl, rfl⟩) ?_ ?_
          rotate_left
          ·simp only [Act.put, List.setIfInBounds_toArray, List.set_cons_zero, List.set_cons_succ, i64_w, i32_w]
           rfl
          refine pure_ (i := 14) (N := some 53) (v := undef) (a' := ?_) #[true, true, true, true, true, true, true, true, true, true, true, true, true, true, true, false, false, false, false, false, false, false, false, false] rfl rfl (any_of HT_.out (by kernel_rfl)) (fun _ _ _ h => h) (Or.inr ⟨by rfl, rfl⟩) ?_ ?_
          rotate_left
          ·simp only [Act.put, List.setIfInBounds_toArray, List.set_cons_zero, List.set_cons_succ, i64_w, i32_w]
           rfl
          refine pure_ (i := 15) (N := some 54) (v := undef) (a' := ?_) #[true, true, true, true, true, true, true, true, true, true, true, true, true, true, true, true, false, false, false, false, false, false, false, false] rfl rfl (any_of HT_.out (by kernel_rfl)) (fun _ _ _ h => h) (Or.inr ⟨by rfl, rfl⟩) ?_ ?_
          rotate_left
          ·simp only [Act.put, List.setIfInBounds_toArray, List.set_cons_zero, List.set_cons_succ, i64_w, i32_w]
           rfl
          refine pure_ (i := 16) (N := some 55) (v := undef) (a' := ?_) #[true, true, true, true, true, true, true, true, true, true, true, true, true, true, true, true, true, false, false, false, false, false, false, false] rfl rfl (any_of HT_.out (by kernel_rfl)) (fun _ _ _ h => h) (Or.inr ⟨by rfl, rfl⟩) ?_ ?_
          rotate_left
          ·simp only [Act.put, List.setIfInBounds_toArray, List.set_cons_zero, List.set_cons_succ, i64_w, i32_w]
           rfl
          refine pure_ (i := 17) (N := some 56) (v := undef) (a' := ?_) #[true, true, true, true, true, true, true, true, true, true, true, true, true, true, true, true, true, true, false, false, false, false, false, false] rfl rfl (any_of HT_.out (by kernel_rfl)) (fun _ _ _ h => h) (Or.inr ⟨by rfl, rfl⟩) ?_ ?_
          rotate_left
          ·simp only [Act.put, List.setIfInBounds_toArray, List.set_cons_zero, List.set_cons_succ, i64_w, i32_w]
           rfl
          refine pure_ (i := 18) (N := some 57) (v := undef) (a' := ?_) #[true, true, true, true, true, true, true, true, true, true, true, true, true, true, true, true, true, true, true, false, false, false, false, false] rfl rfl (any_of HT_.out (by kernel_rfl)) (fun _ _ _ h => h) (Or.inr ⟨by rfl, rfl⟩) ?_ ?_
          rotate_left
          ·simp only [Act.put, List.setIfInBounds_toArray, List.set_cons_zero, List.set_cons_succ, i64_w, i32_w]
           rfl
          refine pure_ (i := 19) (N := some 58) (v := undef) (a' := ?_) #[true, true, true, true, true, true, true, true, true, true, true, true, true, true, true, true, true, true, true, true, false, false, false, false] rfl rfl (any_of HT_.out (by kernel_rfl)) (fun _ _ _ h => h) (Or.inr ⟨by rfl, rfl⟩) ?_ ?_
          rotate_left
          ·simp only [Act.put, List.setIfInBounds_toArray, List.set_cons_zero, List.set_cons_succ, i64_w, i32_w]
           rfl
          refine pure_ (i := 20) (N := some 59) (v := undef) (a' := ?_) #[true, true, true, true, true, true, true, true, true, true, true, true, true, true, true, true, true, true, true, true, true, false, false, false] rfl rfl (any_of HT_.out (by kernel_rfl)) (fun _ _ _ h => h) (Or.inr ⟨by rfl, rfl⟩) ?_ ?_
          rotate_left
          ·simp only [Act.put, List.setIfInBounds_toArray, List.set_cons_zero, List.set_cons_succ, i64_w, i32_w]
           rfl
          refine pure_ (i := 21) (N := some 60) (v := undef) (a' := ?_) #[true, true, true, true, true, true, true, true, true, true, true, true, true, true, true, true, true, true, true, true, true, true, false, false] rfl rfl (any_of HT_.out (by kernel_rfl)) (fun _ _ _ h => h) (Or.inr ⟨by rfl, rfl⟩) ?_ ?_
          rotate_left
          ·simp only [Act.put, List.setIfInBounds_toArray, List.set_cons_zero, List.set_cons_succ, i64_w, i32_w]
           rfl
          refine pure_ (i := 22) (N := some 61) (v := undef) (a' := ?_) #[true, true, true, true, true, true, true, true, true, true, true, true, true, true, true, true, true, true, true, true, true, true, true, false] rfl rfl (any_of HT_.out (by kernel_rfl)) (fun _ _ _ h => h) (Or.inr ⟨by rfl, rfl⟩) ?_ ?_
          rotate_left
          ·simp only [Act.put, List.setIfInBounds_toArray, List.set_cons_zero, List.set_cons_succ, i64_w, i32_w]
           rfl
          refine pure_ (i := 23) (N := some 62) (v := ?_) (a' := ?_) #[true, true, true, true, true, true, true, true, true, true, true, true, true, true, true, true, true, true, true, true, true, true, true, true] rfl rfl (any_of HT_.out (by kernel_rfl)) (fun _ _ _ h => h) (Or.inl ⟨by rfl, ?_⟩) ?_ ?_
          rotate_left
          ·intro w'
           go_simp
           with_reducible rfl
          rotate_left
          ·simp only [Act.put, List.setIfInBounds_toArray, List.set_cons_zero, List.set_cons_succ, i64_w, i32_w]
           rfl
          refine done_ (done_of HT_.out (by kernel_rfl)) ?_
          try go_wp2
          go_ret
          exact ⟨qz13, qz10 GE107.out⟩
        ·rw [if_neg c31] at H
         exact absurd H (by simp)
       ·rw [if_neg c30] at H
        have c30b0 : decide (x6_2 < (t108.length : Int)) = false := decide_eq_false c30
        clear c30
        replace H := Option.bind_eq_some_iff.mp H
        obtain ⟨t123, A510, H⟩ := H
        replace H : (some (t123 == t106)) = some r := H
        have A51 := Aside0.mk A510
        clear A510
        obtain rfl := Option.some.inj H
        obtain ⟨Ao52, co52, eo52⟩ := Kd.R_slice HO_5.out
        subst eo52
        have hcz53_0 : wr.cell? ⟨gb107, 0, none⟩ = some (.int .i64 t102) := (blk_cell BK107.out 0).trans rfl
        have hcz53_1 : wr.cell? ⟨gb107, 1, none⟩ = some (.slice Ao10 t103.length co10) := (blk_cell BK107.out 1).trans rfl
        have hfz53_0 := blk_frozen BK107.out 0
        have hfz53_1 := blk_frozen BK107.out 1
        go_wp2_with (first | ((with_reducible refine gate_callee (f := 45) rfl ?_); refine goesL_ (some 65) rfl rfl Try.func45 (by kernel_rfl) rfl #[.agg #[.int .i64 t102, .slice Ao10 t103.length co10], .slice Ao52 t108.length co52] rfl qz1 ?_; (with_reducible refine (impl_LatJoinAll.calls k2 t102 _ _ t103 _ _ t108 t123 _ ?side1 ?side2 ?side3 ?side4 A51.out).mono ?_); (case side1 => exact qz172); (case side2 => exact qz173); (case side3 => exact qz175); (case side4 => exact (Kd.R_reads' HO_5.out).2.1); rintro e w54 ⟨rfl, hb⟩; refine ⟨_, rfl, ?_⟩; have n0_ := Aside0.mk (Kd.R_below qz24 hb); have n1_ := Aside0.mk (Kd.R_below qz174 hb); have n2_ := Aside0.mk (blk_below (g := gb107) (o := .cells #[.int .i64 t102, .slice Ao10 t103.length co10] 47 (0, 0)) (qz8 BK107.out) hb); have n3_ := Aside0.mk (below_step (qz10 GE107.out) hb); clear HO_5; clear HO_108001; clear BK107; clear HB; have HO_5 := n0_; have HO_108001 := n1_; have BK107 := n2_; have HB := n3_; clear n0_ n1_ n2_ n3_; (try clear hb); (try clear hb2); (try clear hk); (try clear hi)))
        go_ret
        exact ⟨qz13, qz10 GE107.out⟩

/-- THE ONE PURE STATEMENT of laws_FnLatDown: yours. -/
def laws_FnLatDown.Pure : Prop := ∀ (l0 : List Int), l0.length ≤ maxLen → l0.length * 1 ≤ 140737488351232 → (∀ x ∈ l0, (Lit.int .u8 x).wf = true) → ∃ k, laws_FnLatDown.f k l0 = some true
theorem laws_FnLatDown.walk (P : laws_FnLatDown.Pure) (a0 : Option Addr) (len0 cap0 : Nat) (z0 : List Int) (w : World) (w0 : (a0 = none ∧ len0 = 0 ∧ cap0 = 0 ∧ z0 = []) ∨ ∃ x, a0 = some x ∧ len0 ≤ cap0 ∧ cap0 ≤ maxLen ∧ z0.length = cap0 ∧ (∀ i, i < z0.length → w.cell? (x.add i) = some (.int .u8 (z0.getD i 0))) ∧ ∀ n ∈ z0, (Lit.int .u8 n).wf = true) (y0 : len0 * 1 ≤ 140737488351232) :
  Calls Try.prog 6 #[.slice a0 len0 cap0] w fun e w' => e = .returned (.bool true) ∧ Below w.heap.size w w' := by
 obtain ⟨l0, rfl, hr0, hm0, hw0, hc0⟩ := ReadsInt.ofRowC w0
 obtain ⟨k, h⟩ := P l0 hm0 y0 hw0
 refine (laws_FnLatDown.calls k _ _ l0 true w (Kd.C_of_reads (d := (0 : Int)) (h1 := fun _ => rfl) hr0) hc0 h).mono ?_
 rintro e w' ⟨rfl, hd⟩
 exact ⟨rfl, hd⟩

end Go.Proofs.Ytjhfjnknajhanaa.P

namespace Go.Proofs.Ytjhfjnknajhanaa.P
open Go.RowKit Go.Proofs.YtjhfjnknajhanaaW.PrintWords Go.Proofs.YtjhfjnknajhanaaW.PrintLast Go.Proofs.YtjhfjnknajhanaaW.PrintMore
attribute [local go_sem] max2_int min2_int max_two min_two max_three min_three max_four min_four   -- for this text's walks alone
set_option linter.unusedVariables false
set_option linter.unusedSimpArgs false

/-! ### spec_l01Cur_size: function 194 -/
def spec_l01Cur_size.f (s0_0 : List Int) (s0_1 : Int) (s0_2 : Int) (a1 : Int) : Option (Int × Int × Int) := (spec_l01Cur_pick.f s0_0 s0_1 s0_2 (wrap64 ((mn a1 (wrap64 (1 + (wrap64 ((s0_0.length : Int) / 8))))) + 1))).bind fun bt101 => (some (bt101.1, bt101.2.1, bt101.2.2))

end Go.Proofs.Ytjhfjnknajhanaa.P

/- What the drawing functions of the reference hand out, as plain facts about lists and numbers. -/
namespace Go.Proofs.Ytjhfjnknajhanaa.Q
open Go.RowKit Go.Proofs.Ytjhfjnknajhanaa.P Go.Proofs.YtjhfjnknajhanaaW.PrintWords Go.Proofs.YtjhfjnknajhanaaW.PrintLast Go.Proofs.YtjhfjnknajhanaaW.PrintMore

theorem wrap64_id {x : Int} (h0 : -9223372036854775808 ≤ x) (h1 : x ≤ 9223372036854775807) : wrap64 x = x := by
  unfold wrap64; omega
theorem u64_id {x : Int} (h0 : 0 ≤ x) (h1 : x ≤ 18446744073709551615) : IntKind.u64.wrap x = x := by
  unfold IntKind.wrap; simp [IntKind.bits, IntKind.signed]; omega

/-- The law's input: bytes, and not too many. -/
structure Code (c : List Int) : Prop where
  byte : ∀ x ∈ c, 0 ≤ x ∧ x ≤ 255
  len : c.length ≤ 1048576

/-- A cursor behind at most m picks. -/
structure Cu (c : List Int) (a s : Int) (m : Nat) : Prop where
  code : Code c
  a0 : 0 ≤ a
  a1 : a ≤ m
  s0 : 0 ≤ s
  s1 : s ≤ 65520

theorem Cu.mono {c : List Int} {a s : Int} {m n : Nat} (h : Cu c a s m) (hn : m ≤ n) : Cu c a s n := ⟨h.code, h.a0, by have := h.a1; omega, h.s0, h.s1⟩

theorem rd_byte {c : List Int} (h : Code c) (i : Int) : 0 ≤ rd c i ∧ rd c i ≤ 255 := by
  unfold rd
  rw [List.getD_eq_getElem?_getD]
  cases hi : c[i.toNat]? with
  | none => simp
  | some x => simpa using h.byte x (List.mem_of_getElem? hi)

theorem open_ok {c : List Int} (h : Code c) : ∃ s, spec_l01Open.f c = some (c, 0, s) ∧ Cu c 0 s 0 := by
  have := h.len
  exact ⟨_, rfl, h, by omega, by omega, by omega, by omega⟩

/-- One number: below n, or 0 where there is no choice. -/
theorem pick_ok {c : List Int} {a s : Int} {m : Nat} (h : Cu c a s m) (n : Int) (hm : m ≤ 1000000000000 := by omega) :
    ∃ x a' s', spec_l01Cur_pick.f c a s n = some (x, a', s') ∧ 0 ≤ x ∧ (2 ≤ n → x < n) ∧ (n < 2 → x = 0) ∧ Cu c a' s' (m + 1) := by
  obtain ⟨hc, a0, a1, s0, s1⟩ := h
  have hl := hc.len
  unfold spec_l01Cur_pick.f
  by_cases h2 : n < 2
  · rw [if_pos h2]
    exact ⟨0, a, s, rfl, by omega, fun h => absurd h (by omega), fun _ => rfl, hc, a0, by omega, s0, s1⟩
  · rw [if_neg h2]
    have hn : n ≠ 0 := by omega
    by_cases h3 : a < (c.length : Int)
    · rw [if_pos h3, if_pos a0, if_neg hn]
      have hb := rd_byte hc a
      refine ⟨_, _, _, rfl, ?_, fun _ => ?_, fun h => absurd h h2, hc, ?_, ?_, s0, s1⟩
      · rw [wrap64_id (by omega) (by omega)]; exact Int.tmod_nonneg _ hb.1
      · rw [wrap64_id (by omega) (by omega)]; exact Int.tmod_lt_of_pos _ (by omega)
      · rw [wrap64_id (by omega) (by omega)]; omega
      · rw [wrap64_id (by omega) (by omega)]; omega
    · rw [if_neg h3]
      have hw : wrap64 (wrap64 (s * 1103) + 12345) = s * 1103 + 12345 := by
        rw [wrap64_id (x := s * 1103) (by omega) (by omega), wrap64_id (by omega) (by omega)]
      have t0 : 0 ≤ Int.tmod (s * 1103 + 12345) 65521 := Int.tmod_nonneg _ (by omega)
      have t1 : Int.tmod (s * 1103 + 12345) 65521 < 65521 := Int.tmod_lt_of_pos _ (by omega)
      rw [hw]
      by_cases h4 : (c.length : Int) > 0
      · have h5 : ¬ (c.length : Int) = 0 := by omega
        have e0 : 0 ≤ Int.tmod a c.length := Int.tmod_nonneg _ a0
        have e1 : Int.tmod a c.length < c.length := Int.tmod_lt_of_pos _ h4
        rw [if_pos h4, if_neg h5, if_pos e0, if_pos e1, if_neg hn]
        have hb := rd_byte hc (Int.tmod a c.length)
        have d0 : 0 ≤ Int.tdiv (Int.tmod (s * 1103 + 12345) 65521) 7 := Int.tdiv_nonneg t0 (by omega)
        have d1 : Int.tdiv (Int.tmod (s * 1103 + 12345) 65521) 7 ≤ 65521 := by
          rw [Int.tdiv_eq_ediv_of_nonneg t0]; omega
        rw [wrap64_id (x := Int.tdiv _ 7) (by omega) (by omega), wrap64_id (x := rd c _) (by omega) (by omega), wrap64_id (x := _ + _) (by omega) (by omega), wrap64_id (x := a + 1) (by omega) (by omega)]
        exact ⟨_, _, _, rfl, Int.tmod_nonneg _ (by omega), fun _ => Int.tmod_lt_of_pos _ (by omega), fun h => absurd h h2, hc, by omega, by omega, t0, by omega⟩
      · rw [if_neg h4, if_neg hn, wrap64_id (x := a + 1) (by omega) (by omega)]
        exact ⟨_, _, _, rfl, by simp, fun _ => by simp; omega, fun h => absurd h h2, hc, by omega, by omega, t0, by omega⟩

theorem once_ok {c : List Int} {a s : Int} {m : Nat} (h : Cu c a s m) (n : Int) (hm : m ≤ 1000000000000 := by omega) :
    ∃ b a' s', spec_l01Cur_once.f c a s n = some (b, a', s') ∧ Cu c a' s' (m + 1) := by
  obtain ⟨x, a', s', e, _, _, _, hc⟩ := pick_ok h n hm
  unfold spec_l01Cur_once.f
  rw [e]
  exact ⟨_, _, _, rfl, hc⟩

/-- What 'raw' hands out. -/
def rawVals : List Int := (List.range 256).map (fun (x : Nat) => Int.ofNat x - 128) ++ [9223372036854775807, -9223372036854775808, 4611686018427387904, 9223372036854775806, 4294967296, -1000, 1000, 16]
theorem small_raw {x : Int} (h0 : -128 ≤ x) (h1 : x ≤ 127) : x ∈ rawVals := by
  unfold rawVals
  refine List.mem_append_left _ (List.mem_map.mpr ⟨(x + 128).toNat, List.mem_range.mpr (by omega), ?_⟩)
  show ((x + 128).toNat : Int) - 128 = x
  omega
theorem raw_range {x : Int} (h : x ∈ rawVals) : -9223372036854775808 ≤ x ∧ x ≤ 9223372036854775807 := by
  unfold rawVals at h
  rcases List.mem_append.mp h with h | h
  · obtain ⟨n, hn, rfl⟩ := List.mem_map.mp h
    have := List.mem_range.mp hn
    show -9223372036854775808 ≤ (n : Int) - 128 ∧ (n : Int) - 128 ≤ 9223372036854775807
    omega
  · simp at h
    omega
theorem raw_ok {c : List Int} {a s : Int} {m : Nat} (h : Cu c a s m) (hm : m ≤ 100000000000 := by omega) :
    ∃ x a' s', spec_l01Cur_raw.f c a s = some (x, a', s') ∧ x ∈ rawVals ∧ Cu c a' s' (m + 2) := by
  replace hm : m ≤ 100000000000 := hm
  obtain ⟨x, a1, s1, e, x0, x1, _, hc⟩ := pick_ok h 8
  unfold spec_l01Cur_raw.f
  rw [e]
  simp only [Option.bind_some]
  by_cases h0 : x = 0
  · rw [if_pos h0]
    obtain ⟨y, a2, s2, e2, y0, y1, _, hc2⟩ := pick_ok hc 256
    have := y1 (by omega)
    rw [e2]
    simp only [Option.bind_some]
    rw [wrap64_id (by omega) (by omega)]
    exact ⟨_, _, _, rfl, small_raw (by omega) (by omega), hc2⟩
  · rw [if_neg h0]
    by_cases h1 : x = 1
    · rw [if_pos h1]
      obtain ⟨y, a2, s2, e2, y0, y1, _, hc2⟩ := pick_ok hc 8
      have := y1 (by omega)
      rw [e2]
      simp only [Option.bind_some]
      rw [if_pos y0, if_pos (by simpa using this)]
      refine ⟨_, _, _, rfl, ?_, hc2⟩
      unfold rawVals
      refine List.mem_append_right _ ?_
      obtain ⟨n, rfl⟩ := Int.eq_ofNat_of_zero_le y0
      have hn : n < 8 := by omega
      have : ∀ n : Nat, n < 8 → rd [9223372036854775807, (-9223372036854775808), 4611686018427387904, 9223372036854775806, 4294967296, (-1000), 1000, 16] (n : Int) ∈ [9223372036854775807, -9223372036854775808, 4611686018427387904, 9223372036854775806, 4294967296, -1000, 1000, (16 : Int)] := by decide
      exact this n hn
    · rw [if_neg h1]
      obtain ⟨y, a2, s2, e2, y0, y1, _, hc2⟩ := pick_ok hc 14
      have := y1 (by omega)
      rw [e2]
      simp only [Option.bind_some]
      rw [wrap64_id (by omega) (by omega)]
      exact ⟨_, _, _, rfl, small_raw (by omega) (by omega), hc2⟩

theorem mx_le {x y : Int} : x ≤ mx x y ∧ y ≤ mx x y ∧ (mx x y = x ∨ mx x y = y) := by unfold mx; split <;> omega
theorem mn_le {x y : Int} : mn x y ≤ x ∧ mn x y ≤ y ∧ (mn x y = x ∨ mn x y = y) := by unfold mn; split <;> omega

/-- At most n, and at most the code's length allows. -/
theorem size_ok {c : List Int} {a s : Int} {m : Nat} (h : Cu c a s m) (n : Int) (h0 : 0 ≤ n) (h1 : n ≤ 1000) (hm : m ≤ 100000000000 := by omega) :
    ∃ x a' s', spec_l01Cur_size.f c a s n = some (x, a', s') ∧ 0 ≤ x ∧ x ≤ n ∧ Cu c a' s' (m + 1) := by
  replace hm : m ≤ 100000000000 := hm
  have hl := h.code.len
  obtain ⟨x, a', s', e, x0, x1, x2, hc⟩ := pick_ok h (wrap64 ((mn n (wrap64 (1 + (wrap64 ((c.length : Int) / 8))))) + 1))
  have w1 : wrap64 ((c.length : Int) / 8) = (c.length : Int) / 8 := wrap64_id (by omega) (by omega)
  have w2 : wrap64 (1 + (c.length : Int) / 8) = 1 + (c.length : Int) / 8 := wrap64_id (by omega) (by omega)
  have hmn := @mn_le n (1 + (c.length : Int) / 8)
  have w3 : wrap64 (mn n (1 + (c.length : Int) / 8) + 1) = mn n (1 + (c.length : Int) / 8) + 1 := wrap64_id (by omega) (by omega)
  rw [w1, w2, w3] at x1 x2
  unfold spec_l01Cur_size.f
  rw [e]
  refine ⟨x, a', s', rfl, x0, ?_, hc⟩
  by_cases h2 : 2 ≤ mn n (1 + (c.length : Int) / 8) + 1
  · have := x1 h2; omega
  · have := x2 (by omega); omega

/-- A label: one of sixteen, or anything that 'raw' hands out. -/
theorem label_ok {c : List Int} {a s : Int} {m : Nat} (h : Cu c a s m) (n : Int) (l : List Int) (hm : m ≤ 10000000000 := by omega) :
    ∃ x a' s', spec_l01Cur_label.f c a s n l = some (x, a', s') ∧ x ∈ rawVals ∧ Cu c a' s' (m + 3) := by
  replace hm : m ≤ 10000000000 := hm
  obtain ⟨b, a1, s1, e1, hc⟩ := once_ok h 12
  unfold spec_l01Cur_label.f
  rw [e1]
  simp only [Option.bind_some]
  cases b with
  | true =>
    obtain ⟨x, a2, s2, e2, hx, hc2⟩ := raw_ok hc
    rw [if_pos rfl, e2]
    exact ⟨_, _, _, rfl, hx, hc2⟩
  | false =>
    obtain ⟨x, a2, s2, e2, x0, x1, x2, hc2⟩ := pick_ok hc (mx 1 (mn 16 n))
    rw [if_neg (by decide), e2]
    have h1 := @mx_le 1 (mn 16 n)
    have h2 := @mn_le 16 n
    refine ⟨_, _, _, rfl, small_raw (by omega) ?_, hc2.mono (by omega)⟩
    by_cases h3 : 2 ≤ mx 1 (mn 16 n)
    · have := x1 h3; omega
    · have := x2 (by omega); omega
/-- The law's input as the row reads it. -/
theorem code_of {l : List Int} (hb : ∀ x ∈ l, (Lit.int .u8 x).wf = true) (h : laws_big.f l = some false) : Code l := by
  unfold laws_big.f at h
  refine ⟨fun x hx => ?_, ?_⟩
  · have := hb x hx
    simp [Lit.wf, IntKind.min, IntKind.max, IntKind.signed, IntKind.bits] at this
    omega
  · have := Option.some.inj h
    simp at this
    omega
end Go.Proofs.Ytjhfjnknajhanaa.Q

namespace Go.Proofs.Ytjhfjnknajhanaa.P
open Go.RowKit Go.Proofs.YtjhfjnknajhanaaW.PrintWords Go.Proofs.YtjhfjnknajhanaaW.PrintLast Go.Proofs.YtjhfjnknajhanaaW.PrintMore
attribute [local go_sem] max2_int min2_int max_two min_two max_three min_three max_four min_four   -- for this text's walks alone
set_option linter.unusedVariables false
set_option linter.unusedSimpArgs false

/-! ### impl_LatOk: function 33 -/
def impl_LatOk.f (k : Nat) (a0_0 : Int) (l0_1 : List Int) : Option (Bool) := (impl_isLat.f k a0_0 l0_1).bind fun t102 => (some t102)
theorem impl_LatOk.mono : ∀ a0 a1 k, LeO (impl_LatOk.f k a0 a1) (impl_LatOk.f (k + 1) a0 a1) := by
 intro a0 a1 k
 unfold impl_LatOk.f
 repeat' first
   | (with_reducible exact impl_isLat.mono _ _ _)
   | (with_reducible exact LeO.refl _)
   | (with_reducible exact LeO.none _)
   | (with_reducible refine LeO.ite ?_ ?_)
   | (with_reducible refine LeO.bind ?_ (fun _ => ?_))
   | exact impl_isLat.mono _ _ _
   | exact LeO.none _
   | refine LeO.ite ?_ ?_
   | refine LeO.bind ?_ (fun _ => ?_)

end Go.Proofs.Ytjhfjnknajhanaa.P

/- Lattices: what the program and the reference take for valid is the same. -/
namespace Go.Proofs.Ytjhfjnknajhanaa.Q
open Go.RowKit Go.Proofs.Ytjhfjnknajhanaa.P Go.Proofs.YtjhfjnknajhanaaW.PrintWords Go.Proofs.YtjhfjnknajhanaaW.PrintLast Go.Proofs.YtjhfjnknajhanaaW.PrintMore

theorem succ_w {i : Nat} (h : i < 4611686018427387904) : wrap64 ((i : Int) + 1) = ((i + 1 : Nat) : Int) := by
  rw [wrap64_id (by omega) (by omega)]; omega
theorem rd_nat (l : List Int) (i : Nat) : rd l (i : Int) = l.getD i 0 := rfl
theorem bit_eq (l : List Int) (i j : Nat) (hj : j < 1000) : spec_l01Bit.f (rd l (i : Int)) (j : Int) = some (bitAt l i j) := by
  unfold spec_l01Bit.f
  rw [u64_id (x := (j : Int)) (by omega) (by omega), if_pos (by omega)]
  rfl
theorem le_eq (l : List Int) (n : Int) (i j : Nat) (hi : i < l.length) : impl_Lat_le.f n l (i : Int) (j : Int) = some (bitAt l i j) := by
  have h0 : (0 : Int) ≤ i := by omega
  have h1 : (i : Int) < l.length := by omega
  have h2 : (0 : Int) ≤ j := by omega
  unfold impl_Lat_le.f
  rw [if_pos h0, if_pos h1, if_pos h2]
  rfl

/-- p of all from i to below n. -/
def allFrom (p : Nat → Bool) (i n : Nat) : Bool := (List.range' i (n - i)).all p
theorem allFrom_end (p : Nat → Bool) (n : Nat) : allFrom p n n = true := by simp [allFrom]
theorem allFrom_step (p : Nat → Bool) {i n : Nat} (h : i < n) : allFrom p i n = (p i && allFrom p (i + 1) n) := by
  unfold allFrom
  obtain ⟨d, rfl⟩ : ∃ d, n = i + (d + 1) := ⟨n - i - 1, by omega⟩
  rw [show i + (d + 1) - i = d + 1 by omega, show i + (d + 1) - (i + 1) = d by omega, List.range'_succ]
  rfl
theorem allFrom_iff (p : Nat → Bool) (i n : Nat) : allFrom p i n = true ↔ ∀ j, i ≤ j → j < n → p j = true := by
  unfold allFrom
  simp only [List.all_eq_true, List.mem_range'_1]
  exact ⟨fun h j h1 h2 => h j ⟨h1, by omega⟩, fun h j hj => h j hj.1 (by omega)⟩
theorem allFrom_eq (p : Nat → Bool) (n : Nat) : (List.range n).all p = allFrom p 0 n := by
  rw [Bool.eq_iff_iff, allFrom_iff]
  simp

/-- From cur the code comes to next where b is true, and else to bad. -/
def Stage {α : Type} (b : Bool) (bad : α) (next cur : Nat → Option α) : Prop := (b = true → ∀ v, Ev next v → Ev cur v) ∧ (b = false → Ev cur bad)
theorem Stage.trans {α : Type} {b c : Bool} {bad : α} {x y z : Nat → Option α} (h : Stage b bad y x) (k : Stage c bad z y) : Stage (b && c) bad z x := by
  refine ⟨fun hb v hv => ?_, fun hb => ?_⟩
  · obtain ⟨h1, h2⟩ := Bool.and_eq_true_iff.mp hb
    exact h.1 h1 v (k.1 h2 v hv)
  · cases hb1 : b with
    | false => exact h.2 hb1
    | true => rw [hb1] at hb; exact h.1 hb1 _ (k.2 (by simpa using hb))
theorem Stage.value {b : Bool} {x y : Nat → Option Bool} (h : Stage b false y x) {v : Bool} (hv : Ev y v) : Ev x (b && v) := by
  cases hb : b with
  | true => exact h.1 hb v hv
  | false => exact h.2 hb
theorem Stage.refl {α : Type} {bad : α} (x : Nat → Option α) : Stage true bad x x := ⟨fun _ _ h => h, fun h => absurd h (by decide)⟩
/-- A loop that goes on where p holds. -/
theorem loop_stage {α : Type} {bad : α} {g : Nat → Nat → Option α} (p : Nat → Bool) {n : Nat} (h : ∀ i, i < n → Stage (p i) bad (fun k => g k (i + 1)) (fun k => g k i)) (d : Nat) :
    ∀ i, i + d = n → Stage (allFrom p i n) bad (fun k => g k n) (fun k => g k i) := by
  induction d with
  | zero =>
    intro i hi
    obtain rfl : i = n := by omega
    rw [allFrom_end]
    exact Stage.refl _
  | succ d ih =>
    intro i hi
    rw [allFrom_step p (by omega)]
    exact (h i (by omega)).trans (ih (i + 1) (by omega))
theorem Stage.step {α : Type} {b : Bool} {bad : α} {next cur body : Nat → Option α} (h : ∀ k, cur (k + 1) = body k) (hs : Stage b bad next body) : Stage b bad next cur :=
  ⟨fun hb v hv => Ev.step h (hs.1 hb v hv), fun hb => Ev.step h (hs.2 hb)⟩
theorem Stage.ite {α : Type} {c : Prop} [Decidable c] {b : Bool} {bad : α} {next f g : Nat → Option α} (h : c) (hf : Stage b bad next f) : Stage b bad next (fun k => if c then f k else g k) :=
  ⟨fun hb v hv => Ev.congr (fun _ => if_pos h) (hf.1 hb v hv), fun hb => Ev.congr (fun _ => if_pos h) (hf.2 hb)⟩
theorem Stage.ite' {α : Type} {c : Prop} [Decidable c] {b : Bool} {bad : α} {next f g : Nat → Option α} (h : ¬ c) (hg : Stage b bad next g) : Stage b bad next (fun k => if c then f k else g k) :=
  ⟨fun hb v hv => Ev.congr (fun _ => if_neg h) (hg.1 hb v hv), fun hb => Ev.congr (fun _ => if_neg h) (hg.2 hb)⟩
theorem Stage.some {α β : Type} {a : α} {b : Bool} {bad : β} {next : Nat → Option β} {f : Nat → α → Option β} {o : Option α} (ho : o = .some a) (hf : Stage b bad next (fun k => f k a)) : Stage b bad next (fun k => o.bind (f k)) :=
  ⟨fun hb v hv => Ev.congr (fun _ => by rw [ho]; rfl) (hf.1 hb v hv), fun hb => Ev.congr (fun _ => by rw [ho]; rfl) (hf.2 hb)⟩
theorem Stage.bind {α β : Type} {a : α} {b : Bool} {bad : β} {next : Nat → Option β} {f : Nat → α → Option β} {o : Nat → Option α} (ho : Ev o a) (hf : Stage b bad next (fun k => f k a)) : Stage b bad next (fun k => (o k).bind (f k)) :=
  ⟨fun hb v hv => Ev.bind ho (hf.1 hb v hv), fun hb => Ev.bind ho (hf.2 hb)⟩
theorem Stage.bad {α : Type} {bad : α} {next cur : Nat → Option α} (h : Ev cur bad) : Stage false bad next cur := ⟨fun h => absurd h (by decide), fun _ => h⟩
theorem Stage.none {α : Type} {bad : α} (next : Nat → Option α) : Stage false bad next (fun _ => .some bad) := Stage.bad (Ev.now _)
theorem Stage.eq {α : Type} {b c : Bool} {bad : α} {next cur : Nat → Option α} (h : b = c) (hs : Stage b bad next cur) : Stage c bad next cur := h ▸ hs
theorem ite_ev {α : Type} {c : Prop} [Decidable c] {f g : Nat → Option α} {r : α} (h : c) (hf : Ev f r) : Ev (fun k => if c then f k else g k) r :=
  Ev.congr (fun _ => if_pos h) hf
theorem ite_ev' {α : Type} {c : Prop} [Decidable c] {f g : Nat → Option α} {r : α} (h : ¬ c) (hg : Ev g r) : Ev (fun k => if c then f k else g k) r :=
  Ev.congr (fun _ => if_neg h) hg
theorem some_ev {α β : Type} {a : α} {f : Nat → α → Option β} {r : β} {o : Option α} (ho : o = some a) (h : Ev (fun k => f k a) r) : Ev (fun k => o.bind (f k)) r :=
  Ev.congr (fun k => by rw [ho]; rfl) h
theorem tt : true = true := rfl
theorem ft : ¬ (false = true) := by decide

/-! ### The order -/
def trans3 (l : List Int) (a b c : Nat) : Bool := !(bitAt l a b && bitAt l b c && !bitAt l a c)
def anti2 (l : List Int) (a b : Nat) : Bool := !(!(a == b) && bitAt l a b && bitAt l b a)
def ordA (l : List Int) (n a : Nat) : Bool := allFrom (fun b => anti2 l a b && allFrom (trans3 l a b) 0 n) 0 n
def ordB (l : List Int) (n : Nat) : Bool := allFrom (fun a => bitAt l a a && ordA l n a) 0 n

section impl
variable {l : List Int} {n : Nat} (hl : n ≤ l.length) (hn : n ≤ 64)
include hl hn
theorem io_l2 (a b : Nat) (ha : a < n) (hb : b < n) :
    Stage (allFrom (trans3 l a b) 0 n) false (fun k => impl_Lat_isOrder.l1 k a n a n ((b + 1 : Nat) : Int) n l) (fun k => impl_Lat_isOrder.l2 k a b n a n b n 0 n l) := by
  refine Stage.eq (Bool.and_true _) (Stage.trans (loop_stage (g := fun k c => impl_Lat_isOrder.l2 k a b n a n b n (c : Nat) n l) (trans3 l a b) ?_ n 0 (by omega)) ?_)
  · intro c hc
    refine Stage.step (fun k => by rw [impl_Lat_isOrder.l2]) (Stage.ite (by omega) ?_)
    rw [succ_w (by omega)]
    unfold trans3
    refine Stage.some (le_eq l n a b (by omega)) ?_
    cases bitAt l a b with
    | false => exact Stage.ite' ft (Stage.refl _)
    | true =>
      refine Stage.ite tt (Stage.some (le_eq l n b c (by omega)) ?_)
      cases bitAt l b c with
      | false => exact Stage.ite' ft (Stage.refl _)
      | true =>
        refine Stage.ite tt (Stage.some (le_eq l n a c (by omega)) ?_)
        cases bitAt l a c with
        | true => exact Stage.ite tt (Stage.refl _)
        | false => exact Stage.ite' ft (Stage.none _)
  · refine Stage.step (fun k => by rw [impl_Lat_isOrder.l2]) (Stage.ite' (by omega) ?_)
    rw [succ_w (by omega)]
    exact Stage.refl _
theorem io_l1 (a : Nat) (ha : a < n) :
    Stage (ordA l n a) false (fun k => impl_Lat_isOrder.l0 k n ((a + 1 : Nat) : Int) n l) (fun k => impl_Lat_isOrder.l1 k a n a n 0 n l) := by
  refine Stage.eq (Bool.and_true _) (Stage.trans (loop_stage (g := fun k b => impl_Lat_isOrder.l1 k a n a n (b : Nat) n l) (fun b => anti2 l a b && allFrom (trans3 l a b) 0 n) ?_ n 0 (by omega)) ?_)
  · intro b hb
    have h2 : Stage (allFrom (trans3 l a b) 0 n) false (fun k => impl_Lat_isOrder.l1 k a n a n ((b + 1 : Nat) : Int) n l) (fun k => impl_Lat_isOrder.j2 k a b n a n b false n l) :=
      Stage.step (fun k => by rw [impl_Lat_isOrder.j2]) (Stage.ite' ft (io_l2 hl hn a b ha hb))
    refine Stage.step (fun k => by rw [impl_Lat_isOrder.l1]) (Stage.ite (by omega) ?_)
    by_cases hab : (a : Int) = b
    · have hne : (a == b) = true := by simp; omega
      refine Stage.ite hab (Stage.eq ?_ h2)
      simp [anti2, hne]
    · have hne : (a == b) = false := by simp; omega
      refine Stage.ite' hab (Stage.some (le_eq l n a b (by omega)) ?_)
      unfold anti2
      rw [hne]
      cases bitAt l a b with
      | false => exact Stage.ite' ft h2
      | true =>
        refine Stage.ite tt (Stage.some (le_eq l n b a (by omega)) ?_)
        cases bitAt l b a with
        | false => exact h2
        | true => exact Stage.step (fun k => by rw [impl_Lat_isOrder.j2]) (Stage.ite tt (Stage.none _))
  · refine Stage.step (fun k => by rw [impl_Lat_isOrder.l1]) (Stage.ite' (by omega) ?_)
    rw [succ_w (by omega)]
    exact Stage.refl _
theorem io_f : Ev (fun k => impl_Lat_isOrder.f k n l) (ordB l n) := by
  unfold impl_Lat_isOrder.f
  refine (Bool.and_true (ordB l n)) ▸ Stage.value (loop_stage (g := fun k a => impl_Lat_isOrder.l0 k n (a : Nat) n l) (fun a => bitAt l a a && ordA l n a) ?_ n 0 (by omega)) (v := true) ?_
  · intro a ha
    refine Stage.step (fun k => by rw [impl_Lat_isOrder.l0]) (Stage.ite (by omega) (Stage.some (le_eq l n a a (by omega)) ?_))
    cases bitAt l a a with
    | true => exact Stage.ite tt (io_l1 hl hn a ha)
    | false => exact Stage.ite' ft (Stage.none _)
  · exact Ev.step (fun k => by rw [impl_Lat_isOrder.l0]) (ite_ev' (by omega) (Ev.now _))
end impl

/-! ### Bounds -/
theorem und_eq (l : List Int) (n : Int) (up : Bool) (a c : Nat) (ha : a < l.length) (hc : c < l.length) (hl : l.length ≤ 64) : spec_l01Side.f n l a c up = some (und l up a c) := by
  unfold spec_l01Side.f und
  cases up with
  | true => rw [if_pos tt, if_pos (by omega), if_pos (by omega), bit_eq l a c (by omega)]; rfl
  | false => rw [if_neg ft, if_pos (by omega), if_pos (by omega), bit_eq l c a (by omega)]; rfl
section bound
variable {l : List Int} (hl : l.length ≤ 64) {a b : Nat} (ha : a < l.length) (hb : b < l.length) (up : Bool)
include hl ha hb
/-- From d on all that the inner loop asks. -/
def leastFrom (l : List Int) (up : Bool) (a b c d : Nat) : Bool := allFrom (fun d => !(und l up a d && und l up b d && !und l up c d)) d l.length
theorem sb_l1 (c : Nat) (hc : c < l.length) (d : Nat) : ∀ (e : Nat) (x : Bool) (v : Int), e + d = l.length →
    Ev (fun k => if (x && leastFrom l up a b c e) = true then some (c : Int) else spec_l01Bound.l0 k a b up ((c + 1 : Nat) : Int) l.length l) v →
    Ev (fun k => spec_l01Bound.l1 k a b up c x e l.length l) v := by
  have hno : ∀ (e : Nat) (v : Int), Ev (fun k => spec_l01Bound.l0 k a b up ((c + 1 : Nat) : Int) l.length l) v → Ev (fun k => spec_l01Bound.l1 k a b up c false e l.length l) v := by
    intro e v h
    have hj : Ev (fun k => spec_l01Bound.j3 k a b up c false e false l.length l) v := by
      refine Ev.step (fun k => by rw [spec_l01Bound.j3]) (ite_ev' ft (ite_ev' ft ?_))
      rw [succ_w (by omega)]
      exact h
    refine Ev.step (fun k => by rw [spec_l01Bound.l1]) ?_
    by_cases he : (e : Int) < l.length
    · exact ite_ev he hj
    · exact ite_ev' he hj
  induction d with
  | zero =>
    intro e x v he h
    obtain rfl : e = l.length := by omega
    have hz : leastFrom l up a b c l.length = true := allFrom_end _ _
    rw [hz, Bool.and_true] at h
    cases x with
    | false => exact hno _ v (Ev.congr (fun _ => (if_neg ft).symm) h)
    | true =>
      refine Ev.step (fun k => by rw [spec_l01Bound.l1]) (ite_ev' (by omega) ?_)
      refine Ev.step (fun k => by rw [spec_l01Bound.j3]) (ite_ev' ft (ite_ev tt ?_))
      exact Ev.congr (fun _ => (if_pos tt).symm) h
  | succ d ih =>
    intro e x v he h
    cases x with
    | false => exact hno e v (Ev.congr (fun _ => (if_neg ft).symm) h)
    | true =>
      have hs : leastFrom l up a b c e = (!(und l up a e && und l up b e && !und l up c e) && leastFrom l up a b c (e + 1)) := allFrom_step _ (by omega)
      refine Ev.step (fun k => by rw [spec_l01Bound.l1]) (ite_ev (by omega) ?_)
      refine Ev.step (fun k => by rw [spec_l01Bound.j3]) (ite_ev tt ?_)
      rw [succ_w (by omega)]
      refine some_ev (und_eq l _ up a e ha (by omega) hl) ?_
      cases h1 : und l up a e with
      | false =>
        rw [hs, h1] at h
        exact ite_ev' ft (ih (e + 1) true v (by omega) h)
      | true =>
        refine ite_ev tt (some_ev (und_eq l _ up b e hb (by omega) hl) ?_)
        cases h2 : und l up b e with
        | false =>
          rw [hs, h1, h2] at h
          exact ite_ev' ft (ih (e + 1) true v (by omega) h)
        | true =>
          refine ite_ev tt (some_ev (und_eq l _ up c e hc (by omega) hl) ?_)
          cases h3 : und l up c e with
          | true =>
            rw [hs, h1, h2, h3] at h
            exact ite_ev tt (ih (e + 1) true v (by omega) h)
          | false =>
            rw [hs, h1, h2, h3] at h
            exact ite_ev' ft (hno _ v (Ev.congr (fun _ => (if_neg (by simp)).symm) h))
theorem sb_l0 (d : Nat) : ∀ c, c + d = l.length → Ev (fun k => spec_l01Bound.l0 k a b up (c : Nat) l.length l) (match (List.range' c d).find? (isBd l up a b) with | some x => (x : Int) | none => -1) := by
  induction d with
  | zero =>
    intro c hc
    show Ev _ (-1 : Int)
    exact Ev.step (fun k => by rw [spec_l01Bound.l0]) (ite_ev' (by omega) (Ev.now _))
  | succ d ih =>
    intro c hc
    have hcl : c < l.length := by omega
    have hall : leastFrom l up a b c 0 = (List.range l.length).all fun d => !(und l up a d && und l up b d && !und l up c d) := (allFrom_eq _ _).symm
    have hi : isBd l up a b c = (und l up a c && und l up b c && leastFrom l up a b c 0) := by rw [hall]; rfl
    have key : ∀ x, x = (und l up a c && und l up b c) → Ev (fun k => spec_l01Bound.j1 k a b up c x l.length l) (match (List.range' c (d + 1)).find? (isBd l up a b) with | some x => (x : Int) | none => -1) := by
      intro x hx
      refine Ev.step (f := fun k => spec_l01Bound.l1 k a b up c x ((0 : Nat) : Int) l.length l) (fun k => by rw [spec_l01Bound.j1]; rfl) (sb_l1 hl ha hb up c hcl l.length 0 x _ (by omega) ?_)
      rw [List.range'_succ, List.find?_cons, hi, ← hx]
      cases x && leastFrom l up a b c 0 with
      | true => exact ite_ev tt (Ev.now _)
      | false => exact ite_ev' ft (ih (c + 1) (by omega))
    refine Ev.step (fun k => by rw [spec_l01Bound.l0]) (ite_ev (by omega) ?_)
    refine some_ev (und_eq l _ up a c ha hcl hl) ?_
    cases h1 : und l up a c with
    | false => exact ite_ev' ft (key false (by rw [h1]; rfl))
    | true => exact ite_ev tt (some_ev (und_eq l _ up b c hb hcl hl) (key _ (by rw [h1]; rfl)))
theorem bd_spec : Ev (fun k => spec_l01Bound.f k l.length l a b up) (bdv l a b up) := by
  have h := sb_l0 hl ha hb up l.length 0 (by omega)
  unfold spec_l01Bound.f bdv
  rw [List.range_eq_range']
  exact h
theorem bd_impl : Ev (fun k => impl_Lat_bound.f k l.length l a b up) (bdv l a b up) :=
  ⟨0, fun k _ => by unfold impl_Lat_bound.f; rw [if_pos ⟨by omega, by omega, by omega, by omega, rfl, by omega⟩]; simp⟩
end bound
theorem bdv_symm (l : List Int) (a b : Nat) (up : Bool) : bdv l a b up = bdv l b a up := by
  have : isBd l up a b = isBd l up b a := by
    funext c
    unfold isBd
    rw [Bool.and_comm (und l up a c)]
    congr 1
    congr 1
    funext d
    rw [Bool.and_comm (und l up a d)]
  unfold bdv
  rw [this]

/-! ### Valid lattices -/
/-- Every two labels have a join and a meet. -/
def bdsB (l : List Int) (n : Nat) : Bool := allFrom (fun a => allFrom (fun b => decide (0 ≤ bdv l a b true) && decide (0 ≤ bdv l a b false)) 0 n) 0 n
def smallB (l : List Int) (n : Nat) : Bool := allFrom (fun a => decide (l.getD a 0 < 2 ^ n)) 0 n
def latB (N : Int) (l : List Int) : Bool := decide (1 ≤ N ∧ N ≤ 16 ∧ (l.length : Int) = N) && (smallB l l.length && (ordB l l.length && bdsB l l.length))

theorem shr_zero {x : Int} {n : Nat} (hx : 0 ≤ x) (hn : n ≤ 64) : (shr .u64 x (n : Int) = 0) ↔ x < 2 ^ n := by
  show x / 2 ^ (min (n : Int).toNat 64) = 0 ↔ x < 2 ^ n
  rw [show min (n : Int).toNat 64 = n by omega]
  have hp : (0 : Int) < 2 ^ n := Int.pow_pos (by decide)
  constructor
  · intro h
    have := Int.lt_ediv_add_one_mul_self x hp
    rw [h] at this
    omega
  · exact fun h => Int.ediv_eq_zero_of_lt hx h
theorem pow_ev (n : Nat) (hn : n ≤ 63) : ∀ d i : Nat, i + d = n → ∀ x : Int, x = 2 ^ i → Ev (fun k => spec_l01Power.l0 k (d : Nat) x) (2 ^ n) := by
  intro d
  induction d with
  | zero =>
    intro i hi x hx
    obtain rfl : i = n := by omega
    rw [hx]
    exact Ev.step (fun k => by rw [spec_l01Power.l0]) (ite_ev' (by omega) (Ev.now _))
  | succ d ih =>
    intro i hi x hx
    have h1 : (2 : Int) ^ (i + 1) = 2 ^ i * 2 := Int.pow_succ ..
    have h2 : (2 : Int) ^ (i + 1) ≤ 2 ^ 63 := by exact_mod_cast Nat.pow_le_pow_right (n := 2) (by decide) (show i + 1 ≤ 63 by omega)
    have h3 : (0 : Int) < 2 ^ i := Int.pow_pos (by decide)
    refine Ev.step (fun k => by rw [spec_l01Power.l0]) (ite_ev (by omega) ?_)
    rw [wrap64_id (by omega) (by omega), u64_id (by omega) (by omega), show ((d + 1 : Nat) : Int) - 1 = (d : Nat) by omega]
    exact ih (i + 1) (by omega) _ (by omega)
theorem power_ev (n : Nat) (hn : n ≤ 63) : Ev (fun k => spec_l01Power.f k (n : Nat)) (2 ^ n) := pow_ev n hn n 0 (by omega) 1 (by simp)

section valid
variable {l : List Int} (hn : l.length ≤ 16) (hp : ∀ x ∈ l, 0 ≤ x)
include hn
theorem il_l2 (a : Nat) (ha : a < l.length) :
    Stage (allFrom (fun b => decide (0 ≤ bdv l a b true) && decide (0 ≤ bdv l a b false)) 0 l.length) false (fun k => impl_isLat.l1 k l.length ((a + 1 : Nat) : Int) l.length l) (fun k => impl_isLat.l2 k a l.length a l.length 0 l.length l) := by
  refine Stage.eq (Bool.and_true _) (Stage.trans (loop_stage (g := fun k b => impl_isLat.l2 k a l.length a l.length (b : Nat) l.length l) (fun b => decide (0 ≤ bdv l a b true) && decide (0 ≤ bdv l a b false)) ?_ l.length 0 (by omega)) ?_)
  · intro b hb
    refine Stage.step (fun k => by rw [impl_isLat.l2]) (Stage.ite (by omega) ?_)
    rw [succ_w (by omega)]
    refine Stage.bind (bd_impl (by omega) ha hb true) ?_
    by_cases h1 : bdv l a b true < 0
    · exact Stage.ite h1 (Stage.eq (by rw [decide_eq_false (by omega)]; rfl) (Stage.none _))
    · refine Stage.ite' h1 (Stage.bind (bd_impl (by omega) ha hb false) ?_)
      by_cases h2 : bdv l a b false < 0
      · exact Stage.ite h2 (Stage.eq (by rw [decide_eq_false (p := 0 ≤ bdv l a b false) (by omega)]; simp) (Stage.none _))
      · exact Stage.ite' h2 (Stage.eq (by rw [decide_eq_true (p := 0 ≤ bdv l a b true) (by omega), decide_eq_true (p := 0 ≤ bdv l a b false) (by omega)]; rfl) (Stage.refl _))
  · refine Stage.step (fun k => by rw [impl_isLat.l2]) (Stage.ite' (by omega) ?_)
    rw [succ_w (by omega)]
    exact Stage.refl _
theorem il_l1 : Ev (fun k => impl_isLat.l1 k l.length 0 l.length l) (bdsB l l.length) := by
  refine (Bool.and_true (bdsB l l.length)) ▸ Stage.value (loop_stage (g := fun k a => impl_isLat.l1 k l.length (a : Nat) l.length l) (fun a => allFrom (fun b => decide (0 ≤ bdv l a b true) && decide (0 ≤ bdv l a b false)) 0 l.length) ?_ l.length 0 (by omega)) (v := true) ?_
  · intro a ha
    exact Stage.step (fun k => by rw [impl_isLat.l1]) (Stage.ite (by omega) (il_l2 hn a ha))
  · exact Ev.step (fun k => by rw [impl_isLat.l1]) (ite_ev' (by omega) (Ev.now _))
include hp
omit hn in
theorem getD_nonneg (i : Nat) : 0 ≤ l.getD i 0 := by
  rw [List.getD_eq_getElem?_getD]
  cases hi : l[i]? with
  | none => simp
  | some x => simpa using hp x (List.mem_of_getElem? hi)
theorem il_l0 : Ev (fun k => impl_isLat.l0 k l l.length 0 l.length l) (smallB l l.length && (ordB l l.length && bdsB l l.length)) := by
  refine Stage.value (loop_stage (g := fun k a => impl_isLat.l0 k l l.length (a : Nat) l.length l) (fun a => decide (l.getD a 0 < 2 ^ l.length)) ?_ l.length 0 (by omega)) ?_
  · intro a ha
    refine Stage.step (fun k => by rw [impl_isLat.l0]) (Stage.ite (by omega) (Stage.ite (by omega) (Stage.ite (by omega) (Stage.ite (by omega) ?_))))
    rw [succ_w (by omega), rd_nat]
    have h := shr_zero (getD_nonneg hp a) (show l.length ≤ 64 by omega)
    by_cases h1 : shr .u64 (l.getD a 0) (l.length : Nat) = 0
    · exact Stage.ite h1 (Stage.eq (decide_eq_true (h.mp h1)).symm (Stage.refl _))
    · exact Stage.ite' h1 (Stage.eq (decide_eq_false (fun h2 => h1 (h.mpr h2))).symm (Stage.none _))
  · refine Ev.step (fun k => by rw [impl_isLat.l0]) (ite_ev' (by omega) (Ev.bind (io_f (Nat.le_refl _) (by omega)) ?_))
    cases ordB l l.length with
    | true => exact ite_ev tt (il_l1 hn)
    | false => exact ite_ev' ft (Ev.now _)
end valid
theorem in_eq (a b c : Int) : impl_in.f a b c = some (decide (b ≤ a ∧ a ≤ c)) := by
  unfold impl_in.f
  by_cases h : b ≤ a
  · rw [if_pos h]; simp [h]
  · rw [if_neg h]; simp [h]
theorem isLat_ev (N : Int) (l : List Int) (hp : ∀ x ∈ l, 0 ≤ x) : Ev (fun k => impl_isLat.f k N l) (latB N l) := by
  unfold impl_isLat.f latB
  refine some_ev (in_eq _ _ _) ?_
  by_cases h : 1 ≤ N ∧ N ≤ 16
  · rw [decide_eq_true h]
    by_cases h2 : (l.length : Int) = N
    · subst h2
      rw [decide_eq_true (p := _ ∧ _ ∧ _) ⟨h.1, h.2, rfl⟩, Bool.true_and]
      refine ite_ev tt (Ev.step (fun k => by rw [impl_isLat.j0]) (ite_ev' (by simp) ?_))
      exact il_l0 (by omega) hp
    · rw [decide_eq_false (p := _ ∧ _ ∧ _) (fun h3 => h2 h3.2.2), Bool.false_and]
      exact ite_ev tt (Ev.step (fun k => by rw [impl_isLat.j0]) (ite_ev (by simpa using h2) (Ev.now _)))
  · rw [decide_eq_false h, decide_eq_false (p := _ ∧ _ ∧ _) (fun h3 => h ⟨h3.1, h3.2.1⟩), Bool.false_and]
    exact ite_ev' ft (Ev.step (fun k => by rw [impl_isLat.j0]) (ite_ev tt (Ev.now _)))

/-! ### The reference -/
section spec
variable {l : List Int} (hn : l.length ≤ 16)
include hn
theorem so_l2 (a b : Nat) (ha : a < l.length) (hb : b < l.length) :
    Stage (allFrom (trans3 l a b) 0 l.length) false (fun k => spec_LatOk.l1 k a ((b + 1 : Nat) : Int) l.length l) (fun k => spec_LatOk.l2 k a b 0 l.length l) := by
  refine Stage.eq (Bool.and_true _) (Stage.trans (loop_stage (g := fun k c => spec_LatOk.l2 k a b (c : Nat) l.length l) (trans3 l a b) ?_ l.length 0 (by omega)) ?_)
  · intro c hc
    refine Stage.step (fun k => by rw [spec_LatOk.l2]) (Stage.ite (by omega) (Stage.ite (by omega) (Stage.ite (by omega) ?_)))
    rw [succ_w (by omega)]
    unfold trans3
    refine Stage.some (bit_eq l a b (by omega)) ?_
    cases bitAt l a b with
    | false => exact Stage.ite' ft (Stage.refl _)
    | true =>
      refine Stage.ite tt (Stage.ite (by omega) (Stage.ite (by omega) (Stage.some (bit_eq l b c (by omega)) ?_)))
      cases bitAt l b c with
      | false => exact Stage.ite' ft (Stage.refl _)
      | true =>
        refine Stage.ite tt (Stage.some (bit_eq l a c (by omega)) ?_)
        cases bitAt l a c with
        | true => exact Stage.ite tt (Stage.refl _)
        | false => exact Stage.ite' ft (Stage.none _)
  · refine Stage.step (fun k => by rw [spec_LatOk.l2]) (Stage.ite' (by omega) ?_)
    rw [succ_w (by omega)]
    exact Stage.refl _
theorem so_l1 (a : Nat) (ha : a < l.length) :
    Stage (ordA l l.length a) false (fun k => spec_LatOk.l0 k ((a + 1 : Nat) : Int) l.length l) (fun k => spec_LatOk.l1 k a 0 l.length l) := by
  refine Stage.eq (Bool.and_true _) (Stage.trans (loop_stage (g := fun k b => spec_LatOk.l1 k a (b : Nat) l.length l) (fun b => anti2 l a b && allFrom (trans3 l a b) 0 l.length) ?_ l.length 0 (by omega)) ?_)
  · intro b hb
    have h2 : Stage (allFrom (trans3 l a b) 0 l.length) false (fun k => spec_LatOk.l1 k a ((b + 1 : Nat) : Int) l.length l) (fun k => spec_LatOk.j4 k a b false l.length l) :=
      Stage.step (fun k => by rw [spec_LatOk.j4]) (Stage.ite' ft (so_l2 hn a b ha hb))
    refine Stage.step (fun k => by rw [spec_LatOk.l1]) (Stage.ite (by omega) ?_)
    by_cases hab : (a : Int) = b
    · have hne : (a == b) = true := by simp; omega
      refine Stage.ite hab (Stage.eq ?_ h2)
      simp [anti2, hne]
    · have hne : (a == b) = false := by simp; omega
      refine Stage.ite' hab (Stage.ite (by omega) (Stage.ite (by omega) (Stage.some (bit_eq l a b (by omega)) ?_)))
      unfold anti2
      rw [hne]
      cases bitAt l a b with
      | false => exact Stage.ite' ft h2
      | true =>
        refine Stage.ite tt (Stage.ite (by omega) (Stage.ite (by omega) (Stage.some (bit_eq l b a (by omega)) ?_)))
        cases bitAt l b a with
        | false => exact h2
        | true => exact Stage.step (fun k => by rw [spec_LatOk.j4]) (Stage.ite tt (Stage.none _))
  · refine Stage.step (fun k => by rw [spec_LatOk.l1]) (Stage.ite' (by omega) ?_)
    rw [succ_w (by omega)]
    exact Stage.refl _
theorem so_l0 : Stage (allFrom (fun a => bitAt l a a && (decide (l.getD a 0 < 2 ^ l.length) && ordA l l.length a)) 0 l.length) false (fun k => spec_LatOk.l3 k 0 l.length l) (fun k => spec_LatOk.l0 k 0 l.length l) := by
  refine Stage.eq (Bool.and_true _) (Stage.trans (loop_stage (g := fun k a => spec_LatOk.l0 k (a : Nat) l.length l) (fun a => bitAt l a a && (decide (l.getD a 0 < 2 ^ l.length) && ordA l l.length a)) ?_ l.length 0 (by omega)) ?_)
  · intro a ha
    refine Stage.step (fun k => by rw [spec_LatOk.l0]) (Stage.ite (by omega) (Stage.ite (by omega) (Stage.ite (by omega) (Stage.some (bit_eq l a a (by omega)) ?_))))
    cases bitAt l a a with
    | false => exact Stage.ite' ft (Stage.step (fun k => by rw [spec_LatOk.j2]) (Stage.ite tt (Stage.none _)))
    | true =>
      refine Stage.ite tt (Stage.bind (power_ev l.length (by omega)) ?_)
      rw [rd_nat]
      by_cases h : l.getD a 0 ≥ 2 ^ l.length
      · rw [decide_eq_true h, decide_eq_false (p := l.getD a 0 < 2 ^ l.length) (by omega)]
        exact Stage.step (fun k => by rw [spec_LatOk.j2]) (Stage.ite tt (Stage.none _))
      · rw [decide_eq_false h, decide_eq_true (p := l.getD a 0 < 2 ^ l.length) (by omega)]
        exact Stage.step (fun k => by rw [spec_LatOk.j2]) (Stage.ite' ft (so_l1 hn a ha))
  · exact Stage.step (fun k => by rw [spec_LatOk.l0]) (Stage.ite' (by omega) (Stage.refl _))
def bdsLow (l : List Int) (n : Nat) : Bool := allFrom (fun a => allFrom (fun b => decide (0 ≤ bdv l a b true) && decide (0 ≤ bdv l a b false)) 0 a) 0 n
theorem so_l4 (a : Nat) (ha : a < l.length) :
    Stage (allFrom (fun b => decide (0 ≤ bdv l a b true) && decide (0 ≤ bdv l a b false)) 0 a) false (fun k => spec_LatOk.l3 k ((a + 1 : Nat) : Int) l.length l) (fun k => spec_LatOk.l4 k a 0 l.length l) := by
  refine Stage.eq (Bool.and_true _) (Stage.trans (loop_stage (g := fun k b => spec_LatOk.l4 k a (b : Nat) l.length l) (fun b => decide (0 ≤ bdv l a b true) && decide (0 ≤ bdv l a b false)) ?_ a 0 (by omega)) ?_)
  · intro b hb
    refine Stage.step (fun k => by rw [spec_LatOk.l4]) (Stage.ite (by omega) ?_)
    rw [succ_w (by omega)]
    refine Stage.bind (bd_spec (by omega) ha (by omega) true) ?_
    by_cases h1 : bdv l a b true < 0
    · exact Stage.ite h1 (Stage.eq (by rw [decide_eq_false (by omega)]; rfl) (Stage.none _))
    · refine Stage.ite' h1 (Stage.bind (bd_spec (by omega) ha (by omega) false) ?_)
      by_cases h2 : bdv l a b false < 0
      · exact Stage.ite h2 (Stage.eq (by rw [decide_eq_false (p := 0 ≤ bdv l a b false) (by omega)]; simp) (Stage.none _))
      · exact Stage.ite' h2 (Stage.eq (by rw [decide_eq_true (p := 0 ≤ bdv l a b true) (by omega), decide_eq_true (p := 0 ≤ bdv l a b false) (by omega)]; rfl) (Stage.refl _))
  · refine Stage.step (fun k => by rw [spec_LatOk.l4]) (Stage.ite' (by omega) ?_)
    rw [succ_w (by omega)]
    exact Stage.refl _
theorem so_l3 : Ev (fun k => spec_LatOk.l3 k 0 l.length l) (bdsLow l l.length) := by
  refine (Bool.and_true (bdsLow l l.length)) ▸ Stage.value (loop_stage (g := fun k a => spec_LatOk.l3 k (a : Nat) l.length l) (fun a => allFrom (fun b => decide (0 ≤ bdv l a b true) && decide (0 ≤ bdv l a b false)) 0 a) ?_ l.length 0 (by omega)) (v := true) ?_
  · intro a ha
    exact Stage.step (fun k => by rw [spec_LatOk.l3]) (Stage.ite (by omega) (so_l4 hn a ha))
  · exact Ev.step (fun k => by rw [spec_LatOk.l3]) (ite_ev' (by omega) (Ev.now _))
end spec
/-- In an order a label is its own bound. -/
theorem bdv_self {l : List Int} {a : Nat} (ha : a < l.length) (hr : bitAt l a a = true) (up : Bool) : 0 ≤ bdv l a a up := by
  unfold bdv
  cases hf : (List.range l.length).find? (isBd l up a a) with
  | some x => simp
  | none =>
    have := List.find?_eq_none.mp hf a (by simpa using ha)
    refine absurd ?_ this
    have hu : und l up a a = true := by unfold und; cases up <;> simpa using hr
    unfold isBd
    rw [hu]
    simp only [Bool.and_self, Bool.true_and, List.all_eq_true]
    intro x _
    cases und l up a x <;> rfl
theorem valid_eq (l : List Int) : (allFrom (fun a => bitAt l a a && (decide (l.getD a 0 < 2 ^ l.length) && ordA l l.length a)) 0 l.length && bdsLow l l.length) = (smallB l l.length && (ordB l l.length && bdsB l l.length)) := by
  rw [Bool.eq_iff_iff]
  simp only [Bool.and_eq_true, allFrom_iff, smallB, ordB, bdsB, bdsLow]
  constructor
  · rintro ⟨h1, h2⟩
    refine ⟨fun a h3 h4 => (h1 a h3 h4).2.1, fun a h3 h4 => ⟨(h1 a h3 h4).1, (h1 a h3 h4).2.2⟩, fun a h3 h4 b h5 h6 => ?_⟩
    rcases Nat.lt_trichotomy b a with h | h | h
    · exact h2 a h3 h4 b h5 h
    · subst h
      exact ⟨decide_eq_true (bdv_self h4 (h1 b h3 h4).1 true), decide_eq_true (bdv_self h4 (h1 b h3 h4).1 false)⟩
    · have := h2 b h5 h6 a h3 h
      rw [bdv_symm l b a, bdv_symm l b a] at this
      exact this
  · rintro ⟨h1, h2, h3⟩
    exact ⟨fun a h4 h5 => ⟨(h2 a h4 h5).1, h1 a h4 h5, (h2 a h4 h5).2⟩, fun a h4 h5 b h6 h7 => h3 a h4 h5 b h6 (by omega)⟩
theorem latOk_ev (N : Int) (l : List Int) : Ev (fun k => spec_LatOk.f k N l) (latB N l) := by
  unfold spec_LatOk.f latB
  by_cases h1 : N < 1
  · rw [decide_eq_false (p := _ ∧ _ ∧ _) (fun h3 => by omega), Bool.false_and]
    exact ite_ev h1 (Ev.step (fun k => by rw [spec_LatOk.j0]) (ite_ev tt (Ev.now _)))
  · refine ite_ev' h1 ?_
    by_cases h2 : N > 16
    · rw [decide_eq_false (p := _ ∧ _ ∧ _) (fun h3 => by omega), Bool.false_and]
      exact ite_ev h2 (Ev.step (fun k => by rw [spec_LatOk.j0]) (ite_ev tt (Ev.now _)))
    · refine ite_ev' h2 ?_
      by_cases h3 : (l.length : Int) = N
      · subst h3
        rw [decide_eq_true (p := _ ∧ _ ∧ _) ⟨by omega, by omega, rfl⟩, Bool.true_and, ← valid_eq]
        refine Ev.step (fun k => by rw [spec_LatOk.j0]) (ite_ev' (by simp) ?_)
        exact Stage.value (so_l0 (by omega)) (so_l3 (by omega))
      · rw [decide_eq_false (p := _ ∧ _ ∧ _) (fun h4 => h3 h4.2.2), Bool.false_and]
        exact Ev.step (fun k => by rw [spec_LatOk.j0]) (ite_ev (by simpa using h3) (Ev.now _))
end Go.Proofs.Ytjhfjnknajhanaa.Q

/- The lattices that the drawing functions hand out are a finite list. -/
namespace Go.Proofs.Ytjhfjnknajhanaa.Q
open Go.RowKit Go.Proofs.Ytjhfjnknajhanaa.P Go.Proofs.YtjhfjnknajhanaaW.PrintWords Go.Proofs.YtjhfjnknajhanaaW.PrintLast Go.Proofs.YtjhfjnknajhanaaW.PrintMore

def bases : List (Int × List Int) := [(1, [1]), (2, [3, 2]), (3, [7, 6, 4]), (4, [15, 10, 12, 8]), (5, [9, 10, 12, 8, 31]), (8, [255, 178, 212, 232, 144, 160, 192, 128])]

set_option maxRecDepth 10000 in
theorem latOf_base : ∀ i : Nat, i < 6 → ∃ q ∈ bases, ∀ k, 4000 ≤ k → (spec_LatOf.f k (rd [1, 2, 3, 4, 5, 8] (i : Int)) (rd_L18 [([] : List S151), [⟨0, 1⟩], [⟨0, 1⟩, ⟨1, 2⟩], [⟨0, 1⟩, ⟨0, 2⟩, ⟨1, 3⟩, ⟨2, 3⟩], [⟨4, 0⟩, ⟨4, 1⟩, ⟨4, 2⟩, ⟨0, 3⟩, ⟨1, 3⟩, ⟨2, 3⟩], [⟨0, 1⟩, ⟨0, 2⟩, ⟨0, 3⟩, ⟨1, 4⟩, ⟨2, 4⟩, ⟨1, 5⟩, ⟨3, 5⟩, ⟨2, 6⟩, ⟨3, 6⟩, ⟨4, 7⟩, ⟨5, 7⟩, ⟨6, 7⟩]] (i : Int))) = some (q.1, q.2, true) := by
  have key : ∀ (n : Int) (e : List S151) (q : Int × List Int), spec_LatOf.f 4000 n e = some (q.1, q.2, true) → ∀ k, 4000 ≤ k → spec_LatOf.f k n e = some (q.1, q.2, true) := fun n e q h k hk => at_rounds (fun k => spec_LatOf.mono n e k) hk h
  intro i hi
  match i, hi with
  | 0, _ => exact ⟨_, by decide, key _ _ (1, [1]) (by decide +kernel)⟩
  | 1, _ => exact ⟨_, by decide, key _ _ (2, [3, 2]) (by decide +kernel)⟩
  | 2, _ => exact ⟨_, by decide, key _ _ (3, [7, 6, 4]) (by decide +kernel)⟩
  | 3, _ => exact ⟨_, by decide, key _ _ (4, [15, 10, 12, 8]) (by decide +kernel)⟩
  | 4, _ => exact ⟨_, by decide, key _ _ (5, [9, 10, 12, 8, 31]) (by decide +kernel)⟩
  | 5, _ => exact ⟨_, by decide, key _ _ (8, [255, 178, 212, 232, 144, 160, 192, 128]) (by decide +kernel)⟩

/-- What 'badLat' hands out. -/
def candsOf (q : Int × List Int) (p : Int × List Int) : Prop :=
  p = q ∨ p = (q.1, q.2 ++ [1]) ∨ (∃ r, p = (r, q.2)) ∨ ∃ i v, i < q.2.length ∧ v < 256 ∧ p = (q.1, q.2.set i (v : Nat))
def Drawn (p : Int × List Int) : Prop := ∃ q ∈ bases, candsOf q p

theorem base_len : ∀ q ∈ bases, q.2.length ≤ 8 ∧ (q.2.length : Int) = q.1 ∧ 1 ≤ q.1 ∧ ∀ x ∈ q.2, 0 ≤ x ∧ x ≤ 255 := by decide

theorem lat_ok {c : List Int} {a s : Int} {m : Nat} (h : Cu c a s m) (hm : m ≤ 10000000000 := by omega) :
    ∃ q a' s', q ∈ bases ∧ (∀ k, 4000 ≤ k → spec_l01Cur_lat.f k c a s = some (q.1, q.2, a', s')) ∧ Cu c a' s' (m + 1) := by
  replace hm : m ≤ 10000000000 := hm
  obtain ⟨x, a', s', e, x0, x1, _, hc⟩ := pick_ok h 6
  have x2 := x1 (by omega)
  obtain ⟨n, rfl⟩ := Int.eq_ofNat_of_zero_le x0
  obtain ⟨q, hq, hk⟩ := latOf_base n (by omega)
  refine ⟨q, a', s', hq, fun k hk4 => ?_, hc⟩
  unfold spec_l01Cur_lat.f
  simp only [Option.bind_some]
  rw [e]
  simp only [Option.bind_some]
  rw [if_pos (by omega), if_pos (by simpa using x2), if_pos (by simpa using x2), hk k hk4]
  rfl
theorem badLat_ok {c : List Int} {a s : Int} {m : Nat} (h : Cu c a s m) (hm : m ≤ 1000000000 := by omega) :
    ∃ p a' s', Drawn p ∧ (∀ k, 4000 ≤ k → spec_l01Cur_badLat.f k c a s = some (p.1, p.2, a', s')) ∧ Cu c a' s' (m + 5) := by
  replace hm : m ≤ 1000000000 := hm
  obtain ⟨q, a1, s1, hq, hk, h1⟩ := lat_ok h
  obtain ⟨hl1, hl2, hl3, hl4⟩ := base_len q hq
  obtain ⟨x, a2, s2, e2, x0, x1, _, h2⟩ := pick_ok h1 12
  have x2 := x1 (by omega)
  by_cases hx0 : x = 0
  · obtain ⟨y, a3, s3, e3, hy, h3⟩ := raw_ok h2
    obtain ⟨z, a4, s4, e4, z0, z1, _, h4⟩ := pick_ok h3 3
    have z2 := z1 (by omega)
    refine ⟨(rd [y, wrap64 (q.1 + 1), wrap64 (q.1 - 1)] z, q.2), a4, s4, ⟨q, hq, .inr (.inr (.inl ⟨_, rfl⟩))⟩, fun k hk4 => ?_, h4⟩
    unfold spec_l01Cur_badLat.f
    rw [hk k hk4]
    simp only [Option.bind_some]
    rw [e2]
    simp only [Option.bind_some]
    rw [if_pos hx0, e3]
    simp only [Option.bind_some]
    rw [e4]
    simp only [Option.bind_some]
    rw [if_pos z0, if_pos (by simpa using z2)]
  · by_cases hx1 : x = 1
    · obtain ⟨y, a3, s3, e3, y0, y1, y2, h3⟩ := pick_ok h2 (q.2.length : Int)
      obtain ⟨z, a4, s4, e4, z0, z1, _, h4⟩ := pick_ok h3 256
      have z2 := z1 (by omega)
      have y3 : y < q.2.length := by
        by_cases h5 : (2 : Int) ≤ q.2.length
        · exact y1 h5
        · rw [y2 (by omega)]; omega
      refine ⟨(q.1, q.2.set y.toNat z), a4, s4, ⟨q, hq, .inr (.inr (.inr ⟨y.toNat, z.toNat, by omega, by omega, ?_⟩))⟩, fun k hk4 => ?_, h4.mono (by omega)⟩
      · rw [Int.toNat_of_nonneg z0]
      · unfold spec_l01Cur_badLat.f
        rw [hk k hk4]
        simp only [Option.bind_some]
        rw [e2]
        simp only [Option.bind_some]
        rw [if_neg hx0, if_pos hx1, e3]
        simp only [Option.bind_some]
        rw [e4]
        simp only [Option.bind_some]
        rw [if_pos y0, if_pos y3, u64_id z0 (by omega)]
    · by_cases hx2 : x = 2
      · refine ⟨(q.1, q.2 ++ [1]), a2, s2, ⟨q, hq, .inr (.inl rfl)⟩, fun k hk4 => ?_, h2.mono (by omega)⟩
        unfold spec_l01Cur_badLat.f
        rw [hk k hk4]
        simp only [Option.bind_some]
        rw [e2]
        simp only [Option.bind_some]
        rw [if_neg hx0, if_neg hx1, if_pos hx2, if_pos (by omega)]
      · refine ⟨q, a2, s2, ⟨q, hq, .inl rfl⟩, fun k hk4 => ?_, h2.mono (by omega)⟩
        unfold spec_l01Cur_badLat.f
        rw [hk k hk4]
        simp only [Option.bind_some]
        rw [e2]
        simp only [Option.bind_some]
        rw [if_neg hx0, if_neg hx1, if_neg hx2]
theorem Drawn.nonneg {p : Int × List Int} (h : Drawn p) : ∀ x ∈ p.2, 0 ≤ x := by
  obtain ⟨q, hq, hc⟩ := h
  obtain ⟨_, _, _, h4⟩ := base_len q hq
  rcases hc with rfl | rfl | ⟨r, rfl⟩ | ⟨i, v, hi, hv, rfl⟩
  · exact fun x hx => (h4 x hx).1
  · intro x hx
    rcases List.mem_append.mp hx with h | h
    · exact (h4 x h).1
    · simp at h; omega
  · exact fun x hx => (h4 x hx).1
  · intro x hx
    rcases List.mem_or_eq_of_mem_set hx with h | h
    · exact (h4 x h).1
    · omega
end Go.Proofs.Ytjhfjnknajhanaa.Q

namespace Go.Proofs.Ytjhfjnknajhanaa.P
open Go.RowKit Go.Proofs.YtjhfjnknajhanaaW.PrintWords Go.Proofs.YtjhfjnknajhanaaW.PrintLast Go.Proofs.YtjhfjnknajhanaaW.PrintMore
attribute [local go_sem] max2_int min2_int max_two min_two max_three min_three max_four min_four   -- for this text's walks alone
set_option linter.unusedVariables false
set_option linter.unusedSimpArgs false

/-! ### impl_LatEnds: function 39 -/
def impl_LatEnds.f (k : Nat) (a0_0 : Int) (l0_1 : List Int) : Option (Int × Int) := (impl_isLat.f k a0_0 l0_1).bind fun t102 => (if t102 = true then ((impl_Lat_ends.f k a0_0 l0_1).bind fun bt103 => (some (bt103.1, bt103.2))) else (some ((-1), (-1))))
theorem impl_LatEnds.mono : ∀ a0 a1 k, LeO (impl_LatEnds.f k a0 a1) (impl_LatEnds.f (k + 1) a0 a1) := by
 intro a0 a1 k
 unfold impl_LatEnds.f
 repeat' first
   | (with_reducible exact impl_Lat_ends.mono _ _ _)
   | (with_reducible exact impl_isLat.mono _ _ _)
   | (with_reducible exact LeO.refl _)
   | (with_reducible exact LeO.none _)
   | (with_reducible refine LeO.ite ?_ ?_)
   | (with_reducible refine LeO.bind ?_ (fun _ => ?_))
   | exact impl_Lat_ends.mono _ _ _
   | exact impl_isLat.mono _ _ _
   | exact LeO.none _
   | refine LeO.ite ?_ ?_
   | refine LeO.bind ?_ (fun _ => ?_)

end Go.Proofs.Ytjhfjnknajhanaa.P

namespace Go.Proofs.Ytjhfjnknajhanaa.P
open Go.RowKit Go.Proofs.YtjhfjnknajhanaaW.PrintWords Go.Proofs.YtjhfjnknajhanaaW.PrintLast Go.Proofs.YtjhfjnknajhanaaW.PrintMore
attribute [local go_sem] max2_int min2_int max_two min_two max_three min_three max_four min_four   -- for this text's walks alone
set_option linter.unusedVariables false
set_option linter.unusedSimpArgs false

/-! ### impl_LatMeet: function 36 -/
def impl_LatMeet.f (k : Nat) (a0_0 : Int) (l0_1 : List Int) (a1 : Int) (a2 : Int) : Option (Int) := (impl_areLabels.f k a0_0 l0_1 (([a1, a2] : List Int))).bind fun t105 => (if t105 = true then ((impl_Lat_bound.f k a0_0 l0_1 a1 a2 false).bind fun t106 => (some t106)) else (some (-1)))
theorem impl_LatMeet.mono : ∀ a0 a1 a2 a3 k, LeO (impl_LatMeet.f k a0 a1 a2 a3) (impl_LatMeet.f (k + 1) a0 a1 a2 a3) := by
 intro a0 a1 a2 a3 k
 unfold impl_LatMeet.f
 repeat' first
   | (with_reducible exact impl_Lat_bound.mono _ _ _ _ _ _)
   | (with_reducible exact impl_areLabels.mono _ _ _ _)
   | (with_reducible exact LeO.refl _)
   | (with_reducible exact LeO.none _)
   | (with_reducible refine LeO.ite ?_ ?_)
   | (with_reducible refine LeO.bind ?_ (fun _ => ?_))
   | exact impl_Lat_bound.mono _ _ _ _ _ _
   | exact impl_areLabels.mono _ _ _ _
   | exact LeO.none _
   | refine LeO.ite ?_ ?_
   | refine LeO.bind ?_ (fun _ => ?_)

end Go.Proofs.Ytjhfjnknajhanaa.P

namespace Go.Proofs.Ytjhfjnknajhanaa.P
open Go.RowKit Go.Proofs.YtjhfjnknajhanaaW.PrintWords Go.Proofs.YtjhfjnknajhanaaW.PrintLast Go.Proofs.YtjhfjnknajhanaaW.PrintMore
attribute [local go_sem] max2_int min2_int max_two min_two max_three min_three max_four min_four   -- for this text's walks alone
set_option linter.unusedVariables false
set_option linter.unusedSimpArgs false

/-! ### impl_LatJoin: function 35 -/
def impl_LatJoin.f (k : Nat) (a0_0 : Int) (l0_1 : List Int) (a1 : Int) (a2 : Int) : Option (Int) := (impl_areLabels.f k a0_0 l0_1 (([a1, a2] : List Int))).bind fun t105 => (if t105 = true then ((impl_Lat_join.f k a0_0 l0_1 a1 a2).bind fun t106 => (some t106)) else (some (-1)))
theorem impl_LatJoin.mono : ∀ a0 a1 a2 a3 k, LeO (impl_LatJoin.f k a0 a1 a2 a3) (impl_LatJoin.f (k + 1) a0 a1 a2 a3) := by
 intro a0 a1 a2 a3 k
 unfold impl_LatJoin.f
 repeat' first
   | (with_reducible exact impl_Lat_join.mono _ _ _ _ _)
   | (with_reducible exact impl_areLabels.mono _ _ _ _)
   | (with_reducible exact LeO.refl _)
   | (with_reducible exact LeO.none _)
   | (with_reducible refine LeO.ite ?_ ?_)
   | (with_reducible refine LeO.bind ?_ (fun _ => ?_))
   | exact impl_Lat_join.mono _ _ _ _ _
   | exact impl_areLabels.mono _ _ _ _
   | exact LeO.none _
   | refine LeO.ite ?_ ?_
   | refine LeO.bind ?_ (fun _ => ?_)

end Go.Proofs.Ytjhfjnknajhanaa.P

namespace Go.Proofs.Ytjhfjnknajhanaa.P
open Go.RowKit Go.Proofs.YtjhfjnknajhanaaW.PrintWords Go.Proofs.YtjhfjnknajhanaaW.PrintLast Go.Proofs.YtjhfjnknajhanaaW.PrintMore
attribute [local go_sem] max2_int min2_int max_two min_two max_three min_three max_four min_four   -- for this text's walks alone
set_option linter.unusedVariables false
set_option linter.unusedSimpArgs false

/-! ### spec_LatJoin: function 37 -/
def spec_LatJoin.f (k : Nat) (a0_0 : Int) (l0_1 : List Int) (a1 : Int) (a2 : Int) : Option (Int) := (spec_l01Label.f k a0_0 l0_1 a1).bind fun t102 => (if t102 = true then ((spec_l01Label.f k a0_0 l0_1 a2).bind fun t103 => (if t103 = true then ((spec_l01Bound.f k a0_0 l0_1 a1 a2 true).bind fun t104 => (some t104)) else (some (-1)))) else (some (-1)))
theorem spec_LatJoin.mono : ∀ a0 a1 a2 a3 k, LeO (spec_LatJoin.f k a0 a1 a2 a3) (spec_LatJoin.f (k + 1) a0 a1 a2 a3) := by
 intro a0 a1 a2 a3 k
 unfold spec_LatJoin.f
 repeat' first
   | (with_reducible exact spec_l01Bound.mono _ _ _ _ _ _)
   | (with_reducible exact spec_l01Label.mono _ _ _ _)
   | (with_reducible exact LeO.refl _)
   | (with_reducible exact LeO.none _)
   | (with_reducible refine LeO.ite ?_ ?_)
   | (with_reducible refine LeO.bind ?_ (fun _ => ?_))
   | exact spec_l01Bound.mono _ _ _ _ _ _
   | exact spec_l01Label.mono _ _ _ _
   | exact LeO.none _
   | refine LeO.ite ?_ ?_
   | refine LeO.bind ?_ (fun _ => ?_)

end Go.Proofs.Ytjhfjnknajhanaa.P

namespace Go.Proofs.Ytjhfjnknajhanaa.P
open Go.RowKit Go.Proofs.YtjhfjnknajhanaaW.PrintWords Go.Proofs.YtjhfjnknajhanaaW.PrintLast Go.Proofs.YtjhfjnknajhanaaW.PrintMore
attribute [local go_sem] max2_int min2_int max_two min_two max_three min_three max_four min_four   -- for this text's walks alone
set_option linter.unusedVariables false
set_option linter.unusedSimpArgs false

/-! ### spec_LatMeet: function 38 -/
def spec_LatMeet.f (k : Nat) (a0_0 : Int) (l0_1 : List Int) (a1 : Int) (a2 : Int) : Option (Int) := (spec_l01Label.f k a0_0 l0_1 a1).bind fun t102 => (if t102 = true then ((spec_l01Label.f k a0_0 l0_1 a2).bind fun t103 => (if t103 = true then ((spec_l01Bound.f k a0_0 l0_1 a1 a2 false).bind fun t104 => (some t104)) else (some (-1)))) else (some (-1)))
theorem spec_LatMeet.mono : ∀ a0 a1 a2 a3 k, LeO (spec_LatMeet.f k a0 a1 a2 a3) (spec_LatMeet.f (k + 1) a0 a1 a2 a3) := by
 intro a0 a1 a2 a3 k
 unfold spec_LatMeet.f
 repeat' first
   | (with_reducible exact spec_l01Bound.mono _ _ _ _ _ _)
   | (with_reducible exact spec_l01Label.mono _ _ _ _)
   | (with_reducible exact LeO.refl _)
   | (with_reducible exact LeO.none _)
   | (with_reducible refine LeO.ite ?_ ?_)
   | (with_reducible refine LeO.bind ?_ (fun _ => ?_))
   | exact spec_l01Bound.mono _ _ _ _ _ _
   | exact spec_l01Label.mono _ _ _ _
   | exact LeO.none _
   | refine LeO.ite ?_ ?_
   | refine LeO.bind ?_ (fun _ => ?_)

end Go.Proofs.Ytjhfjnknajhanaa.P

/- What the functions on lattices return, in terms of rows of bits; joins and meets are least and greatest bounds. -/
namespace Go.Proofs.Ytjhfjnknajhanaa.Q
open Go.RowKit Go.Proofs.Ytjhfjnknajhanaa.P Go.Proofs.YtjhfjnknajhanaaW.PrintWords Go.Proofs.YtjhfjnknajhanaaW.PrintLast Go.Proofs.YtjhfjnknajhanaaW.PrintMore

/-- A valid lattice: what its rows say. -/
structure VL (l : List Int) : Prop where
  pos : 1 ≤ l.length
  small : l.length ≤ 16
  refl : ∀ a, a < l.length → bitAt l a a = true
  anti : ∀ a b, a < l.length → b < l.length → bitAt l a b = true → bitAt l b a = true → a = b
  trans : ∀ a b c, a < l.length → b < l.length → c < l.length → bitAt l a b = true → bitAt l b c = true → bitAt l a c = true
  bds : ∀ a b up, a < l.length → b < l.length → 0 ≤ bdv l a b up
theorem VL.of {N : Int} {l : List Int} (h : latB N l = true) : VL l ∧ N = l.length := by
  unfold latB at h
  simp only [Bool.and_eq_true, decide_eq_true_eq, ordB, bdsB, allFrom_iff] at h
  obtain ⟨⟨h1, h2, h3⟩, _, ho, hb⟩ := h
  have h4 : ∀ a b, a < l.length → b < l.length → anti2 l a b = true ∧ allFrom (trans3 l a b) 0 l.length = true := by
    intro a b ha hbl
    have := (ho a (by omega) ha).2
    unfold ordA at this
    simpa using (allFrom_iff _ _ _).mp this b (by omega) hbl
  refine ⟨⟨by omega, by omega, fun a ha => (ho a (by omega) ha).1, fun a b ha hbl h5 h6 => ?_, fun a b c ha hbl hc h5 h6 => ?_, fun a b up ha hbl => ?_⟩, by omega⟩
  · have := (h4 a b ha hbl).1
    unfold anti2 at this
    rw [h5, h6] at this
    simpa using this
  · have := (allFrom_iff _ _ _).mp (h4 a b ha hbl).2 c (by omega) hc
    unfold trans3 at this
    rw [h5, h6] at this
    simpa using this
  · have := hb a (by omega) ha b (by omega) hbl
    cases up with
    | true => exact this.1
    | false => exact this.2

/-- c is the least of the bounds of a and b (upwards), or the greatest (downwards). -/
structure IsBound (l : List Int) (up : Bool) (a b c : Nat) : Prop where
  lt : c < l.length
  left : und l up a c = true
  right : und l up b c = true
  least : ∀ d, d < l.length → und l up a d = true → und l up b d = true → und l up c d = true
theorem VL.bound {l : List Int} (h : VL l) {a b : Nat} (up : Bool) (ha : a < l.length) (hb : b < l.length) : ∃ c : Nat, bdv l a b up = c ∧ IsBound l up a b c := by
  have hp := h.bds a b up ha hb
  unfold bdv at hp ⊢
  cases hf : (List.range l.length).find? (isBd l up a b) with
  | none => rw [hf] at hp; exact absurd hp (by decide)
  | some c =>
    obtain ⟨h1, h2, _⟩ := List.find?_range_eq_some.mp hf
    refine ⟨c, rfl, ?_⟩
    unfold isBd at h1
    simp only [Bool.and_eq_true, List.all_eq_true, List.mem_range] at h1
    obtain ⟨⟨h3, h4⟩, h5⟩ := h1
    refine ⟨by simpa using h2, h3, h4, fun d hd h6 h7 => ?_⟩
    have := h5 d hd
    rw [h6, h7] at this
    simpa using this
theorem VL.join {l : List Int} (h : VL l) {a b : Nat} (ha : a < l.length) (hb : b < l.length) :
    ∃ c : Nat, bdv l a b true = c ∧ c < l.length ∧ bitAt l a c = true ∧ bitAt l b c = true ∧ ∀ d, d < l.length → bitAt l a d = true → bitAt l b d = true → bitAt l c d = true := by
  obtain ⟨c, e, h1, h2, h3, h4⟩ := h.bound true ha hb
  exact ⟨c, e, h1, h2, h3, h4⟩
theorem VL.meet {l : List Int} (h : VL l) {a b : Nat} (ha : a < l.length) (hb : b < l.length) :
    ∃ c : Nat, bdv l a b false = c ∧ c < l.length ∧ bitAt l c a = true ∧ bitAt l c b = true ∧ ∀ d, d < l.length → bitAt l d a = true → bitAt l d b = true → bitAt l d c = true := by
  obtain ⟨c, e, h1, h2, h3, h4⟩ := h.bound false ha hb
  exact ⟨c, e, h1, h2, h3, h4⟩

def lab (N a : Int) : Bool := decide (0 ≤ a ∧ a < N)
theorem has_eq {l : List Int} (h : VL l) (a : Int) : impl_Lat_has.f l.length l a = some (lab l.length a) := by
  have := h.small; have := h.pos
  unfold impl_Lat_has.f
  rw [in_eq, wrap64_id (by omega) (by omega)]
  simp only [Option.bind_some, lab]
  congr 1
  rw [decide_eq_decide]
  omega
theorem labels_bad {N : Int} {l : List Int} (hp : ∀ x ∈ l, 0 ≤ x) (h : latB N l = false) (q : List Int) : Ev (fun k => impl_areLabels.f k N l q) false := by
  unfold impl_areLabels.f
  exact Ev.bind (h ▸ isLat_ev N l hp) (ite_ev' ft (Ev.now _))
theorem labels_ok {l : List Int} (hp : ∀ x ∈ l, 0 ≤ x) (h : latB l.length l = true) (q : List Int) (hq : q.length ≤ 1000) : Ev (fun k => impl_areLabels.f k l.length l q) (q.all (lab l.length)) := by
  have hv := (VL.of h).1
  unfold impl_areLabels.f
  refine Ev.bind (h ▸ isLat_ev _ l hp) (ite_ev tt ?_)
  have hall : q.all (lab l.length) = (allFrom (fun i => lab l.length (q.getD i 0)) 0 q.length && true) := by
    rw [Bool.and_true, Bool.eq_iff_iff, allFrom_iff, List.all_eq_true]
    constructor
    · intro h1 j _ hj
      rw [List.getD_eq_getElem?_getD, List.getElem?_eq_getElem hj]
      exact h1 _ (List.getElem_mem hj)
    · intro h1 x hx
      obtain ⟨j, hj, rfl⟩ := List.getElem_of_mem hx
      have := h1 j (by omega) hj
      rw [List.getD_eq_getElem?_getD, List.getElem?_eq_getElem hj] at this
      exact this
  rw [hall]
  refine Stage.value (loop_stage (g := fun k i => impl_areLabels.l0 k q q.length (i : Nat) l.length l) (fun i => lab l.length (q.getD i 0)) ?_ q.length 0 (by omega)) ?_
  · intro i hi
    refine Stage.step (fun k => by rw [impl_areLabels.l0]) (Stage.ite (by omega) (Stage.ite (by omega) (Stage.ite (by omega) ?_)))
    rw [succ_w (by omega), rd_nat]
    refine Stage.some (has_eq hv _) ?_
    cases lab l.length (q.getD i 0) with
    | true => exact Stage.ite tt (Stage.refl _)
    | false => exact Stage.ite' ft (Stage.none _)
  · exact Ev.step (fun k => by rw [impl_areLabels.l0]) (ite_ev' (by omega) (Ev.now _))
theorem label_bad {N : Int} {l : List Int} (h : latB N l = false) (a : Int) : Ev (fun k => spec_l01Label.f k N l a) false := by
  unfold spec_l01Label.f
  exact Ev.bind (h ▸ latOk_ev N l) (ite_ev' ft (Ev.now _))
theorem label_ev {N : Int} {l : List Int} (h : latB N l = true) (a : Int) : Ev (fun k => spec_l01Label.f k N l a) (lab N a) := by
  unfold spec_l01Label.f
  refine Ev.bind (h ▸ latOk_ev N l) (ite_ev tt ?_)
  unfold lab
  by_cases h0 : a ≥ 0
  · refine ite_ev h0 ?_
    rw [show decide (0 ≤ a ∧ a < N) = decide (a < N) by simp [h0]]
    exact Ev.now _
  · refine ite_ev' h0 ?_
    rw [decide_eq_false (p := _ ∧ _) (fun h => h0 h.1)]
    exact Ev.now _
theorem lab_nat {n : Nat} {a : Int} (h : lab n a = true) : ∃ b : Nat, a = b ∧ b < n := by
  unfold lab at h
  simp only [decide_eq_true_eq] at h
  exact ⟨a.toNat, by omega, by omega⟩
theorem lab_of {n a : Nat} (h : a < n) : lab n a = true := by
  unfold lab
  simp only [decide_eq_true_eq]
  omega

section valid
variable {l : List Int} (hp : ∀ x ∈ l, 0 ≤ x) (h : latB l.length l = true)
include hp h
theorem labels2 {a b : Nat} (ha : a < l.length) (hb : b < l.length) : Ev (fun k => impl_areLabels.f k l.length l [(a : Int), b]) true := by
  have := labels_ok hp h [(a : Int), b] (by simp)
  simpa only [List.all_cons, List.all_nil, lab_of ha, lab_of hb, Bool.and_self] using this
theorem le_ev {a b : Nat} (ha : a < l.length) (hb : b < l.length) : Ev (fun k => impl_LatLe.f k l.length l a b) (bitAt l a b) := by
  unfold impl_LatLe.f
  refine Ev.bind (labels2 hp h ha hb) ?_
  exact ite_ev tt (some_ev (le_eq l _ a b ha) (Ev.now _))
omit hp in
theorem join_ev {a b : Nat} (ha : a < l.length) (hb : b < l.length) : Ev (fun k => impl_Lat_join.f k l.length l a b) (bdv l a b true) := by
  unfold impl_Lat_join.f
  exact Ev.bind (bd_impl (by have := (VL.of h).1.small; omega) ha hb true) (Ev.now _)
theorem LatJoin_ev {a b : Nat} (ha : a < l.length) (hb : b < l.length) : Ev (fun k => impl_LatJoin.f k l.length l a b) (bdv l a b true) := by
  unfold impl_LatJoin.f
  refine Ev.bind (labels2 hp h ha hb) ?_
  exact ite_ev tt (Ev.bind (join_ev h ha hb) (Ev.now _))
theorem LatMeet_ev {a b : Nat} (ha : a < l.length) (hb : b < l.length) : Ev (fun k => impl_LatMeet.f k l.length l a b) (bdv l a b false) := by
  unfold impl_LatMeet.f
  refine Ev.bind (labels2 hp h ha hb) ?_
  exact ite_ev tt (Ev.bind (bd_impl (by have := (VL.of h).1.small; omega) ha hb false) (Ev.now _))
omit hp in
/-- The bottom is below all labels, the top above. -/
theorem ends_ev : ∃ lo hi : Nat, lo < l.length ∧ hi < l.length ∧ (∀ a, a < l.length → bitAt l lo a = true ∧ bitAt l a hi = true) ∧ Ev (fun k => impl_Lat_ends.f k l.length l) ((lo : Int), (hi : Int)) := by
  have hv := (VL.of h).1
  have hs := hv.small
  have hpos := hv.pos
  have key : ∀ d i lo hi : Nat, i + d = l.length → lo < l.length → hi < l.length → (∀ a, a < i → bitAt l lo a = true ∧ bitAt l a hi = true) →
      ∃ lo' hi' : Nat, lo' < l.length ∧ hi' < l.length ∧ (∀ a, a < l.length → bitAt l lo' a = true ∧ bitAt l a hi' = true) ∧ Ev (fun k => impl_Lat_ends.l0 k lo hi l.length i l.length l) ((lo' : Int), (hi' : Int)) := by
    intro d
    induction d with
    | zero =>
      intro i lo hi hi0 h1 h2 h3
      obtain rfl : i = l.length := by omega
      exact ⟨lo, hi, h1, h2, h3, Ev.step (fun k => by rw [impl_Lat_ends.l0]) (ite_ev' (by omega) (Ev.now _))⟩
    | succ d ih =>
      intro i lo hi hi0 h1 h2 h3
      have hil : i < l.length := by omega
      obtain ⟨m, e1, m1, m2, m3, _⟩ := hv.meet h1 hil
      obtain ⟨j, e2, j1, j2, j3, _⟩ := hv.join h2 hil
      obtain ⟨lo', hi', g1, g2, g3, g4⟩ := ih (i + 1) m j (by omega) m1 j1 (fun a ha => by
        by_cases hai : a = i
        · subst hai; exact ⟨m3, j3⟩
        · have := h3 a (by omega)
          exact ⟨hv.trans m lo a m1 h1 (by omega) m2 this.1, hv.trans a hi j (by omega) h2 j1 this.2 j2⟩)
      refine ⟨lo', hi', g1, g2, g3, Ev.step (fun k => by rw [impl_Lat_ends.l0]) (ite_ev (by omega) ?_)⟩
      rw [succ_w (by omega)]
      exact Ev.bind (e1 ▸ bd_impl (by omega) h1 hil false) (Ev.bind (e2 ▸ join_ev h h2 hil) g4)
  unfold impl_Lat_ends.f
  exact key l.length 0 0 0 (by omega) (by omega) (by omega) (fun a ha => absurd ha (by omega))
theorem LatEnds_ev : ∃ lo hi : Nat, lo < l.length ∧ hi < l.length ∧ (∀ a, a < l.length → bitAt l lo a = true ∧ bitAt l a hi = true) ∧ Ev (fun k => impl_LatEnds.f k l.length l) ((lo : Int), (hi : Int)) := by
  obtain ⟨lo, hi, h1, h2, h3, h4⟩ := ends_ev h
  refine ⟨lo, hi, h1, h2, h3, ?_⟩
  unfold impl_LatEnds.f
  exact Ev.bind (h ▸ isLat_ev _ l hp) (ite_ev tt (Ev.bind h4 (Ev.now _)))
end valid
end Go.Proofs.Ytjhfjnknajhanaa.Q

/- The law FnLatDown returns true for every code: LatDown lists the labels at or below a label, in ascending order, and the join of all of them is that label. -/
namespace Go.Proofs.Ytjhfjnknajhanaa.Q
open Go.RowKit Go.Proofs.Ytjhfjnknajhanaa.P Go.Proofs.YtjhfjnknajhanaaW.PrintWords Go.Proofs.YtjhfjnknajhanaaW.PrintLast Go.Proofs.YtjhfjnknajhanaaW.PrintMore

/-- The labels from i on, d of them, that are at or below c. -/
def downFrom (l : List Int) (c i d : Nat) : List Int := ((List.range' i d).filter fun a => bitAt l a c).map fun (a : Nat) => (a : Int)
theorem downFrom_succ (l : List Int) (c i d : Nat) : downFrom l c i (d + 1) = (if bitAt l i c = true then [(i : Int)] else []) ++ downFrom l c (i + 1) d := by
 unfold downFrom
 rw [List.range'_succ, List.filter_cons]
 split <;> simp
theorem downFrom_mem {l : List Int} {c i d : Nat} {x : Int} (h : x ∈ downFrom l c i d) : ∃ a : Nat, x = a ∧ i ≤ a ∧ a < i + d ∧ bitAt l a c = true := by
 unfold downFrom at h
 obtain ⟨a, ha, rfl⟩ := List.mem_map.mp h
 obtain ⟨h1, h2⟩ := List.mem_filter.mp ha
 have := List.mem_range'_1.mp h1
 exact ⟨a, rfl, this.1, this.2, h2⟩
theorem downFrom_has {l : List Int} {c n : Nat} {a : Nat} (ha : a < n) (h : bitAt l a c = true) : (a : Int) ∈ downFrom l c 0 n := by
 unfold downFrom
 exact List.mem_map.mpr ⟨a, List.mem_filter.mpr ⟨List.mem_range'_1.mpr ⟨by omega, by omega⟩, h⟩, rfl⟩
theorem downFrom_sorted (l : List Int) (c : Nat) (d : Nat) : ∀ i, (downFrom l c i d).Pairwise (· < ·) := by
 induction d with
 | zero => intro i; exact List.Pairwise.nil
 | succ d ih =>
  intro i
  rw [downFrom_succ]
  split
  ·refine List.pairwise_cons.mpr ⟨fun x hx => ?_, ih (i + 1)⟩
   obtain ⟨a, rfl, h1, _, _⟩ := downFrom_mem hx
   omega
  ·exact ih (i + 1)
theorem downFrom_len (l : List Int) (c i d : Nat) : (downFrom l c i d).length ≤ d := by
 unfold downFrom
 rw [List.length_map]
 exact Nat.le_trans (List.length_filter_le _ _) (by simp)

/-- Two equal lists are the same. -/
theorem same_ev (xs : List Int) (hx : xs.length ≤ 1000000) : Ev (fun k => laws_same.f k xs xs) true := by
 unfold laws_same.f
 refine ite_ev rfl ?_
 have key : ∀ d i : Nat, i + d = xs.length → Ev (fun k => laws_same.l0 k xs xs i) true := by
  intro d
  induction d with
  | zero =>
   intro i hi
   exact Ev.step (fun k => by rw [laws_same.l0]) (ite_ev' (by omega) (Ev.now _))
  | succ d ih =>
   intro i hi
   refine Ev.step (fun k => by rw [laws_same.l0]) (ite_ev (by omega) (ite_ev (by omega) (ite_ev (by omega) (ite_ev rfl ?_))))
   rw [succ_w (by omega)]
   exact ih (i + 1) (by omega)
 exact key xs.length 0 (by omega)

section valid
variable {l : List Int} (hp : ∀ x ∈ l, 0 ≤ x) (h : latB l.length l = true)
include hp h
theorem labels1 {a : Nat} (ha : a < l.length) : Ev (fun k => impl_areLabels.f k l.length l [(a : Int)]) true := by
 have := labels_ok hp h [(a : Int)] (by simp)
 simpa only [List.all_cons, List.all_nil, lab_of ha, Bool.and_self] using this
theorem down_impl {c : Nat} (hc : c < l.length) : Ev (fun k => impl_LatDown.f k l.length l c) (downFrom l c 0 l.length) := by
 have hs := (VL.of h).1.small
 unfold impl_LatDown.f
 refine Ev.bind (labels1 hp h hc) (ite_ev tt ?_)
 have key : ∀ d i : Nat, i + d = l.length → ∀ acc : List Int, acc.length ≤ i → Ev (fun k => impl_LatDown.l0 k c acc l.length i l.length l) (acc ++ downFrom l c i d) := by
  intro d
  induction d with
  | zero =>
   intro i hi acc _
   rw [show downFrom l c i 0 = [] from rfl, List.append_nil]
   exact Ev.step (fun k => by rw [impl_LatDown.l0]) (ite_ev' (by omega) (Ev.now _))
  | succ d ih =>
   intro i hi acc hacc
   rw [downFrom_succ]
   refine Ev.step (fun k => by rw [impl_LatDown.l0]) (ite_ev (by omega) (some_ev (le_eq l _ i c (by omega)) ?_))
   rw [succ_w (by omega)]
   cases bitAt l i c with
   | true =>
    refine ite_ev tt (ite_ev (by omega) ?_)
    rw [if_pos tt, ← List.append_assoc]
    exact ih (i + 1) (by omega) _ (by simp; omega)
   | false =>
    refine ite_ev' ft ?_
    rw [if_neg ft, List.nil_append]
    exact ih (i + 1) (by omega) acc (by omega)
 exact key l.length 0 (by omega) [] (by simp)
omit hp in
theorem down_spec {c : Nat} (hc : c < l.length) : Ev (fun k => spec_LatDown.f k l.length l c) (downFrom l c 0 l.length) := by
 have hs := (VL.of h).1.small
 unfold spec_LatDown.f
 have key : ∀ d i : Nat, i + d = l.length → ∀ acc : List Int, acc.length ≤ i → Ev (fun k => spec_LatDown.l0 k c acc i l.length l) (acc ++ downFrom l c i d) := by
  intro d
  induction d with
  | zero =>
   intro i hi acc _
   rw [show downFrom l c i 0 = [] from rfl, List.append_nil]
   refine Ev.step (fun k => by rw [spec_LatDown.l0]) (Ev.bind (label_ev h c) ?_)
   rw [lab_of hc, decide_eq_false (p := (i : Int) < l.length) (by omega)]
   exact ite_ev tt (Ev.step (fun k => by rw [spec_LatDown.j1]) (ite_ev' ft (Ev.now _)))
  | succ d ih =>
   intro i hi acc hacc
   rw [downFrom_succ]
   refine Ev.step (fun k => by rw [spec_LatDown.l0]) (Ev.bind (label_ev h c) ?_)
   rw [lab_of hc, decide_eq_true (p := (i : Int) < l.length) (by omega)]
   refine ite_ev tt (Ev.step (fun k => by rw [spec_LatDown.j1]) (ite_ev tt (ite_ev (by omega) (ite_ev (by omega) (some_ev (bit_eq l i c (by omega)) ?_)))))
   rw [succ_w (by omega)]
   cases bitAt l i c with
   | true =>
    refine ite_ev tt (ite_ev (by omega) ?_)
    rw [if_pos tt, ← List.append_assoc]
    exact ih (i + 1) (by omega) _ (by simp; omega)
   | false =>
    refine ite_ev' ft ?_
    rw [if_neg ft, List.nil_append]
    exact ih (i + 1) (by omega) acc (by omega)
 exact key l.length 0 (by omega) [] (by simp)
/-- The join of labels at or below c, c among them, is c. -/
theorem joinAll_ev {c : Nat} (hc : c < l.length) (xs : List Int) (hx : ∀ x ∈ xs, ∃ a : Nat, x = a ∧ a < l.length ∧ bitAt l a c = true) (hm : (c : Int) ∈ xs) (hlen : xs.length ≤ 1000) :
  Ev (fun k => impl_LatJoinAll.f k l.length l xs) (c : Int) := by
 have hv := (VL.of h).1
 have hs := hv.small
 have hall : xs.all (lab l.length) = true := List.all_eq_true.mpr fun x hxm => by
  obtain ⟨a, rfl, ha, _⟩ := hx x hxm
  exact lab_of ha
 unfold impl_LatJoinAll.f impl_Lat_joinAll.f
 refine Ev.bind (hall ▸ labels_ok hp h xs hlen) (ite_ev tt ?_)
 obtain ⟨lo, hi, h1, h2, h3, h4⟩ := ends_ev h
 have key : ∀ d i : Nat, i + d = xs.length → ∀ o : Nat, o < l.length → bitAt l o c = true → (∀ j a : Nat, j < i → xs.getD j 0 = a → bitAt l a o = true) →
   Ev (fun k => impl_Lat_joinAll.l0 k o xs xs.length i l.length l) (c : Int) := by
  intro d
  induction d with
  | zero =>
   intro i hi0 o ho hoc hj
   obtain ⟨j, hjl, hje⟩ := List.getElem_of_mem hm
   have hco : bitAt l c o = true := hj j c (by omega) (by rw [List.getD_eq_getElem?_getD, List.getElem?_eq_getElem hjl]; exact hje)
   have : o = c := hv.anti o c ho hc hoc hco
   subst this
   exact Ev.step (fun k => by rw [impl_Lat_joinAll.l0]) (ite_ev' (by omega) (Ev.now _))
  | succ d ih =>
   intro i hi0 o ho hoc hj
   have hil : i < xs.length := by omega
   obtain ⟨a, hae, ha, hac⟩ := hx xs[i] (List.getElem_mem hil)
   have hrd : rd xs (i : Int) = a := by
    rw [rd_nat, List.getD_eq_getElem?_getD, List.getElem?_eq_getElem hil]
    exact hae
   obtain ⟨m, e1, m1, m2, m3, m4⟩ := hv.join ho ha
   refine Ev.step (fun k => by rw [impl_Lat_joinAll.l0]) (ite_ev (by omega) (ite_ev (by omega) (ite_ev (by omega) ?_)))
   rw [succ_w (by omega), hrd]
   refine Ev.bind (e1 ▸ join_ev h ho ha) (ih (i + 1) (by omega) m m1 (m4 c hc hoc hac) fun j b hjb hb => ?_)
   by_cases hji : j = i
   ·subst hji
    rw [← rd_nat, hrd] at hb
    have : b = a := by omega
    subst this
    exact m3
   ·have hb1 := hj j b (by omega) hb
    have hbl : b < l.length := by
     obtain ⟨b2, hb2, hb3, _⟩ := hx (xs.getD j 0) (by rw [List.getD_eq_getElem?_getD, List.getElem?_eq_getElem (by omega)]; exact List.getElem_mem _)
     omega
    exact hv.trans b o m hbl ho m1 hb1 m2
 exact Ev.bind (Ev.bind h4 (key xs.length 0 (by omega) lo h1 (h3 c hc).1 (fun j a hj => absurd hj (by omega)))) (Ev.now _)
end valid
/-- Where the lattice or the label is not valid, both lists are empty. -/
theorem down_none {N : Int} {l : List Int} (hp : ∀ x ∈ l, 0 ≤ x) {c : Int} (hb : latB N l = false ∨ lab N c = false) : Ev (fun k => impl_LatDown.f k N l c) [] ∧ Ev (fun k => spec_LatDown.f k N l c) [] := by
 constructor
 ·unfold impl_LatDown.f
  refine Ev.bind (a := false) ?_ (ite_ev' ft (Ev.now _))
  cases hv : latB N l with
  | false => exact labels_bad hp hv _
  | true =>
   obtain ⟨_, rfl⟩ := VL.of hv
   have hl : lab l.length c = false := hb.resolve_left (by rw [hv]; decide)
   have := labels_ok hp hv [c] (by simp)
   simpa only [List.all_cons, hl, Bool.false_and] using this
 ·unfold spec_LatDown.f
  refine Ev.step (fun k => by rw [spec_LatDown.l0]) (Ev.bind (a := false) ?_ (ite_ev' ft ?_))
  rotate_left
  ·exact Ev.step (fun k => by rw [spec_LatDown.j1]) (ite_ev' ft (Ev.now _))
  cases hv : latB N l with
  | false => exact label_bad hv _
  | true => exact (hb.resolve_left (by rw [hv]; decide)) ▸ label_ev hv c
theorem down_core (N : Int) (l : List Int) (hp : ∀ x ∈ l, 0 ≤ x) (c : Int) : Ev (fun k => (impl_LatDown.f k N l c).bind fun t108 => ((spec_LatDown.f k N l c).bind fun t111 => ((laws_same.f k t108 t111).bind fun t114 => (if t114 = true then (laws_FnLatDown.j0 k c t108 ((t108.length : Int) == 0) N l) else (laws_FnLatDown.j0 k c t108 true N l))))) true := by
 by_cases hb : latB N l = false ∨ lab N c = false
 ·obtain ⟨h1, h2⟩ := down_none hp hb
  refine Ev.bind h1 (Ev.bind h2 (Ev.bind (same_ev [] (by simp)) (ite_ev tt ?_)))
  refine Ev.step (fun k => by rw [laws_FnLatDown.j0]) (ite_ev (by rfl) (Ev.bind h2 (Ev.bind (same_ev [] (by simp)) (Ev.now _))))
 ·have hv : latB N l = true := by
   cases hv : latB N l with
   | true => rfl
   | false => exact absurd (.inl hv) hb
  have hlc : lab N c = true := by
   cases hv : lab N c with
   | true => rfl
   | false => exact absurd (.inr hv) hb
  obtain ⟨hV, rfl⟩ := VL.of hv
  obtain ⟨c, rfl, hc⟩ := lab_nat hlc
  have hs := hV.small
  have hlen := downFrom_len l c 0 l.length
  have hself : (c : Int) ∈ downFrom l c 0 l.length := downFrom_has hc (hV.refl c hc)
  have hpos : 0 < (downFrom l c 0 l.length).length := List.length_pos_of_mem hself
  have hjoin := joinAll_ev hp hv hc (downFrom l c 0 l.length) (fun x hx => by
   obtain ⟨a, rfl, _, ha, hac⟩ := downFrom_mem hx
   exact ⟨a, rfl, by omega, hac⟩) hself (by omega)
  have hsort := downFrom_sorted l c l.length 0
  have hmem : ∀ x ∈ downFrom l c 0 l.length, ∃ a : Nat, x = a ∧ a < l.length ∧ bitAt l a c = true := fun x hx => by
   obtain ⟨a, rfl, _, ha, hac⟩ := downFrom_mem hx
   exact ⟨a, rfl, by omega, hac⟩
  refine Ev.bind (down_impl hp hv hc) (Ev.bind (down_spec hv hc) (Ev.bind (same_ev _ (by omega)) (ite_ev tt ?_)))
  generalize downFrom l c 0 l.length = xs at *
  refine Ev.step (fun k => by rw [laws_FnLatDown.j0]) (ite_ev' (by simp; intro h; rw [h] at hpos; simp at hpos) ?_)
  have key : ∀ d i : Nat, i + d = xs.length → Ev (fun k => laws_FnLatDown.l0 k c xs i l.length l) true := by
   intro d
   induction d with
   | zero =>
    intro i hi
    refine Ev.step (fun k => by rw [laws_FnLatDown.l0]) (ite_ev' (by omega) (Ev.bind hjoin ?_))
    simp only [beq_self_eq_true]
    exact Ev.now _
   | succ d ih =>
    intro i hi
    have hil : i < xs.length := by omega
    obtain ⟨a, hae, ha, hac⟩ := hmem xs[i] (List.getElem_mem hil)
    have hrd : rd xs (i : Int) = a := by
     rw [rd_nat, List.getD_eq_getElem?_getD, List.getElem?_eq_getElem hil]
     exact hae
    refine Ev.step (fun k => by rw [laws_FnLatDown.l0]) (ite_ev (by omega) (ite_ev (by omega) ?_))
    rw [hrd, succ_w (by omega)]
    refine Ev.bind (le_ev hp hv ha hc) ?_
    rw [hac]
    refine ite_ev tt ?_
    by_cases h0 : (i : Int) > 0
    ·refine ite_ev h0 ?_
     rw [wrap64_id (x := (i : Int) - 1) (by omega) (by omega)]
     refine ite_ev (by omega) (ite_ev (by omega) (ite_ev' ?_ (ih (i + 1) (by omega))))
     have hlt : xs[i - 1] < xs[i] := List.pairwise_iff_getElem.mp hsort (i - 1) i (by omega) hil (by omega)
     have e : rd xs ((i : Int) - 1) = xs[i - 1] := by
      rw [show (i : Int) - 1 = ((i - 1 : Nat) : Int) by omega, rd_nat, List.getD_eq_getElem?_getD, List.getElem?_eq_getElem (by omega)]
      rfl
     rw [e]
     omega
    ·exact ite_ev' h0 (ih (i + 1) (by omega))
  exact key xs.length 0 (by omega)
theorem FnLatDown : ∀ (l0 : List Int), l0.length ≤ maxLen → l0.length * 1 ≤ 140737488351232 → (∀ x ∈ l0, (Lit.int .u8 x).wf = true) → ∃ k, laws_FnLatDown.f k l0 = some true := by
 intro l hm hr hb
 have key : Ev (fun k => laws_FnLatDown.f k l) true := by
  unfold laws_FnLatDown.f
  cases hbig : decide ((l.length : Int) > 1048576) with
  | true => exact some_ev (a := true) (by unfold laws_big.f; rw [hbig]) (ite_ev tt (Ev.now _))
  | false =>
   have h1 : laws_big.f l = some false := by unfold laws_big.f; rw [hbig]
   refine some_ev h1 (ite_ev' ft ?_)
   have hc := code_of hb h1
   obtain ⟨s, e, h0⟩ := open_ok hc
   obtain ⟨p, a', s', hd, hk, h2⟩ := badLat_ok h0
   obtain ⟨c, a2, s2, e2, _, _⟩ := label_ok h2 p.1 p.2
   refine Ev.bind (a := (p.1, p.2, c)) ?_ (down_core p.1 p.2 hd.nonneg c)
   exact ⟨4000, fun k hk4 => by unfold spec_DrawLatDown.f; rw [e]; simp only [Option.bind_some]; rw [hk k hk4]; simp only [Option.bind_some]; rw [e2]; rfl⟩
 exact key.rounds
end Go.Proofs.Ytjhfjnknajhanaa.Q

-- PRINTED by print.py: the row of the law laws_FnLatDown, out of its Pure (the session's) and the printed walk. Not trusted: Lean checks it.
namespace Go.Proofs.Ytjhfjnknajhanaa.fnLatDown
open Go.ChangeShapes Go.WideShapes Go.ChangeAt Go.RowKit
open Go.ChangeMaps (open_string shut_string)
set_option linter.unusedVariables false
theorem own : ownKnob Try.prog.godebug = none := by kernel_rfl
theorem laidOut : laidOutB Try.prog = true := Facts.s2
def IsRow (k : IntKind) (w : World) (a : Option Addr) (len cap : Nat) (zs : List Int) : Prop :=
  (a = none ∧ len = 0 ∧ cap = 0 ∧ zs = []) ∨
  ∃ x, a = some x ∧ len ≤ cap ∧ cap ≤ maxLen ∧ zs.length = cap ∧ (∀ i, i < zs.length → w.cell? (x.add i) = some (.int k (zs.getD i 0))) ∧ ∀ n ∈ zs, (Lit.int k n).wf = true
set_option maxRecDepth 100000 in
theorem lifted (os : Os) (started : os.Started) (H : Type) (enc : TypeId × Value → H) :
    ReturnsInHanded {} Try.checked os 6 .any (Rows.fnLatDownSpec.pre6 enc Try.prog Try.f6 Rows.fnLatDownRow.domain false) (Rows.fnLatDownSpec.post enc Try.prog Try.f6 false true false false) := by
  refine returnsInHanded_of_change_sized (C := Try.checked) own started (by kernel_rfl) Try.func6
    (ChangeSpec.witness6 (enc := enc) (C := Try.checked) false ⟨#[], #[.slice none 0 0], []⟩ 8 (by kernel_rfl) (by kernel_rfl) (by kernel_rfl) (by kernel_rfl)) ?_
  intro W base args ds gs before hval0 hW hcnd hsz0 _
  have hsz : (DataW.weightsEach Try.prog (Try.f6.params.toList ++ Rows.fnLatDownSpec.plain.varTypes Try.prog) (ds ++ gs)).all (· ≤ reachBytes) = true := hsz0
  have hval : ∀ (j : Nat) t v, Try.f6.params[j]? = some t → args[j]? = some v → Value.okWide Try.prog W .any base t v := hval0
  have hW' := hW
  obtain ⟨p, q, hA0, hV, rfl, hfz, hnd⟩ := hW
  have hA : DataW.TrodAll enc Try.prog W 0 (fun _ => true) true Try.f6.params.toList args.toList ds p := hA0
  rw [Try.params6] at hA hval hsz
  obtain ⟨v0, vs0, d0, ds0, p0, q0, hargs, rfl, rfl, h0, r0⟩ := trodAll_cons hA
  obtain ⟨rfl, rfl, rfl⟩ := trodAll_nil r0
  obtain rfl : args = #[v0] := by cases args; simp_all
  obtain ⟨rfl, rfl⟩ := trodVars_none hV
  obtain ⟨a0, len0, cap0, rfl⟩ := okWide_slice Try.underlying22 (hval 0 22 v0 rfl rfl)
  have k0 := h0
  have lt0 : ∀ x ∈ p0, x.block < W.heap.size := by obtain ⟨m, hm⟩ := k0; exact DataW.trod_lt m _ _ _ hm
  obtain ⟨z0, w0⟩ : ∃ zs, IsRow .u8 W a0 len0 cap0 zs := by
    obtain ⟨fuel, hf⟩ := h0
    rcases open_ints Try.underlying22 Try.underlying5 (by kernel_rfl) hf with ⟨hcs, _⟩ | ⟨x, l, c, zs, hcs, _, hl, hm, hz, _, hcell, hwz⟩
    · simp [Value.cells] at hcs
      obtain ⟨rfl, rfl, rfl⟩ := hcs
      exact ⟨[], .inl ⟨rfl, rfl, rfl, rfl⟩⟩
    · simp [Value.cells] at hcs
      obtain ⟨rfl, rfl, rfl⟩ := hcs
      exact ⟨zs, .inr ⟨_, rfl, hl, hm, by simpa using hz, hcell, hwz⟩⟩
  have y0 : len0 * 1 ≤ 140737488351232 := Go.Proofs.YtjhfjnknajhanaaW.PrintWords.sized_ints hsz (j := 0) (t := 22) rfl rfl Try.underlying22 Try.underlying5 (by kernel_rfl) (by kernel_rfl) h0
  clear hA0 hval0 hsz0 hsz
  refine (P.laws_FnLatDown.walk Q.FnLatDown a0 len0 cap0 z0 W w0 y0).mono fun e W' ⟨he, bel⟩ => ?_
  subst he
  exact ⟨_, rfl, _, _, _, [], _, [], hW', trodAll_mk1 (shut_bool Try.underlying4 _), (trodAll_cons_mk (Below.trod laidOut (by kernel_rfl) (of_decide_eq_true (by kernel_rfl)) k0 bel lt0) trodAll_mk0), rfl, bel.frame _, fun h => by cases h⟩
theorem over : Rows.fnLatDownRow.holds Try.pinned (OpenSpec.ofChange Rows.fnLatDownSpec) :=
  OpenClaim.holds_of_wide 6 Try.f6 rfl rfl rfl rfl rfl rfl rfl ⟨rfl, rfl, rfl, rfl, rfl⟩ rfl rfl rfl rfl rfl (by kernel_rfl) Try.func6 joined
    (of_decide_eq_true (by kernel_rfl)) (by unfold Func.isWrapper; first | (rw [if_pos (by decide +kernel)]; kernel_rfl) | (rw [if_neg (by decide +kernel)]; exact ⟨rfl, rfl⟩))
    (fun os started H enc _ => lifted os started H enc)
theorem proved : Rows.FnLatDownSaid := over
#print axioms proved
end Go.Proofs.Ytjhfjnknajhanaa.fnLatDown
namespace Go.Proofs.Ytjhfjnknajhanaa
/-- The row, under a short name, for the claim. -/
theorem fnLatDown_holds : Rows.FnLatDownSaid := fnLatDown.proved
end Go.Proofs.Ytjhfjnknajhanaa
