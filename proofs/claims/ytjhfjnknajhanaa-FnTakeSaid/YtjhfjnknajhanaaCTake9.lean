/- Part 9 of 10 of the proof of FnTake: functions on lists and numbers, contracts of Go functions, plain lemmas. -/
import Derived.Test.YtjhfjnknajhanaaCTake5
import Derived.Test.YtjhfjnknajhanaaCTake8
import Derived.Test.YtjhfjnknajhanaaCTake6
namespace Go.Proofs.Ytjhfjnknajhanaa.P
open Go.RowKit Go.Proofs.YtjhfjnknajhanaaW.PrintWords Go.Proofs.YtjhfjnknajhanaaW.PrintLast Go.Proofs.YtjhfjnknajhanaaW.PrintMore
attribute [local go_sem] max2_int min2_int max_two min_two max_three min_three max_four min_four
set_option linter.unusedVariables false
set_option linter.unusedSimpArgs false
/-! ### spec_ExprRun: function 164 -/
def spec_ExprRun.T9 : Bool × List (List Nat × List Nat) := (true, [([], []), ([], []), ([0, 1], [0, 1]), ([2], [2]), ([3], [3]), ([], []), ([], []), ([6], [6]), ([5, 7], [5, 7]), ([8], [8]), ([], []), ([], []), ([11], [11]), ([10, 12], [10, 12]), ([13], [13]), ([4, 9, 14], [4, 9, 14]), ([15], [15]), ([16], [16]), ([16], [16]), ([], []), ([19, 17, 15, 0, 1, 2, 3, 4, 5, 6, 7, 8, 9, 10, 11, 12, 13, 14, 15, 16, 17, 19], [17, 19]), ([18, 20, 0, 1, 2, 3, 4, 5, 6, 7, 8, 9, 10, 11, 12, 13, 14, 15, 16, 17, 18, 19, 20], [18])])
def spec_ExprRun.B9 : List Nat := [0, 0, 3, 7, 15, 0, 0, 64, 224, 480, 0, 0, 2048, 7168, 15360, 32767, 65535, 131071, 131071, 0, 786431, 2097151]
theorem spec_ExprRun.tab9 : rtab .any (opsOf Try.f164 9) = spec_ExprRun.T9 := by kernel_rfl
theorem spec_ExprRun.bits9 : waitsOk spec_ExprRun.T9.2 spec_ExprRun.B9 = true := by kernel_rfl
set_option maxHeartbeats 8000000 in
set_option maxRecDepth 100000 in
theorem spec_ExprRun.calls (k : Nat) (A0 : Option Addr) (c0 : Nat) (l0 : List (S231)) (a1_0 : Int) (a1_1 : Int) (a1_2 : Int) (a1_3 : Int) (r1 : Int) (r2 : Int) (w : World) (hr0 : Kd.C k231 w A0 l0.length l0) (hc0 : l0.length ≤ c0) (h : spec_ExprRun.f k l0 a1_0 a1_1 a1_2 a1_3 = some (r1, r2)) :
  Calls Try.prog 164 #[.slice A0 l0.length c0, .agg #[.int .i64 a1_0, .int .i64 a1_1, .int .i64 a1_2, .int .i64 a1_3]] w fun e w' => e = .returned (.tuple #[.int .i64 r1, .int .i64 r2]) ∧ Below w.heap.size w w' := by
 have hu75 := Try.underlying75
 have hu234 := Try.underlying234
 have HR0 := Aside0.mk hr0
 have HC0 := Aside0.mk hc0
 clear hr0 hc0
 have HB := Aside0.mk (Below.refl w.heap.size w)
 have H : ((spec_ExprOk.f k l0).bind fun t102 => (if t102 = true then (spec_ExprRun.l0 k l0 (([] : List Int)) 0 a1_0 a1_1 a1_2 a1_3) else (some (0, 1)))) = some (r1, r2) := h
 clear h
 replace H := qB H
 obtain ⟨t102, A3, H⟩ := H
 try dsimp only at H
 by_cases c4 : t102 = true
 ·subst c4
  rw [if_pos rfl] at H; obtain ⟨y103, hy103⟩ : ∃ y_ : List Int, y_ = (([] : List Int)) := ⟨_, rfl⟩; replace H : (spec_ExprRun.l0 k l0 y103 0 a1_0 a1_1 a1_2 a1_3) = some (r1, r2) := by first | (rw [hy103]; with_reducible exact H) | (have H2_ := (Option.bind_some _ _).symm.trans H; rw [hy103]; with_reducible exact H2_) | (have H2_ := (Option.bind_some _ _).symm.trans H; with_reducible exact H2_) | with_reducible exact H | (rw [hy103]; exact H) | exact H
  have Ny103 := Aside0.mk hy103; clear hy103; have H' := Aside0.mk H; clear H; go_enter Try.func164, Try.ntmps164
  go_wp2_with (first | ((with_reducible refine gate_dst (N := 3) rfl ?_); refine box_event ?hg (N := 3) ?hd (cs := #[.int .i64 a1_0, .int .i64 a1_1, .int .i64 a1_2, .int .i64 a1_3]) (t := 75) ?hr ?_; (case hd => rfl); (case hg => rfl); (case hr => exact qz5); intro gb101 hg w5 hbox hb; have h_ := qA4 (below_step qz6 hb) (hbox) ((qz7 : w.heap.size ≤ gb101)) ((qz7 : w.heap.size ≤ gb101)); clear HB; obtain ⟨HB, BK101, GW101, GE101⟩ := h_; clear hb hbox hg) | ((with_reducible refine gate_callee (f := 165) rfl ?_); refine goesL_ (some 14) rfl rfl Try.func165 (by kernel_rfl) rfl #[.slice A0 l0.length c0] rfl qz1 ?_; (with_reducible refine (spec_ExprOk.calls k _ _ l0 true _ ?side1 ?side2 A3.out).mono ?_); (case side1 => exact qz17 HR0.out); (case side2 => exact HC0.out); rintro e w6 ⟨rfl, hb⟩; refine ⟨_, rfl, ?_⟩; have h_ := qA2 (blk_below (g := gb101) (o := .cells #[.int .i64 a1_0, .int .i64 a1_1, .int .i64 a1_2, .int .i64 a1_3] 75 (0, 0)) (qz8 BK101.out) hb) (below_step (qz10 GE101.out) hb); clear BK101 HB; obtain ⟨BK101, HB⟩ := h_; (try clear hb); (try clear hb2); (try clear hk); (try clear hi)) | ((with_reducible refine gate_dst (N := 16) rfl ?_); refine Kd.R_lit (Kd.int .i64) _ 3 ?hg (N := 16) ?hd (xs := ([] : List Int)) (inner := []) (ok := fun _ => True) (okp := fun _ => True) ?hr ?hp (fun _ hk => hk) trivial (Below.refl _ _) (Nat.le_refl _) (by simp) ?_; (case hd => rfl); (case hg => rfl); (case hr => exact qz5); (case hp => exact qz22); intro v104 w7 ho8 hb hg_ hnew_; clear hg_ hnew_; (first | rw [← Ny103.out] at ho8 | (simp only [Int.reduceToNat] at ho8; rw [← Ny103.out] at ho8)); have h_ := qA3 (Kd.R_lower ho8 (below_size (qz10 GE101.out))) (blk_below (g := gb101) (o := .cells #[.int .i64 a1_0, .int .i64 a1_1, .int .i64 a1_2, .int .i64 a1_3] 75 (0, 0)) (qz8 BK101.out) hb) (below_step (qz10 GE101.out) hb); clear BK101 HB; obtain ⟨HO105, BK101, HB⟩ := h_; clear hb ho8))
  go_loopg [6, 7] k (fun kq v6 v7 w' => ∃ (x6_1 : List Int) (x7_1 : Int), v7 = .int .i64 x7_1 ∧ Aside0 (spec_ExprRun.l0 kq l0 x6_1 x7_1 a1_0 a1_1 a1_2 a1_3 = some (r1, r2)) ∧ Aside0 (kq ≤ k) ∧ Aside0 (Kd.R (Kd.int .i64) 3 w' w.heap.size (fun _ => True) v6 x6_1) ∧ Aside0 (w'.heap[gb101]? = some (.cells #[.int .i64 a1_0, .int .i64 a1_1, .int .i64 a1_2, .int .i64 a1_3] 75 (0, 0))) ∧ Aside0 (Below w.heap.size w w'))
  case atStart => exact ⟨(y103), (0), qz2, H', ⟨Nat.le_refl _⟩, ⟨qz21 HO105.out⟩, ⟨qz8 BK101.out⟩, ⟨qz10 GE101.out⟩⟩
  case round =>
   clear H'; (try clear c1); (try clear p2); (try clear c4); obtain ⟨x6_1, x7_1, rfl, HA, HK1, HO_6, BK101, HB⟩ := hrel
   cases gk with
   | zero => exact absurd HA.out (by simp [spec_ExprRun.l0])
   | succ k1 =>
    have H := HA.out; clear HA; simp only [spec_ExprRun.l0] at H
    by_cases c9 : x7_1 < (l0.length : Int)
    ·rw [if_pos c9] at H
     have c9b0 : decide (x7_1 < (l0.length : Int)) = true := decide_eq_true c9; clear c9
     by_cases c10 : 0 ≤ x7_1
     ·rw [if_pos c10] at H
      have c10b0 : decide (0 ≤ x7_1) = true := decide_eq_true c10; clear c10
      by_cases c11 : ((rd_T231 l0 x7_1).f0) = 0
      ·rw [if_pos c11] at H
       have c11b0 : (((rd_T231 l0 x7_1).f0) == 0) = true := beq_iff_eq.mpr c11; have c11b1 : (((rd_T231 l0 x7_1).f0) != 0) = false := bne_eq_false_iff_eq.mpr c11; clear c11
       by_cases c12 : x6_1.length < 17592186044416
       ·rw [if_pos c12] at H
        have LMc12 := Aside0.mk c12; clear c12; obtain ⟨y109, hy109⟩ : ∃ y_ : List Int, y_ = (x6_1 ++ [(rd_T231 l0 x7_1).f1]) := ⟨_, rfl⟩; replace H : (spec_ExprRun.l0 k1 l0 y109 (wrap64 (x7_1 + 1)) a1_0 a1_1 a1_2 a1_3) = some (r1, r2) := by first | (rw [hy109]; with_reducible exact H) | (have H2_ := (Option.bind_some _ _).symm.trans H; rw [hy109]; with_reducible exact H2_) | (have H2_ := (Option.bind_some _ _).symm.trans H; with_reducible exact H2_) | with_reducible exact H | (rw [hy109]; exact H) | exact H
        have Ny109 := Aside0.mk hy109; clear hy109; have H' := Aside0.mk H; clear H; obtain ⟨Ao13, co13, eo13⟩ := Kd.R_slice HO_6.out; subst eo13; have p107 : 0 ≤ (x7_1 : Int) := of_decide_eq_true qz4; have q107 : x7_1 < (l0.length : Int) := of_decide_eq_true qz4; obtain ⟨ad107, e107, hx107_0, hx107_1⟩ := at_T231 HR0.out x7_1 p107 q107
        cases e107
        replace hx107_0 := qcb HB hx107_0; replace hx107_1 := qcb HB hx107_1; replace p107 := eq_true p107; replace q107 := eq_true q107; have p108 : 0 ≤ (x7_1 : Int) := of_decide_eq_true qz4; have q108 : x7_1 < (l0.length : Int) := of_decide_eq_true qz4; obtain ⟨ad108, e108, hx108_0, hx108_1⟩ := at_T231 HR0.out x7_1 p108 q108; obtain rfl : ad107 = ad108 := (by injection e108)
        replace hx108_0 := qcb HB hx108_0; replace hx108_1 := qcb HB hx108_1; replace p108 := eq_true p108; replace q108 := eq_true q108
        go_wp2_with (first | ((with_reducible refine gate_builtin (b := .append) (xs := #[.tmp 68, .tmp 74]) rfl ?_); at_builtin; refine Kd.R_append (Kd.int .i64) (w0 := w) w.heap.size rfl (.tmp 68) (.tmp 74) 32 3 (.int .i64 0) 8 rfl Try.underlying32 info3 rfl (by decide) (by omega) (.slice Ao13 x6_1.length co13) x6_1 ((rd_T231 l0 x7_1).f1) [.int .i64 ((rd_T231 l0 x7_1).f1)] (fun _ => True) (fun _ => False) rfl rfl ?aP (fun _ hk => hk.elim) ?aF ?aO ?aB ?aS ?aL ?_; (case aP => exact rfl); (case aB => exact qz25 GE101.out); (case aF => exact qz26); (case aO => exact qz159); (case aS => exact qz28 GE101.out); (case aL => exact qz161); intro v110 w14 ho hb hg hat; rw [← Ny109.out] at ho; have h_ := qA3 (blk_grown (g := gb101) (o := .cells #[.int .i64 a1_0, .int .i64 a1_1, .int .i64 a1_2, .int .i64 a1_3] 75 (0, 0)) (qz8 BK101.out) hg (Kd.R_ne HO_6.out BK101.out (by decide))) (hb) (ho); clear BK101 HB HO_6; obtain ⟨BK101, HB, HO111⟩ := h_; clear ho hb hg hat))
        go_roundg k1
        case measure => have := HK1.out; omega
        case rel => exact ⟨(y109), (wrap64 (x7_1 + 1)), qz2, H', ⟨by have := HK1.out; omega⟩, ⟨qz21 HO111.out⟩, ⟨qz8 BK101.out⟩, ⟨qz10 GE101.out⟩⟩
       ·rw [if_neg c12] at H
        exact absurd H (by simp)
      ·rw [if_neg c11] at H
       have c11b0 : (((rd_T231 l0 x7_1).f0) == 0) = false := beq_eq_false_iff_ne.mpr c11; have c11b1 : (((rd_T231 l0 x7_1).f0) != 0) = true := bne_iff_ne.mpr c11
       by_cases c15 : ((rd_T231 l0 x7_1).f0) = 1
       ·rw [if_pos c15] at H
        have c15b0 : (((rd_T231 l0 x7_1).f0) == 1) = true := beq_iff_eq.mpr c15; have c15b1 : (((rd_T231 l0 x7_1).f0) != 1) = false := bne_eq_false_iff_eq.mpr c15; clear c15
        by_cases c16 : x6_1.length < 17592186044416
        ·rw [if_pos c16] at H
         have LMc16 := Aside0.mk c16; clear c16; obtain ⟨y112, hy112⟩ : ∃ y_ : List Int, y_ = (x6_1 ++ [a1_1]) := ⟨_, rfl⟩; replace H : (spec_ExprRun.l0 k1 l0 y112 (wrap64 (x7_1 + 1)) a1_0 a1_1 a1_2 a1_3) = some (r1, r2) := by first | (rw [hy112]; with_reducible exact H) | (have H2_ := (Option.bind_some _ _).symm.trans H; rw [hy112]; with_reducible exact H2_) | (have H2_ := (Option.bind_some _ _).symm.trans H; with_reducible exact H2_) | with_reducible exact H | (rw [hy112]; exact H) | exact H
         have Ny112 := Aside0.mk hy112; clear hy112; have H' := Aside0.mk H; clear H; obtain ⟨Ao17, co17, eo17⟩ := Kd.R_slice HO_6.out; subst eo17; have p107 : 0 ≤ (x7_1 : Int) := of_decide_eq_true qz4; have q107 : x7_1 < (l0.length : Int) := of_decide_eq_true qz4; obtain ⟨ad107, e107, hx107_0, hx107_1⟩ := at_T231 HR0.out x7_1 p107 q107
         cases e107
         replace hx107_0 := qcb HB hx107_0; replace hx107_1 := qcb HB hx107_1; replace p107 := eq_true p107; replace q107 := eq_true q107; obtain ⟨hcz18_0, hcz18_1, hcz18_2, hcz18_3⟩ := qC4 BK101.out; obtain ⟨hfz18_0, hfz18_1, hfz18_2, hfz18_3⟩ := qF4 BK101.out
         go_wp2_with (first | ((with_reducible refine gate_builtin (b := .append) (xs := #[.tmp 78, .tmp 81]) rfl ?_); at_builtin; refine Kd.R_append (Kd.int .i64) (w0 := w) w.heap.size rfl (.tmp 78) (.tmp 81) 32 3 (.int .i64 0) 8 rfl Try.underlying32 info3 rfl (by decide) (by omega) (.slice Ao17 x6_1.length co17) x6_1 a1_1 [.int .i64 a1_1] (fun _ => True) (fun _ => False) rfl rfl ?aP (fun _ hk => hk.elim) ?aF ?aO ?aB ?aS ?aL ?_; (case aP => exact rfl); (case aB => exact qz25 GE101.out); (case aF => exact qz26); (case aO => exact qz159); (case aS => exact qz28 GE101.out); (case aL => exact qz260); intro v113 w19 ho hb hg hat; rw [← Ny112.out] at ho; have h_ := qA3 (blk_grown (g := gb101) (o := .cells #[.int .i64 a1_0, .int .i64 a1_1, .int .i64 a1_2, .int .i64 a1_3] 75 (0, 0)) (qz8 BK101.out) hg (Kd.R_ne HO_6.out BK101.out (by decide))) (hb) (ho); clear BK101 HB HO_6; obtain ⟨BK101, HB, HO114⟩ := h_; clear ho hb hg hat))
         go_roundg k1
         case measure => have := HK1.out; omega
         case rel => exact ⟨(y112), (wrap64 (x7_1 + 1)), qz2, H', ⟨by have := HK1.out; omega⟩, ⟨qz21 HO114.out⟩, ⟨qz8 BK101.out⟩, ⟨qz10 GE101.out⟩⟩
        ·rw [if_neg c16] at H
         exact absurd H (by simp)
       ·rw [if_neg c15] at H
        have c15b0 : (((rd_T231 l0 x7_1).f0) == 1) = false := beq_eq_false_iff_ne.mpr c15; have c15b1 : (((rd_T231 l0 x7_1).f0) != 1) = true := bne_iff_ne.mpr c15
        by_cases c20 : ((rd_T231 l0 x7_1).f0) = 2
        ·rw [if_pos c20] at H
         have c20b0 : (((rd_T231 l0 x7_1).f0) == 2) = true := beq_iff_eq.mpr c20; have c20b1 : (((rd_T231 l0 x7_1).f0) != 2) = false := bne_eq_false_iff_eq.mpr c20; clear c20
         by_cases c21 : x6_1.length < 17592186044416
         ·rw [if_pos c21] at H
          have LMc21 := Aside0.mk c21; clear c21; obtain ⟨y115, hy115⟩ : ∃ y_ : List Int, y_ = (x6_1 ++ [a1_2]) := ⟨_, rfl⟩; replace H : (spec_ExprRun.l0 k1 l0 y115 (wrap64 (x7_1 + 1)) a1_0 a1_1 a1_2 a1_3) = some (r1, r2) := by first | (rw [hy115]; with_reducible exact H) | (have H2_ := (Option.bind_some _ _).symm.trans H; rw [hy115]; with_reducible exact H2_) | (have H2_ := (Option.bind_some _ _).symm.trans H; with_reducible exact H2_) | with_reducible exact H | (rw [hy115]; exact H) | exact H
          have Ny115 := Aside0.mk hy115; clear hy115; have H' := Aside0.mk H; clear H; obtain ⟨Ao22, co22, eo22⟩ := Kd.R_slice HO_6.out; subst eo22; have p107 : 0 ≤ (x7_1 : Int) := of_decide_eq_true qz4; have q107 : x7_1 < (l0.length : Int) := of_decide_eq_true qz4; obtain ⟨ad107, e107, hx107_0, hx107_1⟩ := at_T231 HR0.out x7_1 p107 q107
          cases e107
          replace hx107_0 := qcb HB hx107_0; replace hx107_1 := qcb HB hx107_1; replace p107 := eq_true p107; replace q107 := eq_true q107; obtain ⟨hcz23_0, hcz23_1, hcz23_2, hcz23_3⟩ := qC4 BK101.out; obtain ⟨hfz23_0, hfz23_1, hfz23_2, hfz23_3⟩ := qF4 BK101.out
          go_wp2_with (first | ((with_reducible refine gate_builtin (b := .append) (xs := #[.tmp 85, .tmp 88]) rfl ?_); at_builtin; refine Kd.R_append (Kd.int .i64) (w0 := w) w.heap.size rfl (.tmp 85) (.tmp 88) 32 3 (.int .i64 0) 8 rfl Try.underlying32 info3 rfl (by decide) (by omega) (.slice Ao22 x6_1.length co22) x6_1 a1_2 [.int .i64 a1_2] (fun _ => True) (fun _ => False) rfl rfl ?aP (fun _ hk => hk.elim) ?aF ?aO ?aB ?aS ?aL ?_; (case aP => exact rfl); (case aB => exact qz25 GE101.out); (case aF => exact qz26); (case aO => exact qz159); (case aS => exact qz28 GE101.out); (case aL => have := LMc21.out; omega); intro v116 w24 ho hb hg hat; rw [← Ny115.out] at ho; have h_ := qA3 (blk_grown (g := gb101) (o := .cells #[.int .i64 a1_0, .int .i64 a1_1, .int .i64 a1_2, .int .i64 a1_3] 75 (0, 0)) (qz8 BK101.out) hg (Kd.R_ne HO_6.out BK101.out (by decide))) (hb) (ho); clear BK101 HB HO_6; obtain ⟨BK101, HB, HO117⟩ := h_; clear ho hb hg hat))
          go_roundg k1
          case measure => have := HK1.out; omega
          case rel => exact ⟨(y115), (wrap64 (x7_1 + 1)), qz2, H', ⟨by have := HK1.out; omega⟩, ⟨qz21 HO117.out⟩, ⟨qz8 BK101.out⟩, ⟨qz10 GE101.out⟩⟩
         ·rw [if_neg c21] at H
          exact absurd H (by simp)
        ·rw [if_neg c20] at H
         have c20b0 : (((rd_T231 l0 x7_1).f0) == 2) = false := beq_eq_false_iff_ne.mpr c20; have c20b1 : (((rd_T231 l0 x7_1).f0) != 2) = true := bne_iff_ne.mpr c20
         by_cases c25 : ((rd_T231 l0 x7_1).f0) = 3
         ·rw [if_pos c25] at H
          have c25b0 : (((rd_T231 l0 x7_1).f0) == 3) = true := beq_iff_eq.mpr c25; have c25b1 : (((rd_T231 l0 x7_1).f0) != 3) = false := bne_eq_false_iff_eq.mpr c25; clear c25
          by_cases c26 : x6_1.length < 17592186044416
          ·rw [if_pos c26] at H
           have LMc26 := Aside0.mk c26; clear c26; obtain ⟨y118, hy118⟩ : ∃ y_ : List Int, y_ = (x6_1 ++ [a1_3]) := ⟨_, rfl⟩; replace H : (spec_ExprRun.l0 k1 l0 y118 (wrap64 (x7_1 + 1)) a1_0 a1_1 a1_2 a1_3) = some (r1, r2) := by first | (rw [hy118]; with_reducible exact H) | (have H2_ := (Option.bind_some _ _).symm.trans H; rw [hy118]; with_reducible exact H2_) | (have H2_ := (Option.bind_some _ _).symm.trans H; with_reducible exact H2_) | with_reducible exact H | (rw [hy118]; exact H) | exact H
           have Ny118 := Aside0.mk hy118; clear hy118; have H' := Aside0.mk H; clear H; obtain ⟨Ao27, co27, eo27⟩ := Kd.R_slice HO_6.out; subst eo27; have p107 : 0 ≤ (x7_1 : Int) := of_decide_eq_true qz4; have q107 : x7_1 < (l0.length : Int) := of_decide_eq_true qz4; obtain ⟨ad107, e107, hx107_0, hx107_1⟩ := at_T231 HR0.out x7_1 p107 q107
           cases e107
           replace hx107_0 := qcb HB hx107_0; replace hx107_1 := qcb HB hx107_1; replace p107 := eq_true p107; replace q107 := eq_true q107; obtain ⟨hcz28_0, hcz28_1, hcz28_2, hcz28_3⟩ := qC4 BK101.out; obtain ⟨hfz28_0, hfz28_1, hfz28_2, hfz28_3⟩ := qF4 BK101.out
           go_wp2_with (first | ((with_reducible refine gate_builtin (b := .append) (xs := #[.tmp 92, .tmp 95]) rfl ?_); at_builtin; refine Kd.R_append (Kd.int .i64) (w0 := w) w.heap.size rfl (.tmp 92) (.tmp 95) 32 3 (.int .i64 0) 8 rfl Try.underlying32 info3 rfl (by decide) (by omega) (.slice Ao27 x6_1.length co27) x6_1 a1_3 [.int .i64 a1_3] (fun _ => True) (fun _ => False) rfl rfl ?aP (fun _ hk => hk.elim) ?aF ?aO ?aB ?aS ?aL ?_; (case aP => exact rfl); (case aB => exact qz25 GE101.out); (case aF => exact qz26); (case aO => exact qz159); (case aS => exact qz28 GE101.out); (case aL => have := LMc26.out; omega); intro v119 w29 ho hb hg hat; rw [← Ny118.out] at ho; have h_ := qA3 (blk_grown (g := gb101) (o := .cells #[.int .i64 a1_0, .int .i64 a1_1, .int .i64 a1_2, .int .i64 a1_3] 75 (0, 0)) (qz8 BK101.out) hg (Kd.R_ne HO_6.out BK101.out (by decide))) (hb) (ho); clear BK101 HB HO_6; obtain ⟨BK101, HB, HO120⟩ := h_; clear ho hb hg hat))
           go_roundg k1
           case measure => have := HK1.out; omega
           case rel => exact ⟨(y118), (wrap64 (x7_1 + 1)), qz2, H', ⟨by have := HK1.out; omega⟩, ⟨qz21 HO120.out⟩, ⟨qz8 BK101.out⟩, ⟨qz10 GE101.out⟩⟩
          ·rw [if_neg c26] at H
           exact absurd H (by simp)
         ·rw [if_neg c25] at H
          have c25b0 : (((rd_T231 l0 x7_1).f0) == 3) = false := beq_eq_false_iff_ne.mpr c25; have c25b1 : (((rd_T231 l0 x7_1).f0) != 3) = true := bne_iff_ne.mpr c25
          by_cases c30 : ((rd_T231 l0 x7_1).f0) = 11
          ·rw [if_pos c30] at H
           have c30b0 : (((rd_T231 l0 x7_1).f0) == 11) = true := beq_iff_eq.mpr c30; have c30b1 : (((rd_T231 l0 x7_1).f0) != 11) = false := bne_eq_false_iff_eq.mpr c30; clear c30; obtain ⟨ji31, hji31⟩ : ∃ j_ : Int, (wrap64 ((x6_1.length : Int) - 1)) = j_ := ⟨_, rfl⟩; replace H : (if 0 ≤ (ji31) then (if (ji31) < (x6_1.length : Int) then ((spec_l03Bool.f ((rd x6_1 (ji31)) == 0)).bind fun t122 => (spec_ExprRun.l0 k1 l0 (x6_1.set ((ji31) : Int).toNat t122) (wrap64 (x7_1 + 1)) a1_0 a1_1 a1_2 a1_3)) else (none)) else (none)) = some (r1, r2) := by first | (rw [hji31] at H; exact H) | (simp only [hji31] at H ⊢; exact H)
           have hji31w : (IntKind.i64.wrap ((x6_1.length : Int) - 1)) = ji31 := (i64_w _).trans hji31
           by_cases c32 : 0 ≤ (ji31)
           ·rw [if_pos c32] at H
            have c32b0 : decide (0 ≤ (ji31)) = true := decide_eq_true c32; clear c32
            by_cases c33 : (ji31) < (x6_1.length : Int)
            ·rw [if_pos c33] at H
             have c33b0 : decide ((ji31) < (x6_1.length : Int)) = true := decide_eq_true c33; clear c33; replace H := qB H; obtain ⟨t122, A34, H⟩ := H
             try dsimp only at H
             obtain ⟨y123, hy123⟩ : ∃ y_ : List Int, y_ = (x6_1.set ((ji31) : Int).toNat t122) := ⟨_, rfl⟩; replace H : (spec_ExprRun.l0 k1 l0 y123 (wrap64 (x7_1 + 1)) a1_0 a1_1 a1_2 a1_3) = some (r1, r2) := by first | (rw [hy123]; with_reducible exact H) | (have H2_ := (Option.bind_some _ _).symm.trans H; rw [hy123]; with_reducible exact H2_) | (have H2_ := (Option.bind_some _ _).symm.trans H; with_reducible exact H2_) | with_reducible exact H | (rw [hy123]; exact H) | exact H
             have Ny123 := Aside0.mk hy123; clear hy123; have H' := Aside0.mk H; clear H; obtain ⟨Ao36, co36, eo36⟩ := Kd.R_slice HO_6.out; subst eo36; have p107 : 0 ≤ (x7_1 : Int) := of_decide_eq_true qz4; have q107 : x7_1 < (l0.length : Int) := of_decide_eq_true qz4; obtain ⟨ad107, e107, hx107_0, hx107_1⟩ := at_T231 HR0.out x7_1 p107 q107
             cases e107
             replace hx107_0 := qcb HB hx107_0; replace hx107_1 := qcb HB hx107_1; replace p107 := eq_true p107; replace q107 := eq_true q107; have p121 : 0 ≤ ((ji31) : Int) := of_decide_eq_true qz4; have q121 : (ji31) < (x6_1.length : Int) := of_decide_eq_true qz4; obtain ⟨ad121, e121, hx121_0⟩ := Kd.at_int (Kd.R_reads' HO_6.out).2.2 (ji31) p121 q121
             cases e121
             replace p121 := eq_true p121; replace q121 := eq_true q121
             go_wp2_with (first | ((with_reducible refine gate_callee (f := 240) rfl ?_); refine goesL_ (some 108) rfl rfl Try.func240 (by kernel_rfl) rfl #[.bool ((rd x6_1 (ji31)) == 0)] rfl (by (try simp only [List.map_toArray, List.map_cons, List.map_nil]); first | done | (simp only [hji31]; rfl) | rfl | (simp only [List.length_drop, List.length_take]; rfl)) ?_; (with_reducible refine (spec_l03Bool.calls ((rd x6_1 (ji31)) == 0) t122 _ A34.out).mono ?_); rintro e w' ⟨rfl, ⟨nd, rfl⟩⟩; refine ⟨_, rfl, ?_⟩; (try (rw [drewN_self wr]; generalize hq_ : World.drewN wr _ = wr; have h_ := qA3 ((⟨by rw [← hq_]; exact qz153⟩ : Aside0 (Kd.R (Kd.int .i64) 3 wr w.heap.size (fun _ => True) (.slice (some ad121) x6_1.length co36) x6_1)).out) ((⟨qz9 BK101.out⟩ : Aside0 (wr.heap[gb101]? = some (.cells #[.int .i64 a1_0, .int .i64 a1_1, .int .i64 a1_2, .int .i64 a1_3] 75 (0, 0)))).out) ((⟨qz11 GE101.out⟩ : Aside0 (Below w.heap.size w wr)).out); clear HO_6 BK101 HB hq_; obtain ⟨HO_6, BK101, HB⟩ := h_)); have p35 : 0 ≤ ((ji31) : Int) := of_decide_eq_true qz4; have q35 : ((ji31) : Int) < ((x6_1.length : Int) : Int) := of_decide_eq_true qz4; obtain ⟨go35, co35, eo35, gb35, gl35, cl35, HG35⟩ := Kd.R_form HO_6.out (by omega); (first | cases eo35 | (injection eo35 with ea_ en_ ec_; (first | subst ea_ | (injection ea_ with ea_; subst ea_)); subst ec_; clear en_)); have GB35 := Aside0.mk gb35; have GG35 := Aside0.mk HG35; clear gb35 gl35 HG35; (first | simp only [add_plain] at hx121_0 | skip); obtain ⟨hx35_0, hf35_0⟩ := Kd.R_celln 0 HO_6.out ((ji31) : Int) p35 q35; replace p35 := eq_true p35; replace q35 := eq_true q35; obtain ⟨hy37_, hz37_⟩ := Kd.R_celln 0 HO_6.out ((ji31) : Int) (of_decide_eq_true qz4) (of_decide_eq_true qz4); have HP37 := Kd.R_putg HO_6.out ((ji31) : Int) t122) | ((with_reducible refine gate_store (t := 3) (p := 109) rfl ?_); refine store_event (t := 3) (p := 109) (v := ?vo_w38) (w1 := (wr.setCell ⟨go35, ((ji31) : Int).toNat, none⟩ (.int .i64 t122))) ?hg ?ho ?hn ?hr ?_; (case ho => rfl); (case hg => rfl); (case hn => rfl); (case hr => exact qz5); intro w38 hw; have hg : wr.grownBy w38 (some go35) := (by rw [hw]; exact HP37.2); have hp_ : Kd.R (Kd.int .i64) 3 w38 w.heap.size (fun _ => True) (.slice (some ⟨go35, 0, none⟩) x6_1.length co36) y123 := (by rw [hw, Ny123.out]; exact HP37.1); clear HP37; have h_ := qA3 (hp_) (blk_grown (g := gb101) (o := .cells #[.int .i64 a1_0, .int .i64 a1_1, .int .i64 a1_2, .int .i64 a1_3] 75 (0, 0)) (qz8 BK101.out) hg (Kd.R_ne HO_6.out BK101.out (by decide))) ((qz163 GB35.out : Below w.heap.size w w38)); clear HO_6 BK101 HB; obtain ⟨HO_6, BK101, HB⟩ := h_; clear hg hw hp_))
             go_roundg k1
             case measure => have := HK1.out; omega
             case rel => exact ⟨(y123), (wrap64 (x7_1 + 1)), qz2, H', ⟨by have := HK1.out; omega⟩, ⟨qz153⟩, ⟨qz8 BK101.out⟩, ⟨qz10 GE101.out⟩⟩
            ·rw [if_neg c33] at H
             exact absurd H (by simp)
           ·rw [if_neg c32] at H
            exact absurd H (by simp)
          ·rw [if_neg c30] at H
           have c30b0 : (((rd_T231 l0 x7_1).f0) == 11) = false := beq_eq_false_iff_ne.mpr c30; have c30b1 : (((rd_T231 l0 x7_1).f0) != 11) = true := bne_iff_ne.mpr c30; obtain ⟨ji39, hji39⟩ : ∃ j_ : Int, (wrap64 ((x6_1.length : Int) - 2)) = j_ := ⟨_, rfl⟩; replace H : (if 0 ≤ (ji39) then (if (ji39) < (x6_1.length : Int) then (if 0 ≤ (wrap64 ((x6_1.length : Int) - 1)) then (if (wrap64 ((x6_1.length : Int) - 1)) < (x6_1.length : Int) then ((spec_l03Two.f k1 ((rd_T231 l0 x7_1).f0) (rd x6_1 (ji39)) (rd x6_1 (wrap64 ((x6_1.length : Int) - 1)))).bind fun bt127 => (if bt127.2.2 = 0 then ((spec_WideInt.f bt127.1 bt127.2.1).bind fun bt131 => (if bt131.2 = true then (if (ji39) ≤ (x6_1.length : Int) then ((some (x6_1.take ((ji39) : Int).toNat : List Int)).bind fun y133 => (if y133.length < 17592186044416 then (spec_ExprRun.l0 k1 l0 (y133 ++ [bt131.1]) (wrap64 (x7_1 + 1)) a1_0 a1_1 a1_2 a1_3) else (none))) else (none)) else (some (0, 2)))) else (some (0, bt127.2.2)))) else (none)) else (none)) else (none)) else (none)) = some (r1, r2) := by first | (rw [hji39] at H; exact H) | (simp only [hji39] at H ⊢; exact H)
           have hji39w : (IntKind.i64.wrap ((x6_1.length : Int) - 2)) = ji39 := (i64_w _).trans hji39
           by_cases c40 : 0 ≤ (ji39)
           ·rw [if_pos c40] at H
            have c40b0 : decide (0 ≤ (ji39)) = true := decide_eq_true c40; clear c40
            by_cases c41 : (ji39) < (x6_1.length : Int)
            ·rw [if_pos c41] at H
             have c41b0 : decide ((ji39) < (x6_1.length : Int)) = true := decide_eq_true c41; clear c41; obtain ⟨ji42, hji42⟩ : ∃ j_ : Int, (wrap64 ((x6_1.length : Int) - 1)) = j_ := ⟨_, rfl⟩; replace H : (if 0 ≤ (ji42) then (if (ji42) < (x6_1.length : Int) then ((spec_l03Two.f k1 ((rd_T231 l0 x7_1).f0) (rd x6_1 (ji39)) (rd x6_1 (ji42))).bind fun bt127 => (if bt127.2.2 = 0 then ((spec_WideInt.f bt127.1 bt127.2.1).bind fun bt131 => (if bt131.2 = true then (if (ji39) ≤ (x6_1.length : Int) then ((some (x6_1.take ((ji39) : Int).toNat : List Int)).bind fun y133 => (if y133.length < 17592186044416 then (spec_ExprRun.l0 k1 l0 (y133 ++ [bt131.1]) (wrap64 (x7_1 + 1)) a1_0 a1_1 a1_2 a1_3) else (none))) else (none)) else (some (0, 2)))) else (some (0, bt127.2.2)))) else (none)) else (none)) = some (r1, r2) := by first | (rw [hji42] at H; exact H) | (simp only [hji42] at H ⊢; exact H)
             have hji42w : (IntKind.i64.wrap ((x6_1.length : Int) - 1)) = ji42 := (i64_w _).trans hji42
             by_cases c43 : 0 ≤ (ji42)
             ·rw [if_pos c43] at H
              have c43b0 : decide (0 ≤ (ji42)) = true := decide_eq_true c43; clear c43
              by_cases c44 : (ji42) < (x6_1.length : Int)
              ·rw [if_pos c44] at H
               have c44b0 : decide ((ji42) < (x6_1.length : Int)) = true := decide_eq_true c44; clear c44; replace H := qB H; obtain ⟨⟨t127, t128, t129⟩, A45, H⟩ := H
               try dsimp only at H
               by_cases c46 : t129 = 0
               ·rw [if_pos c46] at H
                have c46b0 : (t129 == 0) = true := beq_iff_eq.mpr c46; have c46b1 : (t129 != 0) = false := bne_eq_false_iff_eq.mpr c46; clear c46; replace H := qB H; obtain ⟨⟨t131, t132⟩, A47, H⟩ := H
                try dsimp only at H
                by_cases c48 : t132 = true
                ·subst c48
                 rw [if_pos rfl] at H
                 by_cases c49 : (ji39) ≤ (x6_1.length : Int)
                 ·rw [if_pos c49] at H
                  have c49b0 := eq_true c49; have c49b1 : decide ((ji39) ≤ (x6_1.length : Int)) = true := decide_eq_true c49; clear c49; obtain ⟨y133, hy133⟩ : ∃ y_ : List Int, y_ = (x6_1.take ((ji39) : Int).toNat) := ⟨_, rfl⟩; replace H : (if y133.length < 17592186044416 then (spec_ExprRun.l0 k1 l0 (y133 ++ [t131]) (wrap64 (x7_1 + 1)) a1_0 a1_1 a1_2 a1_3) else (none)) = some (r1, r2) := by first | (rw [hy133]; with_reducible exact H) | (have H2_ := (Option.bind_some _ _).symm.trans H; rw [hy133]; with_reducible exact H2_) | (have H2_ := (Option.bind_some _ _).symm.trans H; with_reducible exact H2_) | with_reducible exact H | (rw [hy133]; exact H) | exact H
                  have Ny133 := Aside0.mk hy133; clear hy133
                  by_cases c50 : y133.length < 17592186044416
                  ·rw [if_pos c50] at H
                   have LMc50 := Aside0.mk c50; clear c50; obtain ⟨y136, hy136⟩ : ∃ y_ : List Int, y_ = (y133 ++ [t131]) := ⟨_, rfl⟩; replace H : (spec_ExprRun.l0 k1 l0 y136 (wrap64 (x7_1 + 1)) a1_0 a1_1 a1_2 a1_3) = some (r1, r2) := by first | (rw [hy136]; with_reducible exact H) | (have H2_ := (Option.bind_some _ _).symm.trans H; rw [hy136]; with_reducible exact H2_) | (have H2_ := (Option.bind_some _ _).symm.trans H; with_reducible exact H2_) | with_reducible exact H | (rw [hy136]; exact H) | exact H
                   have Ny136 := Aside0.mk hy136; clear hy136; have H' := Aside0.mk H; clear H; obtain ⟨Ao51, co51, eo51⟩ := Kd.R_slice HO_6.out; subst eo51; have p107 : 0 ≤ (x7_1 : Int) := of_decide_eq_true qz4; have q107 : x7_1 < (l0.length : Int) := of_decide_eq_true qz4; obtain ⟨ad107, e107, hx107_0, hx107_1⟩ := at_T231 HR0.out x7_1 p107 q107
                   cases e107
                   replace hx107_0 := qcb HB hx107_0; replace hx107_1 := qcb HB hx107_1; replace p107 := eq_true p107; replace q107 := eq_true q107
                   try go_wp2
                   have h_ := qA3 (Kd.R_drew HO_6.out) (blk_drew BK101.out) (below_drew1 HB.out); clear HO_6 BK101 HB; obtain ⟨HO_6, BK101, HB⟩ := h_; have p124 : 0 ≤ (x7_1 : Int) := of_decide_eq_true qz4; have q124 : x7_1 < (l0.length : Int) := of_decide_eq_true qz4; obtain ⟨ad124, e124, hx124_0, hx124_1⟩ := at_T231 HR0.out x7_1 p124 q124; have hw124_1 := hx124_1; have hw124_0 := hx124_0; obtain rfl : ad107 = ad124 := (by injection e124)
                   replace hx124_0 := qcb HB hx124_0; replace hx124_1 := qcb HB hx124_1; replace p124 := eq_true p124; replace q124 := eq_true q124; have p125 : 0 ≤ ((ji39) : Int) := of_decide_eq_true qz4; have q125 : (ji39) < (x6_1.length : Int) := of_decide_eq_true qz4; obtain ⟨ad125, e125, hx125_0⟩ := Kd.at_int (Kd.R_reads' HO_6.out).2.2 (ji39) p125 q125
                   cases e125
                   replace p125 := eq_true p125; replace q125 := eq_true q125; have p126 : 0 ≤ ((ji42) : Int) := of_decide_eq_true qz4; have q126 : (ji42) < (x6_1.length : Int) := of_decide_eq_true qz4; obtain ⟨ad126, e126, hx126_0⟩ := Kd.at_int (Kd.R_reads' HO_6.out).2.2 (ji42) p126 q126; obtain rfl : ad125 = ad126 := (by injection e126)
                   replace p126 := eq_true p126; replace q126 := eq_true q126; refine start_ (n := 22) (S := fun w' => w'.cell? (ad107.add ((x7_1).toNat * 2)) = some (.int .i64 ((rd_T231 l0 x7_1).f0)) ∧ w'.cell? ⟨(ad107.add ((x7_1).toNat * 2)).block, (ad107.add ((x7_1).toNat * 2)).off + 1, none⟩ = some (.int .i64 ((rd_T231 l0 x7_1).f1)) ∧ w'.cell? (ad125.add ((ji39)).toNat) = some (.int .i64 (rd x6_1 (ji39))) ∧ w'.cell? (ad125.add ((ji42)).toNat) = some (.int .i64 (rd x6_1 (ji42)))) (ds := []) qb175 (by kernel_rfl) rfl rfl ⟨((HB.out.cell (World.block_lt_of_cell? w _ hw124_0)).trans hw124_0), ((HB.out.cell (World.block_lt_of_cell? w _ hw124_1)).trans hw124_1), hx125_0, hx126_0⟩ (fun hHeld => ?_); refine with_tabW spec_ExprRun.tab9 spec_ExprRun.bits9 (fun HT_ HW_ => ?_)
                   generalize wr.drew = w52 at HO_6 BK101 HB hx124_0 hx124_1 hx125_0 hx126_0 hHeld ⊢
                   refine pure_ (i := 0) (N := some 31) (v := ?_) (a' := ?_) qb176 rfl rfl (any_of HT_.out (by kernel_rfl)) (fun _ _ _ h => h) (Or.inl ⟨by rfl, ?_⟩) ?_ ?_
                   rotate_left
                   ·intro w'
                    go_simp
                    with_reducible rfl
                   rotate_left
                   ·simp only [Act.put, List.setIfInBounds_toArray, List.set_cons_zero, List.set_cons_succ, i64_w, i32_w]
                    rfl
                   refine pure_ (i := 1) (N := some 32) (v := ?_) (a' := ?_) qb177 rfl rfl (any_of HT_.out (by kernel_rfl)) (fun _ _ _ h => h) (Or.inl ⟨by rfl, ?_⟩) ?_ ?_
                   rotate_left
                   ·intro w'
                    go_simp
                    with_reducible rfl
                   rotate_left
                   ·simp only [Act.put, List.setIfInBounds_toArray, List.set_cons_zero, List.set_cons_succ, i64_w, i32_w]
                    rfl
                   refine pure_ (i := 2) (N := some 33) (v := ?_) (a' := ?_) qb178 rfl rfl (any_of HT_.out (by kernel_rfl)) (fun _ _ _ h => h) (Or.inl ⟨by rfl, ?_⟩) ?_ ?_
                   rotate_left
                   ·intro w'
                    go_simp
                    with_reducible rfl
                   rotate_left
                   ·simp only [Act.put, List.setIfInBounds_toArray, List.set_cons_zero, List.set_cons_succ, i64_w, i32_w]
                    rfl
                   refine pure_ (i := 3) (N := some 34) (v := ?_) (a' := ?_) qb199 rfl rfl (any_of HT_.out (by kernel_rfl)) (fun _ _ _ h => h) (Or.inl ⟨by rfl, ?_⟩) ?_ ?_
                   rotate_left
                   ·intro w'
                    go_simp
                    with_reducible rfl
                   rotate_left
                   ·simp only [Act.put, List.setIfInBounds_toArray, List.set_cons_zero, List.set_cons_succ, i64_w, i32_w]
                    rfl
                   refine pure_ (i := 5) (N := some 36) (v := ?_) (a' := ?_) qb542 rfl rfl (any_of HT_.out (by kernel_rfl)) (fun _ _ _ h => h) (Or.inl ⟨by rfl, ?_⟩) ?_ ?_
                   rotate_left
                   ·intro w'
                    go_simp
                    with_reducible rfl
                   rotate_left
                   ·simp only [Act.put, List.setIfInBounds_toArray, List.set_cons_zero, List.set_cons_succ, i64_w, i32_w]
                    rfl
                   refine pure_ (i := 6) (N := some 37) (v := ?_) (a' := ?_) qb543 rfl rfl (any_of HT_.out (by kernel_rfl)) (fun _ _ _ h => h) (Or.inl ⟨by rfl, ?_⟩) ?_ ?_
                   rotate_left
                   ·intro w'
                    go_simp
                    with_reducible rfl
                   rotate_left
                   ·simp only [Act.put, List.setIfInBounds_toArray, List.set_cons_zero, List.set_cons_succ, i64_w, i32_w]
                    rfl
                   refine pure_ (i := 7) (N := some 38) (v := ?_) (a' := ?_) qb544 rfl rfl (any_of HT_.out (by kernel_rfl)) (fun _ _ _ h => h) (Or.inl ⟨by rfl, ?_⟩) ?_ ?_
                   rotate_left
                   ·intro w'
                    go_simp
                    with_reducible rfl
                   rotate_left
                   ·simp only [Act.put, List.setIfInBounds_toArray, List.set_cons_zero, List.set_cons_succ, i64_w, i32_w]
                    rfl
                   refine pure_ (i := 8) (N := some 39) (v := ?_) (a' := ?_) qb545 rfl rfl (any_of HT_.out (by kernel_rfl)) (fun _ _ _ h => h) (Or.inl ⟨by rfl, ?_⟩) ?_ ?_
                   rotate_left
                   ·intro w'
                    go_simp
                    with_reducible rfl
                   rotate_left
                   ·simp only [Act.put, List.setIfInBounds_toArray, List.set_cons_zero, List.set_cons_succ, i64_w, i32_w]
                    rfl
                   refine pure_ (i := 10) (N := some 41) (v := ?_) (a' := ?_) qb546 rfl rfl (any_of HT_.out (by kernel_rfl)) (fun _ _ _ h => h) (Or.inl ⟨by rfl, ?_⟩) ?_ ?_
                   rotate_left
                   ·intro w'
                    go_simp
                    with_reducible rfl
                   rotate_left
                   ·simp only [Act.put, List.setIfInBounds_toArray, List.set_cons_zero, List.set_cons_succ, i64_w, i32_w]
                    rfl
                   refine pure_ (i := 11) (N := some 42) (v := ?_) (a' := ?_) qb547 rfl rfl (any_of HT_.out (by kernel_rfl)) (fun _ _ _ h => h) (Or.inl ⟨by rfl, ?_⟩) ?_ ?_
                   rotate_left
                   ·intro w'
                    go_simp
                    with_reducible rfl
                   rotate_left
                   ·simp only [Act.put, List.setIfInBounds_toArray, List.set_cons_zero, List.set_cons_succ, i64_w, i32_w]
                    rfl
                   refine pure_ (i := 12) (N := some 43) (v := ?_) (a' := ?_) qb548 rfl rfl (any_of HT_.out (by kernel_rfl)) (fun _ _ _ h => h) (Or.inl ⟨by rfl, ?_⟩) ?_ ?_
                   rotate_left
                   ·intro w'
                    go_simp
                    with_reducible rfl
                   rotate_left
                   ·simp only [Act.put, List.setIfInBounds_toArray, List.set_cons_zero, List.set_cons_succ, i64_w, i32_w]
                    rfl
                   refine pure_ (i := 13) (N := some 44) (v := ?_) (a' := ?_) qb549 rfl rfl (any_of HT_.out (by kernel_rfl)) (fun _ _ _ h => h) (Or.inl ⟨by rfl, ?_⟩) ?_ ?_
                   rotate_left
                   ·intro w'
                    go_simp
                    with_reducible rfl
                   rotate_left
                   ·simp only [Act.put, List.setIfInBounds_toArray, List.set_cons_zero, List.set_cons_succ, i64_w, i32_w]
                    rfl
                   refine take_ (i := 4) (N := some 35) (v := ?_) (a' := ?_) qb550 rfl rfl (take_ofW HT_.out HW_.out (by kernel_rfl)) (fun _ _ _ h => h) (Or.inl ⟨by rfl, ?_⟩) hHeld ?_ ?_
                   rotate_left
                   ·rintro w' ⟨s0, s1, s2, s3⟩
                    go_simp
                    with_reducible rfl
                   rotate_left
                   ·simp only [Act.put, List.setIfInBounds_toArray, List.set_cons_zero, List.set_cons_succ, i64_w, i32_w]
                    rfl
                   refine take_ (i := 9) (N := some 40) (v := ?_) (a' := ?_) qb189 rfl rfl (take_ofW HT_.out HW_.out (by kernel_rfl)) (fun _ _ _ h => h) (Or.inl ⟨by rfl, ?_⟩) hHeld ?_ ?_
                   rotate_left
                   ·rintro w' ⟨s0, s1, s2, s3⟩
                    go_simp
                    with_reducible rfl
                   rotate_left
                   ·simp only [Act.put, List.setIfInBounds_toArray, List.set_cons_zero, List.set_cons_succ, i64_w, i32_w]
                    rfl
                   refine take_ (i := 14) (N := some 45) (v := ?_) (a' := ?_) qb190 rfl rfl (take_ofW HT_.out HW_.out (by kernel_rfl)) (fun _ _ _ h => h) (Or.inl ⟨by rfl, ?_⟩) hHeld ?_ ?_
                   rotate_left
                   ·rintro w' ⟨s0, s1, s2, s3⟩
                    go_simp
                    with_reducible rfl
                   rotate_left
                   ·simp only [Act.put, List.setIfInBounds_toArray, List.set_cons_zero, List.set_cons_succ, i64_w, i32_w]
                    rfl
                   refine join_ (σ := Nat) 2 qb195 (fun s_ => [(46, .tuple #[.agg #[.int .i64 t127, .int .u64 t128], .int .i64 t129]), (9, .pointer (some ⟨s_, 0, none⟩)), (30, .tuple #[.agg #[.int .i64 t127, .int .u64 t128], .int .i64 t129]), (47, .agg #[.int .i64 t127, .int .u64 t128]), (48, .int .i64 t129)]) (fun s_ w' => (w'.cell? (ad107.add ((x7_1).toNat * 2)) = some (.int .i64 ((rd_T231 l0 x7_1).f0)) ∧ w'.cell? ⟨(ad107.add ((x7_1).toNat * 2)).block, (ad107.add ((x7_1).toNat * 2)).off + 1, none⟩ = some (.int .i64 ((rd_T231 l0 x7_1).f1)) ∧ w'.cell? (ad125.add ((ji39)).toNat) = some (.int .i64 (rd x6_1 (ji39))) ∧ w'.cell? (ad125.add ((ji42)).toNat) = some (.int .i64 (rd x6_1 (ji42)))) ∧ (Kd.R (Kd.int .i64) 3 w' w.heap.size (fun _ => True) (.slice (some ad125) x6_1.length co51) x6_1) ∧ (w'.heap[gb101]? = some (.cells #[.int .i64 a1_0, .int .i64 a1_1, .int .i64 a1_2, .int .i64 a1_3] 75 (0, 0))) ∧ (w'.heap[s_]? = some (.cells #[.int .i64 0, .int .u64 0] 234 (0, 0))) ∧ (w.heap.size ≤ s_) ∧ (w.heap.size ≤ s_) ∧ (gb101 ≠ s_) ∧ (s_ ≠ gb101) ∧ (Below w.heap.size w w')) ?_ ?_
                   rotate_left
                   ·intro hCont
                    refine two_ (i := 15) (j := 19) (Ni := some 46) (Nj := some 9) qb191 qb551 rfl rfl rfl rfl (two_of HT_.out (by kernel_rfl)) (by decide) (by decide) (fun K hK => ?_) (fun K hK => ?_)
                    ·skip
                     refine goes_ Try.func241 (by kernel_rfl) rfl #[.int .i64 ((rd_T231 l0 x7_1).f0), .int .i64 (rd x6_1 (ji39)), .int .i64 (rd x6_1 (ji42))] (by rfl) rfl rfl qz339 ?_
                     with_reducible refine (spec_l03Two.calls k1 ((rd_T231 l0 x7_1).f0) (rd x6_1 (ji39)) (rd x6_1 (ji42)) t127 t128 t129 _ A45.out).mono ?_
                     rintro e w53 ⟨rfl, hb⟩
                     have HS2_ := (hb.cell (World.block_lt_of_cell? _ _ (hHeld.2.2.1))).trans (hHeld.2.2.1); have HS3_ := (hb.cell (World.block_lt_of_cell? _ _ (hHeld.2.2.2))).trans (hHeld.2.2.2); refine ⟨_, rfl, ?_⟩; have h_ := qA3 (Kd.R_below qz153 hb) (blk_below (g := gb101) (o := .cells #[.int .i64 a1_0, .int .i64 a1_1, .int .i64 a1_2, .int .i64 a1_3] 75 (0, 0)) (qz8 BK101.out) hb) (below_step (qz10 GE101.out) hb); clear HO_6 BK101 HB; obtain ⟨HO_6, BK101, HB⟩ := h_; (try clear hb); (try clear hb2); (try clear hk); (try clear hi); refine hK.out _ _ ⟨((HB.out.cell (World.block_lt_of_cell? w _ hw124_0)).trans hw124_0), ((HB.out.cell (World.block_lt_of_cell? w _ hw124_1)).trans hw124_1), HS2_, HS3_⟩ (fun hHeld => ?_)
                     clear hK K; refine norm_ (a' := ?_) ?_ ?_; rotate_left
                     ·show Act.put _ (some 46) _ = _
                      simp only [Act.put, List.setIfInBounds_toArray, List.set_cons_zero, List.set_cons_succ, i64_w, i32_w]
                      rfl
                     refine pure_ (i := 16) (N := some 30) (v := ?_) (a' := ?_) qb198 rfl rfl (any_of HT_.out (by kernel_rfl)) (fun _ _ _ h => h) (Or.inl ⟨by rfl, ?_⟩) ?_ ?_
                     rotate_left
                     ·intro w'
                      go_simp
                      with_reducible rfl
                     rotate_left
                     ·simp only [Act.put, List.setIfInBounds_toArray, List.set_cons_zero, List.set_cons_succ, i64_w, i32_w]
                      rfl
                     refine pure_ (i := 17) (N := some 47) (v := ?_) (a' := ?_) qb193 rfl rfl (any_of HT_.out (by kernel_rfl)) (fun _ _ _ h => h) (Or.inl ⟨by rfl, ?_⟩) ?_ ?_
                     rotate_left
                     ·intro w'
                      go_simp
                      with_reducible rfl
                     rotate_left
                     ·simp only [Act.put, List.setIfInBounds_toArray, List.set_cons_zero, List.set_cons_succ, i64_w, i32_w]
                      rfl
                     refine pure_ (i := 18) (N := some 48) (v := ?_) (a' := ?_) qb194 rfl rfl (any_of HT_.out (by kernel_rfl)) (fun _ _ _ h => h) (Or.inl ⟨by rfl, ?_⟩) ?_ ?_
                     rotate_left
                     ·intro w'
                      go_simp
                      with_reducible rfl
                     rotate_left
                     ·simp only [Act.put, List.setIfInBounds_toArray, List.set_cons_zero, List.set_cons_succ, i64_w, i32_w]
                      rfl
                     refine one_ (i := 19) (N := some 9) qb195 rfl rfl (one_of HT_.out (by kernel_rfl)) (by decide) (fun K hK => ?_)
                     refine box_step ?hg (N := 9) ?hd (cs := #[.int .i64 0, .int .u64 0]) (t := 234) ?hr ?_; (case hd => rfl); (case hg => rfl); (case hr => exact qz5)
                     intro gb130 hg w54 hbox hb
                     have HS2_ := (hb.cell (World.block_lt_of_cell? _ _ (hHeld.2.2.1))).trans (hHeld.2.2.1); have HS3_ := (hb.cell (World.block_lt_of_cell? _ _ (hHeld.2.2.2))).trans (hHeld.2.2.2); have h_ := qA8 (Kd.R_below qz153 hb) (blk_below (g := gb101) (o := .cells #[.int .i64 a1_0, .int .i64 a1_1, .int .i64 a1_2, .int .i64 a1_3] 75 (0, 0)) (qz8 BK101.out) hb) (below_step (qz10 GE101.out) hb) (hbox) ((qz38 GE101.out : w.heap.size ≤ gb130)) ((qz38 GE101.out : w.heap.size ≤ gb130)) ((qz154 BK101.out : gb101 ≠ gb130)) ((qz155 BK101.out : gb130 ≠ gb101)); clear HO_6 BK101 HB; obtain ⟨HO_6, BK101, HB, BK130, GW130, GE130, NB101_130, NB130_101⟩ := h_; clear hb hbox hg; refine hK.out _ _ ⟨((HB.out.cell (World.block_lt_of_cell? w _ hw124_0)).trans hw124_0), ((HB.out.cell (World.block_lt_of_cell? w _ hw124_1)).trans hw124_1), HS2_, HS3_⟩ (fun hHeld => ?_)
                     clear hK K; refine norm_ (a' := ?_) ?_ ?_; rotate_left
                     ·show Act.put _ (some 9) _ = _
                      simp only [Act.put, List.setIfInBounds_toArray, List.set_cons_zero, List.set_cons_succ, i64_w, i32_w]
                      rfl
                     exact norm_ qz85 (hCont (gb130) _ ⟨hHeld, qz153, (qz8 BK101.out), (qz8 BK130.out), GW130.out, GE130.out, NB101_130.out, NB130_101.out, (qz43 GE101.out GE130.out)⟩)
                    ·skip
                     refine box_step ?hg (N := 9) ?hd (cs := #[.int .i64 0, .int .u64 0]) (t := 234) ?hr ?_; (case hd => rfl); (case hg => rfl); (case hr => exact qz5)
                     intro gb130 hg w53 hbox hb
                     have HS2_ := (hb.cell (World.block_lt_of_cell? _ _ (hHeld.2.2.1))).trans (hHeld.2.2.1); have HS3_ := (hb.cell (World.block_lt_of_cell? _ _ (hHeld.2.2.2))).trans (hHeld.2.2.2); have h_ := qA8 (Kd.R_below qz153 hb) (blk_below (g := gb101) (o := .cells #[.int .i64 a1_0, .int .i64 a1_1, .int .i64 a1_2, .int .i64 a1_3] 75 (0, 0)) (qz8 BK101.out) hb) (below_step (qz10 GE101.out) hb) (hbox) ((qz38 GE101.out : w.heap.size ≤ gb130)) ((qz38 GE101.out : w.heap.size ≤ gb130)) ((qz154 BK101.out : gb101 ≠ gb130)) ((qz155 BK101.out : gb130 ≠ gb101)); clear HO_6 BK101 HB; obtain ⟨HO_6, BK101, HB, BK130, GW130, GE130, NB101_130, NB130_101⟩ := h_; clear hb hbox hg; refine hK.out _ _ ⟨((HB.out.cell (World.block_lt_of_cell? w _ hw124_0)).trans hw124_0), ((HB.out.cell (World.block_lt_of_cell? w _ hw124_1)).trans hw124_1), HS2_, HS3_⟩ (fun hHeld => ?_)
                     clear hK K; refine norm_ (a' := ?_) ?_ ?_; rotate_left
                     ·show Act.put _ (some 9) _ = _
                      simp only [Act.put, List.setIfInBounds_toArray, List.set_cons_zero, List.set_cons_succ, i64_w, i32_w]
                      rfl
                     refine one_ (i := 15) (N := some 46) qb552 rfl rfl (one_of HT_.out (by kernel_rfl)) (by decide) (fun K hK => ?_)
                     refine goes_ Try.func241 (by kernel_rfl) rfl #[.int .i64 ((rd_T231 l0 x7_1).f0), .int .i64 (rd x6_1 (ji39)), .int .i64 (rd x6_1 (ji42))] (by rfl) rfl rfl qz339 ?_
                     with_reducible refine (spec_l03Two.calls k1 ((rd_T231 l0 x7_1).f0) (rd x6_1 (ji39)) (rd x6_1 (ji42)) t127 t128 t129 _ A45.out).mono ?_
                     rintro e w54 ⟨rfl, hb⟩
                     have HS2_ := (hb.cell (World.block_lt_of_cell? _ _ (hHeld.2.2.1))).trans (hHeld.2.2.1); have HS3_ := (hb.cell (World.block_lt_of_cell? _ _ (hHeld.2.2.2))).trans (hHeld.2.2.2); refine ⟨_, rfl, ?_⟩; have h_ := qA4 (Kd.R_below qz153 hb) (blk_below (g := gb101) (o := .cells #[.int .i64 a1_0, .int .i64 a1_1, .int .i64 a1_2, .int .i64 a1_3] 75 (0, 0)) (qz8 BK101.out) hb) (blk_below (g := gb130) (o := .cells #[.int .i64 0, .int .u64 0] 234 (0, 0)) (qz8 BK130.out) hb) (below_step (qz43 GE101.out GE130.out) hb); clear HO_6 BK101 BK130 HB; obtain ⟨HO_6, BK101, BK130, HB⟩ := h_; (try clear hb); (try clear hb2); (try clear hk); (try clear hi); refine hK.out _ _ ⟨((HB.out.cell (World.block_lt_of_cell? w _ hw124_0)).trans hw124_0), ((HB.out.cell (World.block_lt_of_cell? w _ hw124_1)).trans hw124_1), HS2_, HS3_⟩ (fun hHeld => ?_)
                     clear hK K; refine norm_ (a' := ?_) ?_ ?_; rotate_left
                     ·show Act.put _ (some 46) _ = _
                      simp only [Act.put, List.setIfInBounds_toArray, List.set_cons_zero, List.set_cons_succ, i64_w, i32_w]
                      rfl
                     refine pure_ (i := 16) (N := some 30) (v := ?_) (a' := ?_) qb553 rfl rfl (any_of HT_.out (by kernel_rfl)) (fun _ _ _ h => h) (Or.inl ⟨by rfl, ?_⟩) ?_ ?_
                     rotate_left
                     ·intro w'
                      go_simp
                      with_reducible rfl
                     rotate_left
                     ·simp only [Act.put, List.setIfInBounds_toArray, List.set_cons_zero, List.set_cons_succ, i64_w, i32_w]
                      rfl
                     refine pure_ (i := 17) (N := some 47) (v := ?_) (a' := ?_) qb554 rfl rfl (any_of HT_.out (by kernel_rfl)) (fun _ _ _ h => h) (Or.inl ⟨by rfl, ?_⟩) ?_ ?_
                     rotate_left
                     ·intro w'
                      go_simp
                      with_reducible rfl
                     rotate_left
                     ·simp only [Act.put, List.setIfInBounds_toArray, List.set_cons_zero, List.set_cons_succ, i64_w, i32_w]
                      rfl
                     refine pure_ (i := 18) (N := some 48) (v := ?_) (a' := ?_) qb195 rfl rfl (any_of HT_.out (by kernel_rfl)) (fun _ _ _ h => h) (Or.inl ⟨by rfl, ?_⟩) ?_ ?_
                     rotate_left
                     ·intro w'
                      go_simp
                      with_reducible rfl
                     rotate_left
                     ·simp only [Act.put, List.setIfInBounds_toArray, List.set_cons_zero, List.set_cons_succ, i64_w, i32_w]
                      rfl
                     exact norm_ qz85 (hCont (gb130) _ ⟨hHeld, qz153, (qz8 BK101.out), (qz8 BK130.out), GW130.out, GE130.out, NB101_130.out, NB130_101.out, (qz43 GE101.out GE130.out)⟩)
                   rintro gb130 w55 ⟨hS_, h0_, h1_, h2_, h3_, h4_, h5_, h6_, h7_⟩
                   have h_ := qA8 ((⟨h0_⟩ : Aside0 (Kd.R (Kd.int .i64) 3 w55 w.heap.size (fun _ => True) (.slice (some ad125) x6_1.length co51) x6_1)).out) ((⟨h1_⟩ : Aside0 (w55.heap[gb101]? = some (.cells #[.int .i64 a1_0, .int .i64 a1_1, .int .i64 a1_2, .int .i64 a1_3] 75 (0, 0)))).out) ((⟨h2_⟩ : Aside0 (w55.heap[gb130]? = some (.cells #[.int .i64 0, .int .u64 0] 234 (0, 0)))).out) ((⟨h3_⟩ : Aside0 (w.heap.size ≤ gb130)).out) ((⟨h4_⟩ : Aside0 (w.heap.size ≤ gb130)).out) ((⟨h5_⟩ : Aside0 (gb101 ≠ gb130)).out) ((⟨h6_⟩ : Aside0 (gb130 ≠ gb101)).out) ((⟨h7_⟩ : Aside0 (Below w.heap.size w w55)).out)
                   clear HO_6 BK101 HB h0_ h1_ h2_ h3_ h4_ h5_ h6_ h7_; obtain ⟨HO_6, BK101, BK130, GW130, GE130, NB101_130, NB130_101, HB⟩ := h_; have hHeld : w55.cell? (ad107.add ((x7_1).toNat * 2)) = some (.int .i64 ((rd_T231 l0 x7_1).f0)) ∧ w55.cell? ⟨(ad107.add ((x7_1).toNat * 2)).block, (ad107.add ((x7_1).toNat * 2)).off + 1, none⟩ = some (.int .i64 ((rd_T231 l0 x7_1).f1)) ∧ w55.cell? (ad125.add ((ji39)).toNat) = some (.int .i64 (rd x6_1 (ji39))) ∧ w55.cell? (ad125.add ((ji42)).toNat) = some (.int .i64 (rd x6_1 (ji42))) := hS_; refine norm_ (a' := ?_) ?_ ?_; rotate_left
                   ·simp only [putAll, Act.put, List.setIfInBounds_toArray, List.set_cons_zero, List.set_cons_succ]
                    rfl
                   refine one_ (i := 20) (N := none) qb196 rfl rfl (one_of HT_.out (by kernel_rfl)) (by decide) (fun K hK => ?_)
                   have hs56 : w55.cell? ⟨gb130, 0, none⟩ = some (.int .i64 0) := (blk_cell BK130.out 0).trans rfl; have hfs56 := blk_frozen BK130.out 0; have hns56_0 := NB101_130.out; have hms56_0 := NB130_101.out; have hs57 : w55.cell? ⟨gb130, 1, none⟩ = some (.int .u64 0) := (blk_cell BK130.out 1).trans rfl; have hfs57 := blk_frozen BK130.out 1; have hns57_0 := NB101_130.out; have hms57_0 := NB130_101.out; refine skip_ (w1 := ?_) ?sa ?sb ?_ ?_
                   (case sa => rfl)
                   (case sb => rfl)
                   rotate_left
                   ·go_simp
                    rfl
                   refine hK.out _ _ ⟨((cell_far (p := ⟨gb130, _, none⟩) (qz110 hw124_0 GW130.out) _).trans (((cell_far (p := ⟨gb130, _, none⟩) (qz110 hw124_0 GW130.out) _).trans (hHeld.1)))), ((cell_far (p := ⟨gb130, _, none⟩) (qz110 hw124_1 GW130.out) _).trans (((cell_far (p := ⟨gb130, _, none⟩) (qz110 hw124_1 GW130.out) _).trans (hHeld.2.1)))), ((cell_far (p := ⟨gb130, _, none⟩) (qz340 BK130.out) _).trans (((cell_far (p := ⟨gb130, _, none⟩) (qz340 BK130.out) _).trans (hHeld.2.2.1)))), ((cell_far (p := ⟨gb130, _, none⟩) (qz340 BK130.out) _).trans (((cell_far (p := ⟨gb130, _, none⟩) (qz340 BK130.out) _).trans (hHeld.2.2.2))))⟩ (fun hHeld => ?_)
                   clear hK K; refine pure_ (i := 21) (N := some 10) (v := ?_) (a' := ?_) qb197 rfl rfl (any_of HT_.out (by kernel_rfl)) (fun _ _ _ h => h) (Or.inl ⟨by rfl, ?_⟩) ?_ ?_
                   rotate_left
                   ·intro w'
                    go_simp
                    with_reducible rfl
                   rotate_left
                   ·simp only [Act.put, List.setIfInBounds_toArray, List.set_cons_zero, List.set_cons_succ, i64_w, i32_w]
                    rfl
                   refine done_ (done_of HT_.out (by kernel_rfl)) ?_
                   have hnb58 := NB130_101.out; have hnc58 := NB101_130.out; obtain ⟨hcz59_0, hcz59_1⟩ := qC2 BK130.out; obtain ⟨hfz59_0, hfz59_1⟩ := qF2 BK130.out
                   try go_wp2_with (first | ((with_reducible refine gate_callee (f := 242) rfl ?_); refine goesL_ (some 54) rfl rfl Try.func242 (by kernel_rfl) rfl #[.agg #[.int .i64 t127, .int .u64 t128]] rfl qz1 ?_; (with_reducible refine (spec_WideInt.calls t127 t128 t131 true _ A47.out).mono ?_); rintro e w60 ⟨rfl, hb⟩; refine ⟨_, rfl, ?_⟩; have h_ := qA4 (Kd.R_below (qz341 BK130.out) hb) (blk_below (g := gb101) (o := .cells #[.int .i64 a1_0, .int .i64 a1_1, .int .i64 a1_2, .int .i64 a1_3] 75 (0, 0)) (qz41 NB101_130.out BK101.out) hb) (blk_below (g := gb130) (o := .cells #[.int .i64 t127, .int .u64 t128] 234 (0, 0)) (qz244 BK130.out) hb) (below_step (qz43 GE101.out GE130.out) hb); clear HO_6 BK101 BK130 HB; obtain ⟨HO_6, BK101, BK130, HB⟩ := h_; (try clear hb); (try clear hb2); (try clear hk); (try clear hi); have q61 : ((ji39) : Int) ≤ ((x6_1.length : Int) : Int) := of_decide_eq_true qz4; obtain ⟨i061, hi061, _, hsz61, _⟩ := info_parts info3; have hcut61 := cut_to (P := Try.prog) 32 3 .i64 Try.underlying32 hi061 (some ad125) x6_1.length co51 (ji39) (of_decide_eq_true qz4) q61 (Kd.R_reads' HO_6.out).2.1; have hr61 := Kd.R_take (m := ((ji39) : Int).toNat) HO_6.out (by omega); have hy61 : y133.length = ((ji39) : Int).toNat := (by rw [Ny133.out, List.length_take]; omega); rw [← Ny133.out] at hr61; rw [← hy61] at hr61 hcut61; clear hy61 hi061 hsz61 HO_6; have HO135 := Aside0.mk hr61; clear hr61; replace q61 := eq_true q61) | ((with_reducible refine gate_builtin (b := .append) (xs := #[.tmp 62, .tmp 64]) rfl ?_); at_builtin; refine Kd.R_append (Kd.int .i64) (w0 := w) w.heap.size rfl (.tmp 62) (.tmp 64) 32 3 (.int .i64 0) 8 rfl Try.underlying32 info3 rfl (by decide) (by omega) (.slice (some ad125) y133.length co51) y133 t131 [.int .i64 t131] (fun _ => True) (fun _ => False) rfl rfl ?aP (fun _ hk => hk.elim) ?aF ?aO ?aB ?aS ?aL ?_; (case aP => exact rfl); (case aB => exact qz158 GE101.out GE130.out); (case aF => exact qz26); (case aO => exact qz80 HO135.out); (case aS => exact qz160 GE101.out GE130.out); (case aL => have := LMc50.out; omega); intro v137 w62 ho hb hg hat; rw [← Ny136.out] at ho; have h_ := qA4 (blk_grown (g := gb101) (o := .cells #[.int .i64 a1_0, .int .i64 a1_1, .int .i64 a1_2, .int .i64 a1_3] 75 (0, 0)) (qz8 BK101.out) hg (Kd.R_ne HO135.out BK101.out (by decide))) (blk_grown (g := gb130) (o := .cells #[.int .i64 t127, .int .u64 t128] 234 (0, 0)) (qz8 BK130.out) hg (Kd.R_ne HO135.out BK130.out (by decide))) (hb) (ho); clear BK101 BK130 HB HO135; obtain ⟨BK101, BK130, HB, HO138⟩ := h_; clear ho hb hg hat))
                   go_roundg k1
                   case measure => have := HK1.out; omega
                   case rel => exact ⟨(y136), (wrap64 (x7_1 + 1)), qz2, H', ⟨by have := HK1.out; omega⟩, ⟨qz21 HO138.out⟩, ⟨qz8 BK101.out⟩, ⟨qz43 GE101.out GE130.out⟩⟩
                  ·rw [if_neg c50] at H
                   exact absurd H (by simp)
                 ·rw [if_neg c49] at H
                  exact absurd H (by simp)
                ·replace c48 := Bool.eq_false_iff.mpr c48
                 subst c48; rw [if_neg (show ¬ (false = true) by decide)] at H
                 simp only [Option.some.injEq, Prod.mk.injEq] at H
                 obtain ⟨rfl, rfl⟩ := H; obtain ⟨Ao63, co63, eo63⟩ := Kd.R_slice HO_6.out; subst eo63; have p107 : 0 ≤ (x7_1 : Int) := of_decide_eq_true qz4; have q107 : x7_1 < (l0.length : Int) := of_decide_eq_true qz4; obtain ⟨ad107, e107, hx107_0, hx107_1⟩ := at_T231 HR0.out x7_1 p107 q107
                 cases e107
                 replace hx107_0 := qcb HB hx107_0; replace hx107_1 := qcb HB hx107_1; replace p107 := eq_true p107; replace q107 := eq_true q107
                 try go_wp2
                 have h_ := qA3 (Kd.R_drew HO_6.out) (blk_drew BK101.out) (below_drew1 HB.out); clear HO_6 BK101 HB; obtain ⟨HO_6, BK101, HB⟩ := h_; have p124 : 0 ≤ (x7_1 : Int) := of_decide_eq_true qz4; have q124 : x7_1 < (l0.length : Int) := of_decide_eq_true qz4; obtain ⟨ad124, e124, hx124_0, hx124_1⟩ := at_T231 HR0.out x7_1 p124 q124; have hw124_1 := hx124_1; have hw124_0 := hx124_0; obtain rfl : ad107 = ad124 := (by injection e124)
                 replace hx124_0 := qcb HB hx124_0; replace hx124_1 := qcb HB hx124_1; replace p124 := eq_true p124; replace q124 := eq_true q124; have p125 : 0 ≤ ((ji39) : Int) := of_decide_eq_true qz4; have q125 : (ji39) < (x6_1.length : Int) := of_decide_eq_true qz4; obtain ⟨ad125, e125, hx125_0⟩ := Kd.at_int (Kd.R_reads' HO_6.out).2.2 (ji39) p125 q125
                 cases e125
                 replace p125 := eq_true p125; replace q125 := eq_true q125; have p126 : 0 ≤ ((ji42) : Int) := of_decide_eq_true qz4; have q126 : (ji42) < (x6_1.length : Int) := of_decide_eq_true qz4; obtain ⟨ad126, e126, hx126_0⟩ := Kd.at_int (Kd.R_reads' HO_6.out).2.2 (ji42) p126 q126; obtain rfl : ad125 = ad126 := (by injection e126)
                 replace p126 := eq_true p126; replace q126 := eq_true q126; refine start_ (n := 22) (S := fun w' => w'.cell? (ad107.add ((x7_1).toNat * 2)) = some (.int .i64 ((rd_T231 l0 x7_1).f0)) ∧ w'.cell? ⟨(ad107.add ((x7_1).toNat * 2)).block, (ad107.add ((x7_1).toNat * 2)).off + 1, none⟩ = some (.int .i64 ((rd_T231 l0 x7_1).f1)) ∧ w'.cell? (ad125.add ((ji39)).toNat) = some (.int .i64 (rd x6_1 (ji39))) ∧ w'.cell? (ad125.add ((ji42)).toNat) = some (.int .i64 (rd x6_1 (ji42)))) (ds := []) qb175 (by kernel_rfl) rfl rfl ⟨((HB.out.cell (World.block_lt_of_cell? w _ hw124_0)).trans hw124_0), ((HB.out.cell (World.block_lt_of_cell? w _ hw124_1)).trans hw124_1), hx125_0, hx126_0⟩ (fun hHeld => ?_); refine with_tabW spec_ExprRun.tab9 spec_ExprRun.bits9 (fun HT_ HW_ => ?_)
                 generalize wr.drew = w64 at HO_6 BK101 HB hx124_0 hx124_1 hx125_0 hx126_0 hHeld ⊢
                 refine pure_ (i := 0) (N := some 31) (v := ?_) (a' := ?_) qb176 rfl rfl (any_of HT_.out (by kernel_rfl)) (fun _ _ _ h => h) (Or.inl ⟨by rfl, ?_⟩) ?_ ?_
                 rotate_left
                 ·intro w'
                  go_simp
                  with_reducible rfl
                 rotate_left
                 ·simp only [Act.put, List.setIfInBounds_toArray, List.set_cons_zero, List.set_cons_succ, i64_w, i32_w]
                  rfl
                 refine pure_ (i := 1) (N := some 32) (v := ?_) (a' := ?_) qb177 rfl rfl (any_of HT_.out (by kernel_rfl)) (fun _ _ _ h => h) (Or.inl ⟨by rfl, ?_⟩) ?_ ?_
                 rotate_left
                 ·intro w'
                  go_simp
                  with_reducible rfl
                 rotate_left
                 ·simp only [Act.put, List.setIfInBounds_toArray, List.set_cons_zero, List.set_cons_succ, i64_w, i32_w]
                  rfl
                 refine pure_ (i := 2) (N := some 33) (v := ?_) (a' := ?_) qb178 rfl rfl (any_of HT_.out (by kernel_rfl)) (fun _ _ _ h => h) (Or.inl ⟨by rfl, ?_⟩) ?_ ?_
                 rotate_left
                 ·intro w'
                  go_simp
                  with_reducible rfl
                 rotate_left
                 ·simp only [Act.put, List.setIfInBounds_toArray, List.set_cons_zero, List.set_cons_succ, i64_w, i32_w]
                  rfl
                 refine pure_ (i := 3) (N := some 34) (v := ?_) (a' := ?_) qb199 rfl rfl (any_of HT_.out (by kernel_rfl)) (fun _ _ _ h => h) (Or.inl ⟨by rfl, ?_⟩) ?_ ?_
                 rotate_left
                 ·intro w'
                  go_simp
                  with_reducible rfl
                 rotate_left
                 ·simp only [Act.put, List.setIfInBounds_toArray, List.set_cons_zero, List.set_cons_succ, i64_w, i32_w]
                  rfl
                 refine pure_ (i := 5) (N := some 36) (v := ?_) (a' := ?_) qb542 rfl rfl (any_of HT_.out (by kernel_rfl)) (fun _ _ _ h => h) (Or.inl ⟨by rfl, ?_⟩) ?_ ?_
                 rotate_left
                 ·intro w'
                  go_simp
                  with_reducible rfl
                 rotate_left
                 ·simp only [Act.put, List.setIfInBounds_toArray, List.set_cons_zero, List.set_cons_succ, i64_w, i32_w]
                  rfl
                 refine pure_ (i := 6) (N := some 37) (v := ?_) (a' := ?_) qb543 rfl rfl (any_of HT_.out (by kernel_rfl)) (fun _ _ _ h => h) (Or.inl ⟨by rfl, ?_⟩) ?_ ?_
                 rotate_left
                 ·intro w'
                  go_simp
                  with_reducible rfl
                 rotate_left
                 ·simp only [Act.put, List.setIfInBounds_toArray, List.set_cons_zero, List.set_cons_succ, i64_w, i32_w]
                  rfl
                 refine pure_ (i := 7) (N := some 38) (v := ?_) (a' := ?_) qb544 rfl rfl (any_of HT_.out (by kernel_rfl)) (fun _ _ _ h => h) (Or.inl ⟨by rfl, ?_⟩) ?_ ?_
                 rotate_left
                 ·intro w'
                  go_simp
                  with_reducible rfl
                 rotate_left
                 ·simp only [Act.put, List.setIfInBounds_toArray, List.set_cons_zero, List.set_cons_succ, i64_w, i32_w]
                  rfl
                 refine pure_ (i := 8) (N := some 39) (v := ?_) (a' := ?_) qb545 rfl rfl (any_of HT_.out (by kernel_rfl)) (fun _ _ _ h => h) (Or.inl ⟨by rfl, ?_⟩) ?_ ?_
                 rotate_left
                 ·intro w'
                  go_simp
                  with_reducible rfl
                 rotate_left
                 ·simp only [Act.put, List.setIfInBounds_toArray, List.set_cons_zero, List.set_cons_succ, i64_w, i32_w]
                  rfl
                 refine pure_ (i := 10) (N := some 41) (v := ?_) (a' := ?_) qb546 rfl rfl (any_of HT_.out (by kernel_rfl)) (fun _ _ _ h => h) (Or.inl ⟨by rfl, ?_⟩) ?_ ?_
                 rotate_left
                 ·intro w'
                  go_simp
                  with_reducible rfl
                 rotate_left
                 ·simp only [Act.put, List.setIfInBounds_toArray, List.set_cons_zero, List.set_cons_succ, i64_w, i32_w]
                  rfl
                 refine pure_ (i := 11) (N := some 42) (v := ?_) (a' := ?_) qb547 rfl rfl (any_of HT_.out (by kernel_rfl)) (fun _ _ _ h => h) (Or.inl ⟨by rfl, ?_⟩) ?_ ?_
                 rotate_left
                 ·intro w'
                  go_simp
                  with_reducible rfl
                 rotate_left
                 ·simp only [Act.put, List.setIfInBounds_toArray, List.set_cons_zero, List.set_cons_succ, i64_w, i32_w]
                  rfl
                 refine pure_ (i := 12) (N := some 43) (v := ?_) (a' := ?_) qb548 rfl rfl (any_of HT_.out (by kernel_rfl)) (fun _ _ _ h => h) (Or.inl ⟨by rfl, ?_⟩) ?_ ?_
                 rotate_left
                 ·intro w'
                  go_simp
                  with_reducible rfl
                 rotate_left
                 ·simp only [Act.put, List.setIfInBounds_toArray, List.set_cons_zero, List.set_cons_succ, i64_w, i32_w]
                  rfl
                 refine pure_ (i := 13) (N := some 44) (v := ?_) (a' := ?_) qb549 rfl rfl (any_of HT_.out (by kernel_rfl)) (fun _ _ _ h => h) (Or.inl ⟨by rfl, ?_⟩) ?_ ?_
                 rotate_left
                 ·intro w'
                  go_simp
                  with_reducible rfl
                 rotate_left
                 ·simp only [Act.put, List.setIfInBounds_toArray, List.set_cons_zero, List.set_cons_succ, i64_w, i32_w]
                  rfl
                 refine take_ (i := 4) (N := some 35) (v := ?_) (a' := ?_) qb550 rfl rfl (take_ofW HT_.out HW_.out (by kernel_rfl)) (fun _ _ _ h => h) (Or.inl ⟨by rfl, ?_⟩) hHeld ?_ ?_
                 rotate_left
                 ·rintro w' ⟨s0, s1, s2, s3⟩
                  go_simp
                  with_reducible rfl
                 rotate_left
                 ·simp only [Act.put, List.setIfInBounds_toArray, List.set_cons_zero, List.set_cons_succ, i64_w, i32_w]
                  rfl
                 refine take_ (i := 9) (N := some 40) (v := ?_) (a' := ?_) qb189 rfl rfl (take_ofW HT_.out HW_.out (by kernel_rfl)) (fun _ _ _ h => h) (Or.inl ⟨by rfl, ?_⟩) hHeld ?_ ?_
                 rotate_left
                 ·rintro w' ⟨s0, s1, s2, s3⟩
                  go_simp
                  with_reducible rfl
                 rotate_left
                 ·simp only [Act.put, List.setIfInBounds_toArray, List.set_cons_zero, List.set_cons_succ, i64_w, i32_w]
                  rfl
                 refine take_ (i := 14) (N := some 45) (v := ?_) (a' := ?_) qb190 rfl rfl (take_ofW HT_.out HW_.out (by kernel_rfl)) (fun _ _ _ h => h) (Or.inl ⟨by rfl, ?_⟩) hHeld ?_ ?_
                 rotate_left
                 ·rintro w' ⟨s0, s1, s2, s3⟩
                  go_simp
                  with_reducible rfl
                 rotate_left
                 ·simp only [Act.put, List.setIfInBounds_toArray, List.set_cons_zero, List.set_cons_succ, i64_w, i32_w]
                  rfl
                 refine join_ (σ := Nat) 2 qb195 (fun s_ => [(46, .tuple #[.agg #[.int .i64 t127, .int .u64 t128], .int .i64 t129]), (9, .pointer (some ⟨s_, 0, none⟩)), (30, .tuple #[.agg #[.int .i64 t127, .int .u64 t128], .int .i64 t129]), (47, .agg #[.int .i64 t127, .int .u64 t128]), (48, .int .i64 t129)]) (fun s_ w' => (w'.cell? (ad107.add ((x7_1).toNat * 2)) = some (.int .i64 ((rd_T231 l0 x7_1).f0)) ∧ w'.cell? ⟨(ad107.add ((x7_1).toNat * 2)).block, (ad107.add ((x7_1).toNat * 2)).off + 1, none⟩ = some (.int .i64 ((rd_T231 l0 x7_1).f1)) ∧ w'.cell? (ad125.add ((ji39)).toNat) = some (.int .i64 (rd x6_1 (ji39))) ∧ w'.cell? (ad125.add ((ji42)).toNat) = some (.int .i64 (rd x6_1 (ji42)))) ∧ (Kd.R (Kd.int .i64) 3 w' w.heap.size (fun _ => True) (.slice (some ad125) x6_1.length co63) x6_1) ∧ (w'.heap[gb101]? = some (.cells #[.int .i64 a1_0, .int .i64 a1_1, .int .i64 a1_2, .int .i64 a1_3] 75 (0, 0))) ∧ (w'.heap[s_]? = some (.cells #[.int .i64 0, .int .u64 0] 234 (0, 0))) ∧ (w.heap.size ≤ s_) ∧ (w.heap.size ≤ s_) ∧ (gb101 ≠ s_) ∧ (s_ ≠ gb101) ∧ (Below w.heap.size w w')) ?_ ?_
                 rotate_left
                 ·intro hCont
                  refine two_ (i := 15) (j := 19) (Ni := some 46) (Nj := some 9) qb191 qb551 rfl rfl rfl rfl (two_of HT_.out (by kernel_rfl)) (by decide) (by decide) (fun K hK => ?_) (fun K hK => ?_)
                  ·skip
                   refine goes_ Try.func241 (by kernel_rfl) rfl #[.int .i64 ((rd_T231 l0 x7_1).f0), .int .i64 (rd x6_1 (ji39)), .int .i64 (rd x6_1 (ji42))] (by rfl) rfl rfl qz339 ?_
                   with_reducible refine (spec_l03Two.calls k1 ((rd_T231 l0 x7_1).f0) (rd x6_1 (ji39)) (rd x6_1 (ji42)) t127 t128 t129 _ A45.out).mono ?_
                   rintro e w65 ⟨rfl, hb⟩
                   have HS2_ := (hb.cell (World.block_lt_of_cell? _ _ (hHeld.2.2.1))).trans (hHeld.2.2.1); have HS3_ := (hb.cell (World.block_lt_of_cell? _ _ (hHeld.2.2.2))).trans (hHeld.2.2.2); refine ⟨_, rfl, ?_⟩; have h_ := qA3 (Kd.R_below qz153 hb) (blk_below (g := gb101) (o := .cells #[.int .i64 a1_0, .int .i64 a1_1, .int .i64 a1_2, .int .i64 a1_3] 75 (0, 0)) (qz8 BK101.out) hb) (below_step (qz10 GE101.out) hb); clear HO_6 BK101 HB; obtain ⟨HO_6, BK101, HB⟩ := h_; (try clear hb); (try clear hb2); (try clear hk); (try clear hi); refine hK.out _ _ ⟨((HB.out.cell (World.block_lt_of_cell? w _ hw124_0)).trans hw124_0), ((HB.out.cell (World.block_lt_of_cell? w _ hw124_1)).trans hw124_1), HS2_, HS3_⟩ (fun hHeld => ?_)
                   clear hK K; refine norm_ (a' := ?_) ?_ ?_; rotate_left
                   ·show Act.put _ (some 46) _ = _
                    simp only [Act.put, List.setIfInBounds_toArray, List.set_cons_zero, List.set_cons_succ, i64_w, i32_w]
                    rfl
                   refine pure_ (i := 16) (N := some 30) (v := ?_) (a' := ?_) qb198 rfl rfl (any_of HT_.out (by kernel_rfl)) (fun _ _ _ h => h) (Or.inl ⟨by rfl, ?_⟩) ?_ ?_
                   rotate_left
                   ·intro w'
                    go_simp
                    with_reducible rfl
                   rotate_left
                   ·simp only [Act.put, List.setIfInBounds_toArray, List.set_cons_zero, List.set_cons_succ, i64_w, i32_w]
                    rfl
                   refine pure_ (i := 17) (N := some 47) (v := ?_) (a' := ?_) qb193 rfl rfl (any_of HT_.out (by kernel_rfl)) (fun _ _ _ h => h) (Or.inl ⟨by rfl, ?_⟩) ?_ ?_
                   rotate_left
                   ·intro w'
                    go_simp
                    with_reducible rfl
                   rotate_left
                   ·simp only [Act.put, List.setIfInBounds_toArray, List.set_cons_zero, List.set_cons_succ, i64_w, i32_w]
                    rfl
                   refine pure_ (i := 18) (N := some 48) (v := ?_) (a' := ?_) qb194 rfl rfl (any_of HT_.out (by kernel_rfl)) (fun _ _ _ h => h) (Or.inl ⟨by rfl, ?_⟩) ?_ ?_
                   rotate_left
                   ·intro w'
                    go_simp
                    with_reducible rfl
                   rotate_left
                   ·simp only [Act.put, List.setIfInBounds_toArray, List.set_cons_zero, List.set_cons_succ, i64_w, i32_w]
                    rfl
                   refine one_ (i := 19) (N := some 9) qb195 rfl rfl (one_of HT_.out (by kernel_rfl)) (by decide) (fun K hK => ?_)
                   refine box_step ?hg (N := 9) ?hd (cs := #[.int .i64 0, .int .u64 0]) (t := 234) ?hr ?_; (case hd => rfl); (case hg => rfl); (case hr => exact qz5)
                   intro gb130 hg w66 hbox hb
                   have HS2_ := (hb.cell (World.block_lt_of_cell? _ _ (hHeld.2.2.1))).trans (hHeld.2.2.1); have HS3_ := (hb.cell (World.block_lt_of_cell? _ _ (hHeld.2.2.2))).trans (hHeld.2.2.2); have h_ := qA8 (Kd.R_below qz153 hb) (blk_below (g := gb101) (o := .cells #[.int .i64 a1_0, .int .i64 a1_1, .int .i64 a1_2, .int .i64 a1_3] 75 (0, 0)) (qz8 BK101.out) hb) (below_step (qz10 GE101.out) hb) (hbox) ((qz38 GE101.out : w.heap.size ≤ gb130)) ((qz38 GE101.out : w.heap.size ≤ gb130)) ((qz154 BK101.out : gb101 ≠ gb130)) ((qz155 BK101.out : gb130 ≠ gb101)); clear HO_6 BK101 HB; obtain ⟨HO_6, BK101, HB, BK130, GW130, GE130, NB101_130, NB130_101⟩ := h_; clear hb hbox hg; refine hK.out _ _ ⟨((HB.out.cell (World.block_lt_of_cell? w _ hw124_0)).trans hw124_0), ((HB.out.cell (World.block_lt_of_cell? w _ hw124_1)).trans hw124_1), HS2_, HS3_⟩ (fun hHeld => ?_)
                   clear hK K; refine norm_ (a' := ?_) ?_ ?_; rotate_left
                   ·show Act.put _ (some 9) _ = _
                    simp only [Act.put, List.setIfInBounds_toArray, List.set_cons_zero, List.set_cons_succ, i64_w, i32_w]
                    rfl
                   exact norm_ qz85 (hCont (gb130) _ ⟨hHeld, qz153, (qz8 BK101.out), (qz8 BK130.out), GW130.out, GE130.out, NB101_130.out, NB130_101.out, (qz43 GE101.out GE130.out)⟩)
                  ·skip
                   refine box_step ?hg (N := 9) ?hd (cs := #[.int .i64 0, .int .u64 0]) (t := 234) ?hr ?_; (case hd => rfl); (case hg => rfl); (case hr => exact qz5)
                   intro gb130 hg w65 hbox hb
                   have HS2_ := (hb.cell (World.block_lt_of_cell? _ _ (hHeld.2.2.1))).trans (hHeld.2.2.1); have HS3_ := (hb.cell (World.block_lt_of_cell? _ _ (hHeld.2.2.2))).trans (hHeld.2.2.2); have h_ := qA8 (Kd.R_below qz153 hb) (blk_below (g := gb101) (o := .cells #[.int .i64 a1_0, .int .i64 a1_1, .int .i64 a1_2, .int .i64 a1_3] 75 (0, 0)) (qz8 BK101.out) hb) (below_step (qz10 GE101.out) hb) (hbox) ((qz38 GE101.out : w.heap.size ≤ gb130)) ((qz38 GE101.out : w.heap.size ≤ gb130)) ((qz154 BK101.out : gb101 ≠ gb130)) ((qz155 BK101.out : gb130 ≠ gb101)); clear HO_6 BK101 HB; obtain ⟨HO_6, BK101, HB, BK130, GW130, GE130, NB101_130, NB130_101⟩ := h_; clear hb hbox hg; refine hK.out _ _ ⟨((HB.out.cell (World.block_lt_of_cell? w _ hw124_0)).trans hw124_0), ((HB.out.cell (World.block_lt_of_cell? w _ hw124_1)).trans hw124_1), HS2_, HS3_⟩ (fun hHeld => ?_)
                   clear hK K; refine norm_ (a' := ?_) ?_ ?_; rotate_left
                   ·show Act.put _ (some 9) _ = _
                    simp only [Act.put, List.setIfInBounds_toArray, List.set_cons_zero, List.set_cons_succ, i64_w, i32_w]
                    rfl
                   refine one_ (i := 15) (N := some 46) qb552 rfl rfl (one_of HT_.out (by kernel_rfl)) (by decide) (fun K hK => ?_)
                   refine goes_ Try.func241 (by kernel_rfl) rfl #[.int .i64 ((rd_T231 l0 x7_1).f0), .int .i64 (rd x6_1 (ji39)), .int .i64 (rd x6_1 (ji42))] (by rfl) rfl rfl qz339 ?_
                   with_reducible refine (spec_l03Two.calls k1 ((rd_T231 l0 x7_1).f0) (rd x6_1 (ji39)) (rd x6_1 (ji42)) t127 t128 t129 _ A45.out).mono ?_
                   rintro e w66 ⟨rfl, hb⟩
                   have HS2_ := (hb.cell (World.block_lt_of_cell? _ _ (hHeld.2.2.1))).trans (hHeld.2.2.1); have HS3_ := (hb.cell (World.block_lt_of_cell? _ _ (hHeld.2.2.2))).trans (hHeld.2.2.2); refine ⟨_, rfl, ?_⟩; have h_ := qA4 (Kd.R_below qz153 hb) (blk_below (g := gb101) (o := .cells #[.int .i64 a1_0, .int .i64 a1_1, .int .i64 a1_2, .int .i64 a1_3] 75 (0, 0)) (qz8 BK101.out) hb) (blk_below (g := gb130) (o := .cells #[.int .i64 0, .int .u64 0] 234 (0, 0)) (qz8 BK130.out) hb) (below_step (qz43 GE101.out GE130.out) hb); clear HO_6 BK101 BK130 HB; obtain ⟨HO_6, BK101, BK130, HB⟩ := h_; (try clear hb); (try clear hb2); (try clear hk); (try clear hi); refine hK.out _ _ ⟨((HB.out.cell (World.block_lt_of_cell? w _ hw124_0)).trans hw124_0), ((HB.out.cell (World.block_lt_of_cell? w _ hw124_1)).trans hw124_1), HS2_, HS3_⟩ (fun hHeld => ?_)
                   clear hK K; refine norm_ (a' := ?_) ?_ ?_; rotate_left
                   ·show Act.put _ (some 46) _ = _
                    simp only [Act.put, List.setIfInBounds_toArray, List.set_cons_zero, List.set_cons_succ, i64_w, i32_w]
                    rfl
                   refine pure_ (i := 16) (N := some 30) (v := ?_) (a' := ?_) qb553 rfl rfl (any_of HT_.out (by kernel_rfl)) (fun _ _ _ h => h) (Or.inl ⟨by rfl, ?_⟩) ?_ ?_
                   rotate_left
                   ·intro w'
                    go_simp
                    with_reducible rfl
                   rotate_left
                   ·simp only [Act.put, List.setIfInBounds_toArray, List.set_cons_zero, List.set_cons_succ, i64_w, i32_w]
                    rfl
                   refine pure_ (i := 17) (N := some 47) (v := ?_) (a' := ?_) qb554 rfl rfl (any_of HT_.out (by kernel_rfl)) (fun _ _ _ h => h) (Or.inl ⟨by rfl, ?_⟩) ?_ ?_
                   rotate_left
                   ·intro w'
                    go_simp
                    with_reducible rfl
                   rotate_left
                   ·simp only [Act.put, List.setIfInBounds_toArray, List.set_cons_zero, List.set_cons_succ, i64_w, i32_w]
                    rfl
                   refine pure_ (i := 18) (N := some 48) (v := ?_) (a' := ?_) qb195 rfl rfl (any_of HT_.out (by kernel_rfl)) (fun _ _ _ h => h) (Or.inl ⟨by rfl, ?_⟩) ?_ ?_
                   rotate_left
                   ·intro w'
                    go_simp
                    with_reducible rfl
                   rotate_left
                   ·simp only [Act.put, List.setIfInBounds_toArray, List.set_cons_zero, List.set_cons_succ, i64_w, i32_w]
                    rfl
                   exact norm_ qz85 (hCont (gb130) _ ⟨hHeld, qz153, (qz8 BK101.out), (qz8 BK130.out), GW130.out, GE130.out, NB101_130.out, NB130_101.out, (qz43 GE101.out GE130.out)⟩)
                 rintro gb130 w67 ⟨hS_, h0_, h1_, h2_, h3_, h4_, h5_, h6_, h7_⟩
                 have h_ := qA8 ((⟨h0_⟩ : Aside0 (Kd.R (Kd.int .i64) 3 w67 w.heap.size (fun _ => True) (.slice (some ad125) x6_1.length co63) x6_1)).out) ((⟨h1_⟩ : Aside0 (w67.heap[gb101]? = some (.cells #[.int .i64 a1_0, .int .i64 a1_1, .int .i64 a1_2, .int .i64 a1_3] 75 (0, 0)))).out) ((⟨h2_⟩ : Aside0 (w67.heap[gb130]? = some (.cells #[.int .i64 0, .int .u64 0] 234 (0, 0)))).out) ((⟨h3_⟩ : Aside0 (w.heap.size ≤ gb130)).out) ((⟨h4_⟩ : Aside0 (w.heap.size ≤ gb130)).out) ((⟨h5_⟩ : Aside0 (gb101 ≠ gb130)).out) ((⟨h6_⟩ : Aside0 (gb130 ≠ gb101)).out) ((⟨h7_⟩ : Aside0 (Below w.heap.size w w67)).out)
                 clear HO_6 BK101 HB h0_ h1_ h2_ h3_ h4_ h5_ h6_ h7_; obtain ⟨HO_6, BK101, BK130, GW130, GE130, NB101_130, NB130_101, HB⟩ := h_; have hHeld : w67.cell? (ad107.add ((x7_1).toNat * 2)) = some (.int .i64 ((rd_T231 l0 x7_1).f0)) ∧ w67.cell? ⟨(ad107.add ((x7_1).toNat * 2)).block, (ad107.add ((x7_1).toNat * 2)).off + 1, none⟩ = some (.int .i64 ((rd_T231 l0 x7_1).f1)) ∧ w67.cell? (ad125.add ((ji39)).toNat) = some (.int .i64 (rd x6_1 (ji39))) ∧ w67.cell? (ad125.add ((ji42)).toNat) = some (.int .i64 (rd x6_1 (ji42))) := hS_; refine norm_ (a' := ?_) ?_ ?_; rotate_left
                 ·simp only [putAll, Act.put, List.setIfInBounds_toArray, List.set_cons_zero, List.set_cons_succ]
                  rfl
                 refine one_ (i := 20) (N := none) qb196 rfl rfl (one_of HT_.out (by kernel_rfl)) (by decide) (fun K hK => ?_)
                 have hs68 : w67.cell? ⟨gb130, 0, none⟩ = some (.int .i64 0) := (blk_cell BK130.out 0).trans rfl; have hfs68 := blk_frozen BK130.out 0; have hns68_0 := NB101_130.out; have hms68_0 := NB130_101.out; have hs69 : w67.cell? ⟨gb130, 1, none⟩ = some (.int .u64 0) := (blk_cell BK130.out 1).trans rfl; have hfs69 := blk_frozen BK130.out 1; have hns69_0 := NB101_130.out; have hms69_0 := NB130_101.out; refine skip_ (w1 := ?_) ?sa ?sb ?_ ?_
                 (case sa => rfl)
                 (case sb => rfl)
                 rotate_left
                 ·go_simp
                  rfl
                 refine hK.out _ _ ⟨((cell_far (p := ⟨gb130, _, none⟩) (qz110 hw124_0 GW130.out) _).trans (((cell_far (p := ⟨gb130, _, none⟩) (qz110 hw124_0 GW130.out) _).trans (hHeld.1)))), ((cell_far (p := ⟨gb130, _, none⟩) (qz110 hw124_1 GW130.out) _).trans (((cell_far (p := ⟨gb130, _, none⟩) (qz110 hw124_1 GW130.out) _).trans (hHeld.2.1)))), ((cell_far (p := ⟨gb130, _, none⟩) (qz340 BK130.out) _).trans (((cell_far (p := ⟨gb130, _, none⟩) (qz340 BK130.out) _).trans (hHeld.2.2.1)))), ((cell_far (p := ⟨gb130, _, none⟩) (qz340 BK130.out) _).trans (((cell_far (p := ⟨gb130, _, none⟩) (qz340 BK130.out) _).trans (hHeld.2.2.2))))⟩ (fun hHeld => ?_)
                 clear hK K; refine pure_ (i := 21) (N := some 10) (v := ?_) (a' := ?_) qb197 rfl rfl (any_of HT_.out (by kernel_rfl)) (fun _ _ _ h => h) (Or.inl ⟨by rfl, ?_⟩) ?_ ?_
                 rotate_left
                 ·intro w'
                  go_simp
                  with_reducible rfl
                 rotate_left
                 ·simp only [Act.put, List.setIfInBounds_toArray, List.set_cons_zero, List.set_cons_succ, i64_w, i32_w]
                  rfl
                 refine done_ (done_of HT_.out (by kernel_rfl)) ?_
                 have hnb70 := NB130_101.out; have hnc70 := NB101_130.out; obtain ⟨hcz71_0, hcz71_1⟩ := qC2 BK130.out; obtain ⟨hfz71_0, hfz71_1⟩ := qF2 BK130.out
                 try go_wp2_with (first | ((with_reducible refine gate_callee (f := 242) rfl ?_); refine goesL_ (some 54) rfl rfl Try.func242 (by kernel_rfl) rfl #[.agg #[.int .i64 t127, .int .u64 t128]] rfl qz1 ?_; (with_reducible refine (spec_WideInt.calls t127 t128 t131 false _ A47.out).mono ?_); rintro e w72 ⟨rfl, hb⟩; refine ⟨_, rfl, ?_⟩; have h_ := qA4 (Kd.R_below (qz341 BK130.out) hb) (blk_below (g := gb101) (o := .cells #[.int .i64 a1_0, .int .i64 a1_1, .int .i64 a1_2, .int .i64 a1_3] 75 (0, 0)) (qz41 NB101_130.out BK101.out) hb) (blk_below (g := gb130) (o := .cells #[.int .i64 t127, .int .u64 t128] 234 (0, 0)) (qz244 BK130.out) hb) (below_step (qz43 GE101.out GE130.out) hb); clear HO_6 BK101 BK130 HB; obtain ⟨HO_6, BK101, BK130, HB⟩ := h_; (try clear hb); (try clear hb2); (try clear hk); (try clear hi)))
                 go_ret2
                 exact ⟨qz342, qz43 GE101.out GE130.out⟩
               ·rw [if_neg c46] at H
                have c46b0 : (t129 == 0) = false := beq_eq_false_iff_ne.mpr c46; have c46b1 : (t129 != 0) = true := bne_iff_ne.mpr c46; simp only [Option.some.injEq, Prod.mk.injEq] at H; obtain ⟨rfl, rfl⟩ := H; obtain ⟨Ao73, co73, eo73⟩ := Kd.R_slice HO_6.out; subst eo73; have p107 : 0 ≤ (x7_1 : Int) := of_decide_eq_true qz4; have q107 : x7_1 < (l0.length : Int) := of_decide_eq_true qz4; obtain ⟨ad107, e107, hx107_0, hx107_1⟩ := at_T231 HR0.out x7_1 p107 q107
                cases e107
                replace hx107_0 := qcb HB hx107_0; replace hx107_1 := qcb HB hx107_1; replace p107 := eq_true p107; replace q107 := eq_true q107
                try go_wp2
                have h_ := qA3 (Kd.R_drew HO_6.out) (blk_drew BK101.out) (below_drew1 HB.out); clear HO_6 BK101 HB; obtain ⟨HO_6, BK101, HB⟩ := h_; have p124 : 0 ≤ (x7_1 : Int) := of_decide_eq_true qz4; have q124 : x7_1 < (l0.length : Int) := of_decide_eq_true qz4; obtain ⟨ad124, e124, hx124_0, hx124_1⟩ := at_T231 HR0.out x7_1 p124 q124; have hw124_1 := hx124_1; have hw124_0 := hx124_0; obtain rfl : ad107 = ad124 := (by injection e124)
                replace hx124_0 := qcb HB hx124_0; replace hx124_1 := qcb HB hx124_1; replace p124 := eq_true p124; replace q124 := eq_true q124; have p125 : 0 ≤ ((ji39) : Int) := of_decide_eq_true qz4; have q125 : (ji39) < (x6_1.length : Int) := of_decide_eq_true qz4; obtain ⟨ad125, e125, hx125_0⟩ := Kd.at_int (Kd.R_reads' HO_6.out).2.2 (ji39) p125 q125
                cases e125
                replace p125 := eq_true p125; replace q125 := eq_true q125; have p126 : 0 ≤ ((ji42) : Int) := of_decide_eq_true qz4; have q126 : (ji42) < (x6_1.length : Int) := of_decide_eq_true qz4; obtain ⟨ad126, e126, hx126_0⟩ := Kd.at_int (Kd.R_reads' HO_6.out).2.2 (ji42) p126 q126; obtain rfl : ad125 = ad126 := (by injection e126)
                replace p126 := eq_true p126; replace q126 := eq_true q126; refine start_ (n := 22) (S := fun w' => w'.cell? (ad107.add ((x7_1).toNat * 2)) = some (.int .i64 ((rd_T231 l0 x7_1).f0)) ∧ w'.cell? ⟨(ad107.add ((x7_1).toNat * 2)).block, (ad107.add ((x7_1).toNat * 2)).off + 1, none⟩ = some (.int .i64 ((rd_T231 l0 x7_1).f1)) ∧ w'.cell? (ad125.add ((ji39)).toNat) = some (.int .i64 (rd x6_1 (ji39))) ∧ w'.cell? (ad125.add ((ji42)).toNat) = some (.int .i64 (rd x6_1 (ji42)))) (ds := []) qb175 (by kernel_rfl) rfl rfl ⟨((HB.out.cell (World.block_lt_of_cell? w _ hw124_0)).trans hw124_0), ((HB.out.cell (World.block_lt_of_cell? w _ hw124_1)).trans hw124_1), hx125_0, hx126_0⟩ (fun hHeld => ?_); refine with_tabW spec_ExprRun.tab9 spec_ExprRun.bits9 (fun HT_ HW_ => ?_)
                generalize wr.drew = w74 at HO_6 BK101 HB hx124_0 hx124_1 hx125_0 hx126_0 hHeld ⊢
                refine pure_ (i := 0) (N := some 31) (v := ?_) (a' := ?_) qb176 rfl rfl (any_of HT_.out (by kernel_rfl)) (fun _ _ _ h => h) (Or.inl ⟨by rfl, ?_⟩) ?_ ?_
                rotate_left
                ·intro w'
                 go_simp
                 with_reducible rfl
                rotate_left
                ·simp only [Act.put, List.setIfInBounds_toArray, List.set_cons_zero, List.set_cons_succ, i64_w, i32_w]
                 rfl
                refine pure_ (i := 1) (N := some 32) (v := ?_) (a' := ?_) qb177 rfl rfl (any_of HT_.out (by kernel_rfl)) (fun _ _ _ h => h) (Or.inl ⟨by rfl, ?_⟩) ?_ ?_
                rotate_left
                ·intro w'
                 go_simp
                 with_reducible rfl
                rotate_left
                ·simp only [Act.put, List.setIfInBounds_toArray, List.set_cons_zero, List.set_cons_succ, i64_w, i32_w]
                 rfl
                refine pure_ (i := 2) (N := some 33) (v := ?_) (a' := ?_) qb178 rfl rfl (any_of HT_.out (by kernel_rfl)) (fun _ _ _ h => h) (Or.inl ⟨by rfl, ?_⟩) ?_ ?_
                rotate_left
                ·intro w'
                 go_simp
                 with_reducible rfl
                rotate_left
                ·simp only [Act.put, List.setIfInBounds_toArray, List.set_cons_zero, List.set_cons_succ, i64_w, i32_w]
                 rfl
                refine pure_ (i := 3) (N := some 34) (v := ?_) (a' := ?_) qb199 rfl rfl (any_of HT_.out (by kernel_rfl)) (fun _ _ _ h => h) (Or.inl ⟨by rfl, ?_⟩) ?_ ?_
                rotate_left
                ·intro w'
                 go_simp
                 with_reducible rfl
                rotate_left
                ·simp only [Act.put, List.setIfInBounds_toArray, List.set_cons_zero, List.set_cons_succ, i64_w, i32_w]
                 rfl
                refine pure_ (i := 5) (N := some 36) (v := ?_) (a' := ?_) qb542 rfl rfl (any_of HT_.out (by kernel_rfl)) (fun _ _ _ h => h) (Or.inl ⟨by rfl, ?_⟩) ?_ ?_
                rotate_left
                ·intro w'
                 go_simp
                 with_reducible rfl
                rotate_left
                ·simp only [Act.put, List.setIfInBounds_toArray, List.set_cons_zero, List.set_cons_succ, i64_w, i32_w]
                 rfl
                refine pure_ (i := 6) (N := some 37) (v := ?_) (a' := ?_) qb543 rfl rfl (any_of HT_.out (by kernel_rfl)) (fun _ _ _ h => h) (Or.inl ⟨by rfl, ?_⟩) ?_ ?_
                rotate_left
                ·intro w'
                 go_simp
                 with_reducible rfl
                rotate_left
                ·simp only [Act.put, List.setIfInBounds_toArray, List.set_cons_zero, List.set_cons_succ, i64_w, i32_w]
                 rfl
                refine pure_ (i := 7) (N := some 38) (v := ?_) (a' := ?_) qb544 rfl rfl (any_of HT_.out (by kernel_rfl)) (fun _ _ _ h => h) (Or.inl ⟨by rfl, ?_⟩) ?_ ?_
                rotate_left
                ·intro w'
                 go_simp
                 with_reducible rfl
                rotate_left
                ·simp only [Act.put, List.setIfInBounds_toArray, List.set_cons_zero, List.set_cons_succ, i64_w, i32_w]
                 rfl
                refine pure_ (i := 8) (N := some 39) (v := ?_) (a' := ?_) qb545 rfl rfl (any_of HT_.out (by kernel_rfl)) (fun _ _ _ h => h) (Or.inl ⟨by rfl, ?_⟩) ?_ ?_
                rotate_left
                ·intro w'
                 go_simp
                 with_reducible rfl
                rotate_left
                ·simp only [Act.put, List.setIfInBounds_toArray, List.set_cons_zero, List.set_cons_succ, i64_w, i32_w]
                 rfl
                refine pure_ (i := 10) (N := some 41) (v := ?_) (a' := ?_) qb546 rfl rfl (any_of HT_.out (by kernel_rfl)) (fun _ _ _ h => h) (Or.inl ⟨by rfl, ?_⟩) ?_ ?_
                rotate_left
                ·intro w'
                 go_simp
                 with_reducible rfl
                rotate_left
                ·simp only [Act.put, List.setIfInBounds_toArray, List.set_cons_zero, List.set_cons_succ, i64_w, i32_w]
                 rfl
                refine pure_ (i := 11) (N := some 42) (v := ?_) (a' := ?_) qb547 rfl rfl (any_of HT_.out (by kernel_rfl)) (fun _ _ _ h => h) (Or.inl ⟨by rfl, ?_⟩) ?_ ?_
                rotate_left
                ·intro w'
                 go_simp
                 with_reducible rfl
                rotate_left
                ·simp only [Act.put, List.setIfInBounds_toArray, List.set_cons_zero, List.set_cons_succ, i64_w, i32_w]
                 rfl
                refine pure_ (i := 12) (N := some 43) (v := ?_) (a' := ?_) qb548 rfl rfl (any_of HT_.out (by kernel_rfl)) (fun _ _ _ h => h) (Or.inl ⟨by rfl, ?_⟩) ?_ ?_
                rotate_left
                ·intro w'
                 go_simp
                 with_reducible rfl
                rotate_left
                ·simp only [Act.put, List.setIfInBounds_toArray, List.set_cons_zero, List.set_cons_succ, i64_w, i32_w]
                 rfl
                refine pure_ (i := 13) (N := some 44) (v := ?_) (a' := ?_) qb549 rfl rfl (any_of HT_.out (by kernel_rfl)) (fun _ _ _ h => h) (Or.inl ⟨by rfl, ?_⟩) ?_ ?_
                rotate_left
                ·intro w'
                 go_simp
                 with_reducible rfl
                rotate_left
                ·simp only [Act.put, List.setIfInBounds_toArray, List.set_cons_zero, List.set_cons_succ, i64_w, i32_w]
                 rfl
                refine take_ (i := 4) (N := some 35) (v := ?_) (a' := ?_) qb550 rfl rfl (take_ofW HT_.out HW_.out (by kernel_rfl)) (fun _ _ _ h => h) (Or.inl ⟨by rfl, ?_⟩) hHeld ?_ ?_
                rotate_left
                ·rintro w' ⟨s0, s1, s2, s3⟩
                 go_simp
                 with_reducible rfl
                rotate_left
                ·simp only [Act.put, List.setIfInBounds_toArray, List.set_cons_zero, List.set_cons_succ, i64_w, i32_w]
                 rfl
                refine take_ (i := 9) (N := some 40) (v := ?_) (a' := ?_) qb189 rfl rfl (take_ofW HT_.out HW_.out (by kernel_rfl)) (fun _ _ _ h => h) (Or.inl ⟨by rfl, ?_⟩) hHeld ?_ ?_
                rotate_left
                ·rintro w' ⟨s0, s1, s2, s3⟩
                 go_simp
                 with_reducible rfl
                rotate_left
                ·simp only [Act.put, List.setIfInBounds_toArray, List.set_cons_zero, List.set_cons_succ, i64_w, i32_w]
                 rfl
                refine take_ (i := 14) (N := some 45) (v := ?_) (a' := ?_) qb190 rfl rfl (take_ofW HT_.out HW_.out (by kernel_rfl)) (fun _ _ _ h => h) (Or.inl ⟨by rfl, ?_⟩) hHeld ?_ ?_
                rotate_left
                ·rintro w' ⟨s0, s1, s2, s3⟩
                 go_simp
                 with_reducible rfl
                rotate_left
                ·simp only [Act.put, List.setIfInBounds_toArray, List.set_cons_zero, List.set_cons_succ, i64_w, i32_w]
                 rfl
                refine join_ (σ := Nat) 2 qb195 (fun s_ => [(46, .tuple #[.agg #[.int .i64 t127, .int .u64 t128], .int .i64 t129]), (9, .pointer (some ⟨s_, 0, none⟩)), (30, .tuple #[.agg #[.int .i64 t127, .int .u64 t128], .int .i64 t129]), (47, .agg #[.int .i64 t127, .int .u64 t128]), (48, .int .i64 t129)]) (fun s_ w' => (w'.cell? (ad107.add ((x7_1).toNat * 2)) = some (.int .i64 ((rd_T231 l0 x7_1).f0)) ∧ w'.cell? ⟨(ad107.add ((x7_1).toNat * 2)).block, (ad107.add ((x7_1).toNat * 2)).off + 1, none⟩ = some (.int .i64 ((rd_T231 l0 x7_1).f1)) ∧ w'.cell? (ad125.add ((ji39)).toNat) = some (.int .i64 (rd x6_1 (ji39))) ∧ w'.cell? (ad125.add ((ji42)).toNat) = some (.int .i64 (rd x6_1 (ji42)))) ∧ (Kd.R (Kd.int .i64) 3 w' w.heap.size (fun _ => True) (.slice (some ad125) x6_1.length co73) x6_1) ∧ (w'.heap[gb101]? = some (.cells #[.int .i64 a1_0, .int .i64 a1_1, .int .i64 a1_2, .int .i64 a1_3] 75 (0, 0))) ∧ (w'.heap[s_]? = some (.cells #[.int .i64 0, .int .u64 0] 234 (0, 0))) ∧ (w.heap.size ≤ s_) ∧ (w.heap.size ≤ s_) ∧ (gb101 ≠ s_) ∧ (s_ ≠ gb101) ∧ (Below w.heap.size w w')) ?_ ?_
                rotate_left
                ·intro hCont
                 refine two_ (i := 15) (j := 19) (Ni := some 46) (Nj := some 9) qb191 qb551 rfl rfl rfl rfl (two_of HT_.out (by kernel_rfl)) (by decide) (by decide) (fun K hK => ?_) (fun K hK => ?_)
                 ·skip
                  refine goes_ Try.func241 (by kernel_rfl) rfl #[.int .i64 ((rd_T231 l0 x7_1).f0), .int .i64 (rd x6_1 (ji39)), .int .i64 (rd x6_1 (ji42))] (by rfl) rfl rfl qz339 ?_
                  with_reducible refine (spec_l03Two.calls k1 ((rd_T231 l0 x7_1).f0) (rd x6_1 (ji39)) (rd x6_1 (ji42)) t127 t128 t129 _ A45.out).mono ?_
                  rintro e w75 ⟨rfl, hb⟩
                  have HS2_ := (hb.cell (World.block_lt_of_cell? _ _ (hHeld.2.2.1))).trans (hHeld.2.2.1); have HS3_ := (hb.cell (World.block_lt_of_cell? _ _ (hHeld.2.2.2))).trans (hHeld.2.2.2); refine ⟨_, rfl, ?_⟩; have h_ := qA3 (Kd.R_below qz153 hb) (blk_below (g := gb101) (o := .cells #[.int .i64 a1_0, .int .i64 a1_1, .int .i64 a1_2, .int .i64 a1_3] 75 (0, 0)) (qz8 BK101.out) hb) (below_step (qz10 GE101.out) hb); clear HO_6 BK101 HB; obtain ⟨HO_6, BK101, HB⟩ := h_; (try clear hb); (try clear hb2); (try clear hk); (try clear hi); refine hK.out _ _ ⟨((HB.out.cell (World.block_lt_of_cell? w _ hw124_0)).trans hw124_0), ((HB.out.cell (World.block_lt_of_cell? w _ hw124_1)).trans hw124_1), HS2_, HS3_⟩ (fun hHeld => ?_)
                  clear hK K; refine norm_ (a' := ?_) ?_ ?_; rotate_left
                  ·show Act.put _ (some 46) _ = _
                   simp only [Act.put, List.setIfInBounds_toArray, List.set_cons_zero, List.set_cons_succ, i64_w, i32_w]
                   rfl
                  refine pure_ (i := 16) (N := some 30) (v := ?_) (a' := ?_) qb198 rfl rfl (any_of HT_.out (by kernel_rfl)) (fun _ _ _ h => h) (Or.inl ⟨by rfl, ?_⟩) ?_ ?_
                  rotate_left
                  ·intro w'
                   go_simp
                   with_reducible rfl
                  rotate_left
                  ·simp only [Act.put, List.setIfInBounds_toArray, List.set_cons_zero, List.set_cons_succ, i64_w, i32_w]
                   rfl
                  refine pure_ (i := 17) (N := some 47) (v := ?_) (a' := ?_) qb193 rfl rfl (any_of HT_.out (by kernel_rfl)) (fun _ _ _ h => h) (Or.inl ⟨by rfl, ?_⟩) ?_ ?_
                  rotate_left
                  ·intro w'
                   go_simp
                   with_reducible rfl
                  rotate_left
                  ·simp only [Act.put, List.setIfInBounds_toArray, List.set_cons_zero, List.set_cons_succ, i64_w, i32_w]
                   rfl
                  refine pure_ (i := 18) (N := some 48) (v := ?_) (a' := ?_) qb194 rfl rfl (any_of HT_.out (by kernel_rfl)) (fun _ _ _ h => h) (Or.inl ⟨by rfl, ?_⟩) ?_ ?_
                  rotate_left
                  ·intro w'
                   go_simp
                   with_reducible rfl
                  rotate_left
                  ·simp only [Act.put, List.setIfInBounds_toArray, List.set_cons_zero, List.set_cons_succ, i64_w, i32_w]
                   rfl
                  refine one_ (i := 19) (N := some 9) qb195 rfl rfl (one_of HT_.out (by kernel_rfl)) (by decide) (fun K hK => ?_)
                  refine box_step ?hg (N := 9) ?hd (cs := #[.int .i64 0, .int .u64 0]) (t := 234) ?hr ?_; (case hd => rfl); (case hg => rfl); (case hr => exact qz5)
                  intro gb130 hg w76 hbox hb
                  have HS2_ := (hb.cell (World.block_lt_of_cell? _ _ (hHeld.2.2.1))).trans (hHeld.2.2.1); have HS3_ := (hb.cell (World.block_lt_of_cell? _ _ (hHeld.2.2.2))).trans (hHeld.2.2.2); have h_ := qA8 (Kd.R_below qz153 hb) (blk_below (g := gb101) (o := .cells #[.int .i64 a1_0, .int .i64 a1_1, .int .i64 a1_2, .int .i64 a1_3] 75 (0, 0)) (qz8 BK101.out) hb) (below_step (qz10 GE101.out) hb) (hbox) ((qz38 GE101.out : w.heap.size ≤ gb130)) ((qz38 GE101.out : w.heap.size ≤ gb130)) ((qz154 BK101.out : gb101 ≠ gb130)) ((qz155 BK101.out : gb130 ≠ gb101)); clear HO_6 BK101 HB; obtain ⟨HO_6, BK101, HB, BK130, GW130, GE130, NB101_130, NB130_101⟩ := h_; clear hb hbox hg; refine hK.out _ _ ⟨((HB.out.cell (World.block_lt_of_cell? w _ hw124_0)).trans hw124_0), ((HB.out.cell (World.block_lt_of_cell? w _ hw124_1)).trans hw124_1), HS2_, HS3_⟩ (fun hHeld => ?_)
                  clear hK K; refine norm_ (a' := ?_) ?_ ?_; rotate_left
                  ·show Act.put _ (some 9) _ = _
                   simp only [Act.put, List.setIfInBounds_toArray, List.set_cons_zero, List.set_cons_succ, i64_w, i32_w]
                   rfl
                  exact norm_ qz85 (hCont (gb130) _ ⟨hHeld, qz153, (qz8 BK101.out), (qz8 BK130.out), GW130.out, GE130.out, NB101_130.out, NB130_101.out, (qz43 GE101.out GE130.out)⟩)
                 ·skip
                  refine box_step ?hg (N := 9) ?hd (cs := #[.int .i64 0, .int .u64 0]) (t := 234) ?hr ?_; (case hd => rfl); (case hg => rfl); (case hr => exact qz5)
                  intro gb130 hg w75 hbox hb
                  have HS2_ := (hb.cell (World.block_lt_of_cell? _ _ (hHeld.2.2.1))).trans (hHeld.2.2.1); have HS3_ := (hb.cell (World.block_lt_of_cell? _ _ (hHeld.2.2.2))).trans (hHeld.2.2.2); have h_ := qA8 (Kd.R_below qz153 hb) (blk_below (g := gb101) (o := .cells #[.int .i64 a1_0, .int .i64 a1_1, .int .i64 a1_2, .int .i64 a1_3] 75 (0, 0)) (qz8 BK101.out) hb) (below_step (qz10 GE101.out) hb) (hbox) ((qz38 GE101.out : w.heap.size ≤ gb130)) ((qz38 GE101.out : w.heap.size ≤ gb130)) ((qz154 BK101.out : gb101 ≠ gb130)) ((qz155 BK101.out : gb130 ≠ gb101)); clear HO_6 BK101 HB; obtain ⟨HO_6, BK101, HB, BK130, GW130, GE130, NB101_130, NB130_101⟩ := h_; clear hb hbox hg; refine hK.out _ _ ⟨((HB.out.cell (World.block_lt_of_cell? w _ hw124_0)).trans hw124_0), ((HB.out.cell (World.block_lt_of_cell? w _ hw124_1)).trans hw124_1), HS2_, HS3_⟩ (fun hHeld => ?_)
                  clear hK K; refine norm_ (a' := ?_) ?_ ?_; rotate_left
                  ·show Act.put _ (some 9) _ = _
                   simp only [Act.put, List.setIfInBounds_toArray, List.set_cons_zero, List.set_cons_succ, i64_w, i32_w]
                   rfl
                  refine one_ (i := 15) (N := some 46) qb552 rfl rfl (one_of HT_.out (by kernel_rfl)) (by decide) (fun K hK => ?_)
                  refine goes_ Try.func241 (by kernel_rfl) rfl #[.int .i64 ((rd_T231 l0 x7_1).f0), .int .i64 (rd x6_1 (ji39)), .int .i64 (rd x6_1 (ji42))] (by rfl) rfl rfl qz339 ?_
                  with_reducible refine (spec_l03Two.calls k1 ((rd_T231 l0 x7_1).f0) (rd x6_1 (ji39)) (rd x6_1 (ji42)) t127 t128 t129 _ A45.out).mono ?_
                  rintro e w76 ⟨rfl, hb⟩
                  have HS2_ := (hb.cell (World.block_lt_of_cell? _ _ (hHeld.2.2.1))).trans (hHeld.2.2.1); have HS3_ := (hb.cell (World.block_lt_of_cell? _ _ (hHeld.2.2.2))).trans (hHeld.2.2.2); refine ⟨_, rfl, ?_⟩; have h_ := qA4 (Kd.R_below qz153 hb) (blk_below (g := gb101) (o := .cells #[.int .i64 a1_0, .int .i64 a1_1, .int .i64 a1_2, .int .i64 a1_3] 75 (0, 0)) (qz8 BK101.out) hb) (blk_below (g := gb130) (o := .cells #[.int .i64 0, .int .u64 0] 234 (0, 0)) (qz8 BK130.out) hb) (below_step (qz43 GE101.out GE130.out) hb); clear HO_6 BK101 BK130 HB; obtain ⟨HO_6, BK101, BK130, HB⟩ := h_; (try clear hb); (try clear hb2); (try clear hk); (try clear hi); refine hK.out _ _ ⟨((HB.out.cell (World.block_lt_of_cell? w _ hw124_0)).trans hw124_0), ((HB.out.cell (World.block_lt_of_cell? w _ hw124_1)).trans hw124_1), HS2_, HS3_⟩ (fun hHeld => ?_)
                  clear hK K; refine norm_ (a' := ?_) ?_ ?_; rotate_left
                  ·show Act.put _ (some 46) _ = _
                   simp only [Act.put, List.setIfInBounds_toArray, List.set_cons_zero, List.set_cons_succ, i64_w, i32_w]
                   rfl
                  refine pure_ (i := 16) (N := some 30) (v := ?_) (a' := ?_) qb553 rfl rfl (any_of HT_.out (by kernel_rfl)) (fun _ _ _ h => h) (Or.inl ⟨by rfl, ?_⟩) ?_ ?_
                  rotate_left
                  ·intro w'
                   go_simp
                   with_reducible rfl
                  rotate_left
                  ·simp only [Act.put, List.setIfInBounds_toArray, List.set_cons_zero, List.set_cons_succ, i64_w, i32_w]
                   rfl
                  refine pure_ (i := 17) (N := some 47) (v := ?_) (a' := ?_) qb554 rfl rfl (any_of HT_.out (by kernel_rfl)) (fun _ _ _ h => h) (Or.inl ⟨by rfl, ?_⟩) ?_ ?_
                  rotate_left
                  ·intro w'
                   go_simp
                   with_reducible rfl
                  rotate_left
                  ·simp only [Act.put, List.setIfInBounds_toArray, List.set_cons_zero, List.set_cons_succ, i64_w, i32_w]
                   rfl
                  refine pure_ (i := 18) (N := some 48) (v := ?_) (a' := ?_) qb195 rfl rfl (any_of HT_.out (by kernel_rfl)) (fun _ _ _ h => h) (Or.inl ⟨by rfl, ?_⟩) ?_ ?_
                  rotate_left
                  ·intro w'
                   go_simp
                   with_reducible rfl
                  rotate_left
                  ·simp only [Act.put, List.setIfInBounds_toArray, List.set_cons_zero, List.set_cons_succ, i64_w, i32_w]
                   rfl
                  exact norm_ qz85 (hCont (gb130) _ ⟨hHeld, qz153, (qz8 BK101.out), (qz8 BK130.out), GW130.out, GE130.out, NB101_130.out, NB130_101.out, (qz43 GE101.out GE130.out)⟩)
                rintro gb130 w77 ⟨hS_, h0_, h1_, h2_, h3_, h4_, h5_, h6_, h7_⟩
                have h_ := qA8 ((⟨h0_⟩ : Aside0 (Kd.R (Kd.int .i64) 3 w77 w.heap.size (fun _ => True) (.slice (some ad125) x6_1.length co73) x6_1)).out) ((⟨h1_⟩ : Aside0 (w77.heap[gb101]? = some (.cells #[.int .i64 a1_0, .int .i64 a1_1, .int .i64 a1_2, .int .i64 a1_3] 75 (0, 0)))).out) ((⟨h2_⟩ : Aside0 (w77.heap[gb130]? = some (.cells #[.int .i64 0, .int .u64 0] 234 (0, 0)))).out) ((⟨h3_⟩ : Aside0 (w.heap.size ≤ gb130)).out) ((⟨h4_⟩ : Aside0 (w.heap.size ≤ gb130)).out) ((⟨h5_⟩ : Aside0 (gb101 ≠ gb130)).out) ((⟨h6_⟩ : Aside0 (gb130 ≠ gb101)).out) ((⟨h7_⟩ : Aside0 (Below w.heap.size w w77)).out)
                clear HO_6 BK101 HB h0_ h1_ h2_ h3_ h4_ h5_ h6_ h7_; obtain ⟨HO_6, BK101, BK130, GW130, GE130, NB101_130, NB130_101, HB⟩ := h_; have hHeld : w77.cell? (ad107.add ((x7_1).toNat * 2)) = some (.int .i64 ((rd_T231 l0 x7_1).f0)) ∧ w77.cell? ⟨(ad107.add ((x7_1).toNat * 2)).block, (ad107.add ((x7_1).toNat * 2)).off + 1, none⟩ = some (.int .i64 ((rd_T231 l0 x7_1).f1)) ∧ w77.cell? (ad125.add ((ji39)).toNat) = some (.int .i64 (rd x6_1 (ji39))) ∧ w77.cell? (ad125.add ((ji42)).toNat) = some (.int .i64 (rd x6_1 (ji42))) := hS_; refine norm_ (a' := ?_) ?_ ?_; rotate_left
                ·simp only [putAll, Act.put, List.setIfInBounds_toArray, List.set_cons_zero, List.set_cons_succ]
                 rfl
                refine one_ (i := 20) (N := none) qb196 rfl rfl (one_of HT_.out (by kernel_rfl)) (by decide) (fun K hK => ?_)
                have hs78 : w77.cell? ⟨gb130, 0, none⟩ = some (.int .i64 0) := (blk_cell BK130.out 0).trans rfl; have hfs78 := blk_frozen BK130.out 0; have hns78_0 := NB101_130.out; have hms78_0 := NB130_101.out; have hs79 : w77.cell? ⟨gb130, 1, none⟩ = some (.int .u64 0) := (blk_cell BK130.out 1).trans rfl; have hfs79 := blk_frozen BK130.out 1; have hns79_0 := NB101_130.out; have hms79_0 := NB130_101.out; refine skip_ (w1 := ?_) ?sa ?sb ?_ ?_
                (case sa => rfl)
                (case sb => rfl)
                rotate_left
                ·go_simp
                 rfl
                refine hK.out _ _ ⟨((cell_far (p := ⟨gb130, _, none⟩) (qz110 hw124_0 GW130.out) _).trans (((cell_far (p := ⟨gb130, _, none⟩) (qz110 hw124_0 GW130.out) _).trans (hHeld.1)))), ((cell_far (p := ⟨gb130, _, none⟩) (qz110 hw124_1 GW130.out) _).trans (((cell_far (p := ⟨gb130, _, none⟩) (qz110 hw124_1 GW130.out) _).trans (hHeld.2.1)))), ((cell_far (p := ⟨gb130, _, none⟩) (qz340 BK130.out) _).trans (((cell_far (p := ⟨gb130, _, none⟩) (qz340 BK130.out) _).trans (hHeld.2.2.1)))), ((cell_far (p := ⟨gb130, _, none⟩) (qz340 BK130.out) _).trans (((cell_far (p := ⟨gb130, _, none⟩) (qz340 BK130.out) _).trans (hHeld.2.2.2))))⟩ (fun hHeld => ?_)
                clear hK K; refine pure_ (i := 21) (N := some 10) (v := ?_) (a' := ?_) qb197 rfl rfl (any_of HT_.out (by kernel_rfl)) (fun _ _ _ h => h) (Or.inl ⟨by rfl, ?_⟩) ?_ ?_
                rotate_left
                ·intro w'
                 go_simp
                 with_reducible rfl
                rotate_left
                ·simp only [Act.put, List.setIfInBounds_toArray, List.set_cons_zero, List.set_cons_succ, i64_w, i32_w]
                 rfl
                refine done_ (done_of HT_.out (by kernel_rfl)) ?_
                try go_wp2
                go_ret2
                exact ⟨qz342, qz43 GE101.out GE130.out⟩
              ·rw [if_neg c44] at H
               exact absurd H (by simp)
             ·rw [if_neg c43] at H
              exact absurd H (by simp)
            ·rw [if_neg c41] at H
             exact absurd H (by simp)
           ·rw [if_neg c40] at H
            exact absurd H (by simp)
     ·rw [if_neg c10] at H
      exact absurd H (by simp)
    ·rw [if_neg c9] at H
     have c9b0 : decide (x7_1 < (l0.length : Int)) = false := decide_eq_false c9; clear c9
     by_cases c80 : 0 < (x6_1.length : Int)
     ·rw [if_pos c80] at H
      have c80b0 : decide (0 < (x6_1.length : Int)) = true := decide_eq_true c80; have c80b1 : decide (0 < x6_1.length) = true := decide_eq_true (by omega)
      clear c80; simp only [Option.some.injEq, Prod.mk.injEq] at H; obtain ⟨rfl, rfl⟩ := H; obtain ⟨Ao81, co81, eo81⟩ := Kd.R_slice HO_6.out; subst eo81; have p106 : 0 ≤ (0 : Int) := (by omega)
      have q106 : 0 < (x6_1.length : Int) := of_decide_eq_true qz4; obtain ⟨ad106, e106, hx106_0⟩ := Kd.at_int (Kd.R_reads' HO_6.out).2.2 0 p106 q106
      cases e106
      have qi106 : (0 < x6_1.length) = True := eq_true (by omega)
      (try rw [show ((0 : Int)).toNat = 0 from rfl] at hx106_0)
      (try rw [Addr.add_zero'] at hx106_0); replace p106 := eq_true p106; replace q106 := eq_true q106
      go_wp2
      go_ret2
      exact ⟨qz13, qz10 GE101.out⟩
     ·rw [if_neg c80] at H
      exact absurd H (by simp)
 ·replace c4 := Bool.eq_false_iff.mpr c4
  subst c4; rw [if_neg (show ¬ (false = true) by decide)] at H
  simp only [Option.some.injEq, Prod.mk.injEq] at H
  obtain ⟨rfl, rfl⟩ := H; go_enter Try.func164, Try.ntmps164
  go_wp2_with (first | ((with_reducible refine gate_dst (N := 3) rfl ?_); refine box_event ?hg (N := 3) ?hd (cs := #[.int .i64 a1_0, .int .i64 a1_1, .int .i64 a1_2, .int .i64 a1_3]) (t := 75) ?hr ?_; (case hd => rfl); (case hg => rfl); (case hr => exact qz5); intro gb101 hg w82 hbox hb; have h_ := qA4 (below_step qz6 hb) (hbox) ((qz7 : w.heap.size ≤ gb101)) ((qz7 : w.heap.size ≤ gb101)); clear HB; obtain ⟨HB, BK101, GW101, GE101⟩ := h_; clear hb hbox hg) | ((with_reducible refine gate_callee (f := 165) rfl ?_); refine goesL_ (some 14) rfl rfl Try.func165 (by kernel_rfl) rfl #[.slice A0 l0.length c0] rfl qz1 ?_; (with_reducible refine (spec_ExprOk.calls k _ _ l0 false _ ?side1 ?side2 A3.out).mono ?_); (case side1 => exact qz17 HR0.out); (case side2 => exact HC0.out); rintro e w83 ⟨rfl, hb⟩; refine ⟨_, rfl, ?_⟩; have h_ := qA2 (blk_below (g := gb101) (o := .cells #[.int .i64 a1_0, .int .i64 a1_1, .int .i64 a1_2, .int .i64 a1_3] 75 (0, 0)) (qz8 BK101.out) hb) (below_step (qz10 GE101.out) hb); clear BK101 HB; obtain ⟨BK101, HB⟩ := h_; (try clear hb); (try clear hb2); (try clear hk); (try clear hi)))
  go_ret2
  exact ⟨qz13, qz10 GE101.out⟩
/-! ### spec_QueryTake: function 69 -/
set_option maxHeartbeats 8000000 in
set_option maxRecDepth 100000 in
theorem spec_QueryTake.calls (k : Nat) (A0_0 : Option Addr) (c0_0 : Nat) (l0_0 : List (S231)) (A0_1 : Option Addr) (c0_1 : Nat) (l0_1 : List (S231)) (a0_2 : Int) (a0_3 : Int) (a0_4 : Int) (a0_5 : Int) (a0_6 : Int) (a1_0 : Int) (a1_1 : Int) (a1_2 : Int) (a1_3 : Int) (r1 : Int) (r2 : Int) (w : World) (hr0_0 : Kd.C k231 w A0_0 l0_0.length l0_0) (hc0_0 : l0_0.length ≤ c0_0) (hr0_1 : Kd.C k231 w A0_1 l0_1.length l0_1) (hc0_1 : l0_1.length ≤ c0_1) (h : spec_QueryTake.f k l0_0 l0_1 a0_2 a0_3 a0_4 a0_5 a0_6 a1_0 a1_1 a1_2 a1_3 = some (r1, r2)) :
  Calls Try.prog 69 #[.agg #[.slice A0_0 l0_0.length c0_0, .slice A0_1 l0_1.length c0_1, .int .i64 a0_2, .int .i64 a0_3, .int .i64 a0_4, .int .i64 a0_5, .int .i64 a0_6], .agg #[.int .i64 a1_0, .int .i64 a1_1, .int .i64 a1_2, .int .i64 a1_3]] w fun e w' => e = .returned (.tuple #[.int .i64 r1, .int .i64 r2]) ∧ Below w.heap.size w w' := by
 have hu102 := Try.underlying102
 have hu75 := Try.underlying75
 have HR0_0 := Aside0.mk hr0_0
 have HC0_0 := Aside0.mk hc0_0
 clear hr0_0 hc0_0
 have HR0_1 := Aside0.mk hr0_1
 have HC0_1 := Aside0.mk hc0_1
 clear hr0_1 hc0_1
 have HB := Aside0.mk (Below.refl w.heap.size w)
 have H : ((spec_QueryOk.f k l0_0 l0_1 a0_2 a0_3 a0_4 a0_5 a0_6).bind fun t103 => (if t103 = true then ((spec_ElemOk.f a1_0 a1_1 a1_2 a1_3).bind fun t104 => (spec_QueryTake.j0 k (!t104) l0_0 l0_1 a0_2 a0_3 a0_4 a0_5 a0_6 a1_0 a1_1 a1_2 a1_3)) else (spec_QueryTake.j0 k true l0_0 l0_1 a0_2 a0_3 a0_4 a0_5 a0_6 a1_0 a1_1 a1_2 a1_3))) = some (r1, r2) := h
 clear h
 have HC3 := Aside0.mk H
 clear H
 go_enter Try.func69, Try.ntmps69
 go_upto_region 1 with (first | ((with_reducible refine gate_dst (N := 2) rfl ?_); refine box_event ?hg (N := 2) ?hd (cs := #[.slice A0_0 l0_0.length c0_0, .slice A0_1 l0_1.length c0_1, .int .i64 a0_2, .int .i64 a0_3, .int .i64 a0_4, .int .i64 a0_5, .int .i64 a0_6]) (t := 102) ?hr ?_; (case hd => rfl); (case hg => rfl); (case hr => exact qz5); intro gb101 hg w4 hbox hb; have h_ := qA4 (below_step qz6 hb) (hbox) ((qz7 : w.heap.size ≤ gb101)) ((qz7 : w.heap.size ≤ gb101)); clear HB; obtain ⟨HB, BK101, GW101, GE101⟩ := h_; clear hb hbox hg) | ((with_reducible refine gate_dst (N := 3) rfl ?_); refine box_event ?hg (N := 3) ?hd (cs := #[.int .i64 a1_0, .int .i64 a1_1, .int .i64 a1_2, .int .i64 a1_3]) (t := 75) ?hr ?_; (case hd => rfl); (case hg => rfl); (case hr => exact qz5); intro gb102 hg w5 hbox hb; have h_ := qA7 (blk_below (g := gb101) (o := .cells #[.slice A0_0 l0_0.length c0_0, .slice A0_1 l0_1.length c0_1, .int .i64 a0_2, .int .i64 a0_3, .int .i64 a0_4, .int .i64 a0_5, .int .i64 a0_6] 102 (0, 0)) (qz8 BK101.out) hb) (below_step (qz10 GE101.out) hb) (hbox) ((qz38 GE101.out : w.heap.size ≤ gb102)) ((qz38 GE101.out : w.heap.size ≤ gb102)) ((qz77 BK101.out : gb101 ≠ gb102)) ((qz78 BK101.out : gb102 ≠ gb101)); clear BK101 HB; obtain ⟨BK101, HB, BK102, GW102, GE102, NB101_102, NB102_101⟩ := h_; clear hb hbox hg))
 (try simp only [Act.put, List.setIfInBounds_toArray, List.set_cons_zero, List.set_cons_succ])
 go_cut [17] (fun v17 wc => ∃ (kq : Nat) (x17_2 : Bool), v17 = .bool x17_2 ∧ Aside0 (spec_QueryTake.j0 kq x17_2 l0_0 l0_1 a0_2 a0_3 a0_4 a0_5 a0_6 a1_0 a1_1 a1_2 a1_3 = some (r1, r2)) ∧ Aside0 (kq ≤ k) ∧ Aside0 (wc.heap[gb101]? = some (.cells #[(.slice A0_0 l0_0.length c0_0), (.slice A0_1 l0_1.length c0_1), .int .i64 a0_2, .int .i64 a0_3, .int .i64 a0_4, .int .i64 a0_5, .int .i64 a0_6] 102 (0, 0))) ∧ Aside0 (wc.heap[gb102]? = some (.cells #[.int .i64 a1_0, .int .i64 a1_1, .int .i64 a1_2, .int .i64 a1_3] 75 (0, 0))) ∧ Aside0 (Below w.heap.size w wc))
 case first =>
  have H := HC3.out; clear HC3; replace H := qB H; obtain ⟨t103, A6, H⟩ := H
  try dsimp only at H
  by_cases c7 : t103 = true
  ·subst c7
   rw [if_pos rfl] at H; replace H := qB H; obtain ⟨t104, A8, H⟩ := H
   try dsimp only at H
   have H' := Aside0.mk H; clear H; have hnb9 := NB101_102.out; have hnc9 := NB102_101.out; obtain ⟨hcz10_0, hcz10_1, hcz10_2, hcz10_3, hcz10_4, hcz10_5, hcz10_6⟩ := qC7 BK101.out; obtain ⟨hfz10_0, hfz10_1, hfz10_2, hfz10_3, hfz10_4, hfz10_5, hfz10_6⟩ := qF7 BK101.out
   go_wp2_with (first | ((with_reducible refine gate_callee (f := 70) rfl ?_); refine goesL_ (some 11) rfl rfl Try.func70 (by kernel_rfl) rfl #[.agg #[.slice A0_0 l0_0.length c0_0, .slice A0_1 l0_1.length c0_1, .int .i64 a0_2, .int .i64 a0_3, .int .i64 a0_4, .int .i64 a0_5, .int .i64 a0_6]] rfl qz1 ?_; (with_reducible refine (spec_QueryOk.calls k _ _ l0_0 _ _ l0_1 a0_2 a0_3 a0_4 a0_5 a0_6 true _ ?side1 ?side2 ?side3 ?side4 A6.out).mono ?_); (case side1 => exact qz17 HR0_0.out); (case side2 => exact HC0_0.out); (case side3 => exact qz17 HR0_1.out); (case side4 => exact HC0_1.out); rintro e w11 ⟨rfl, hb⟩; refine ⟨_, rfl, ?_⟩; have h_ := qA3 (blk_below (g := gb101) (o := .cells #[.slice A0_0 l0_0.length c0_0, .slice A0_1 l0_1.length c0_1, .int .i64 a0_2, .int .i64 a0_3, .int .i64 a0_4, .int .i64 a0_5, .int .i64 a0_6] 102 (0, 0)) (qz8 BK101.out) hb) (blk_below (g := gb102) (o := .cells #[.int .i64 a1_0, .int .i64 a1_1, .int .i64 a1_2, .int .i64 a1_3] 75 (0, 0)) (qz8 BK102.out) hb) (below_step (qz43 GE101.out GE102.out) hb); clear BK101 BK102 HB; obtain ⟨BK101, BK102, HB⟩ := h_; (try clear hb); (try clear hb2); (try clear hk); (try clear hi); obtain ⟨hcz12_0, hcz12_1, hcz12_2, hcz12_3⟩ := qC4 BK102.out; obtain ⟨hfz12_0, hfz12_1, hfz12_2, hfz12_3⟩ := qF4 BK102.out) | (go_at_call 71; (with_reducible refine (spec_ElemOk.calls a1_0 a1_1 a1_2 a1_3 t104 _ A8.out).mono ?_); rintro e w13 ⟨rfl, hb⟩; have h_ := qA3 (blk_below (g := gb101) (o := .cells #[.slice A0_0 l0_0.length c0_0, .slice A0_1 l0_1.length c0_1, .int .i64 a0_2, .int .i64 a0_3, .int .i64 a0_4, .int .i64 a0_5, .int .i64 a0_6] 102 (0, 0)) (qz8 BK101.out) hb) (blk_below (g := gb102) (o := .cells #[.int .i64 a1_0, .int .i64 a1_1, .int .i64 a1_2, .int .i64 a1_3] 75 (0, 0)) (qz8 BK102.out) hb) (below_step (qz43 GE101.out GE102.out) hb); clear BK101 BK102 HB; obtain ⟨BK101, BK102, HB⟩ := h_; (try clear hb); (try clear hb2); (try clear hk); (try clear hi)))
   go_meet
   case rel => exact ⟨_, (!t104), qz2, H', ⟨qz36⟩, ⟨qz8 BK101.out⟩, ⟨qz8 BK102.out⟩, ⟨qz43 GE101.out GE102.out⟩⟩
  ·replace c7 := Bool.eq_false_iff.mpr c7
   subst c7; rw [if_neg (show ¬ (false = true) by decide)] at H
   have H' := Aside0.mk H; clear H; have hnb14 := NB101_102.out; have hnc14 := NB102_101.out; obtain ⟨hcz15_0, hcz15_1, hcz15_2, hcz15_3, hcz15_4, hcz15_5, hcz15_6⟩ := qC7 BK101.out; obtain ⟨hfz15_0, hfz15_1, hfz15_2, hfz15_3, hfz15_4, hfz15_5, hfz15_6⟩ := qF7 BK101.out
   go_wp2_with (first | ((with_reducible refine gate_callee (f := 70) rfl ?_); refine goesL_ (some 11) rfl rfl Try.func70 (by kernel_rfl) rfl #[.agg #[.slice A0_0 l0_0.length c0_0, .slice A0_1 l0_1.length c0_1, .int .i64 a0_2, .int .i64 a0_3, .int .i64 a0_4, .int .i64 a0_5, .int .i64 a0_6]] rfl qz1 ?_; (with_reducible refine (spec_QueryOk.calls k _ _ l0_0 _ _ l0_1 a0_2 a0_3 a0_4 a0_5 a0_6 false _ ?side1 ?side2 ?side3 ?side4 A6.out).mono ?_); (case side1 => exact qz17 HR0_0.out); (case side2 => exact HC0_0.out); (case side3 => exact qz17 HR0_1.out); (case side4 => exact HC0_1.out); rintro e w16 ⟨rfl, hb⟩; refine ⟨_, rfl, ?_⟩; have h_ := qA3 (blk_below (g := gb101) (o := .cells #[.slice A0_0 l0_0.length c0_0, .slice A0_1 l0_1.length c0_1, .int .i64 a0_2, .int .i64 a0_3, .int .i64 a0_4, .int .i64 a0_5, .int .i64 a0_6] 102 (0, 0)) (qz8 BK101.out) hb) (blk_below (g := gb102) (o := .cells #[.int .i64 a1_0, .int .i64 a1_1, .int .i64 a1_2, .int .i64 a1_3] 75 (0, 0)) (qz8 BK102.out) hb) (below_step (qz43 GE101.out GE102.out) hb); clear BK101 BK102 HB; obtain ⟨BK101, BK102, HB⟩ := h_; (try clear hb); (try clear hb2); (try clear hk); (try clear hi)))
   go_meet
   case rel => exact ⟨_, (true), qz2, H', ⟨qz36⟩, ⟨qz8 BK101.out⟩, ⟨qz8 BK102.out⟩, ⟨qz43 GE101.out GE102.out⟩⟩
 case rest =>
  clear HC3; (try clear c1); (try clear p2); (try clear c6); (try clear c7); (try clear c9); (try clear c14); (try clear hcz10_0); (try clear hcz10_1); (try clear hcz10_2); (try clear hcz10_3); (try clear hcz10_4); (try clear hcz10_5); (try clear hcz10_6); (try clear hcz12_0); (try clear hcz12_1); (try clear hcz12_2); (try clear hcz12_3); (try clear hcz15_0); (try clear hcz15_1); (try clear hcz15_2); (try clear hcz15_3); (try clear hcz15_4); (try clear hcz15_5); (try clear hcz15_6); (try clear hfz10_0); (try clear hfz10_1); (try clear hfz10_2); (try clear hfz10_3); (try clear hfz10_4); (try clear hfz10_5); (try clear hfz10_6); (try clear hfz12_0); (try clear hfz12_1); (try clear hfz12_2); (try clear hfz12_3); (try clear hfz15_0); (try clear hfz15_1); (try clear hfz15_2); (try clear hfz15_3); (try clear hfz15_4); (try clear hfz15_5); (try clear hfz15_6); obtain ⟨kq, x17_2, rfl, HA, HJ2, BK101, BK102, HB⟩ := hcut
  cases kq with
  | zero => exact absurd HA.out (by simp [spec_QueryTake.j0])
  | succ kj2 =>
   have H := HA.out; clear HA; simp only [spec_QueryTake.j0] at H
   by_cases c17 : x17_2 = true
   ·subst c17
    rw [if_pos rfl] at H; simp only [Option.some.injEq, Prod.mk.injEq] at H; obtain ⟨rfl, rfl⟩ := H
    go_wp2
    go_ret2
    exact ⟨qz13, qz43 GE101.out GE102.out⟩
   ·replace c17 := Bool.eq_false_iff.mpr c17
    subst c17; rw [if_neg (show ¬ (false = true) by decide)] at H
    replace H := qB H; obtain ⟨⟨t105, t106⟩, A18, H⟩ := H
    try dsimp only at H
    by_cases c19 : t106 = 0
    ·rw [if_pos c19] at H
     have c19b0 : (t106 == 0) = true := beq_iff_eq.mpr c19; have c19b1 : (t106 != 0) = false := bne_eq_false_iff_eq.mpr c19; clear c19
     by_cases c20 : t105 = 0
     ·rw [if_pos c20] at H
      have c20b0 : (t105 == 0) = true := beq_iff_eq.mpr c20; have c20b1 : (t105 != 0) = false := bne_eq_false_iff_eq.mpr c20; clear c20; simp only [Option.some.injEq, Prod.mk.injEq] at H; obtain ⟨rfl, rfl⟩ := H; have hnb21 := NB101_102.out; have hnc21 := NB102_101.out; obtain ⟨hcz22_0, hcz22_1, hcz22_2, hcz22_3, hcz22_4, hcz22_5, hcz22_6⟩ := qC7 BK101.out; obtain ⟨hfz22_0, hfz22_1, hfz22_2, hfz22_3, hfz22_4, hfz22_5, hfz22_6⟩ := qF7 BK101.out; obtain ⟨hcz23_0, hcz23_1, hcz23_2, hcz23_3⟩ := qC4 BK102.out; obtain ⟨hfz23_0, hfz23_1, hfz23_2, hfz23_3⟩ := qF4 BK102.out
      go_wp2_with (first | ((with_reducible refine gate_callee (f := 164) rfl ?_); refine goesL_ (some 22) rfl rfl Try.func164 (by kernel_rfl) rfl #[.slice A0_0 l0_0.length c0_0, .agg #[.int .i64 a1_0, .int .i64 a1_1, .int .i64 a1_2, .int .i64 a1_3]] rfl qz1 ?_; (with_reducible refine (spec_ExprRun.calls kj2 _ _ l0_0 a1_0 a1_1 a1_2 a1_3 t105 t106 _ ?side1 ?side2 A18.out).mono ?_); (case side1 => exact qz17 HR0_0.out); (case side2 => exact HC0_0.out); rintro e w24 ⟨rfl, hb⟩; refine ⟨_, rfl, ?_⟩; have h_ := qA3 (blk_below (g := gb101) (o := .cells #[.slice A0_0 l0_0.length c0_0, .slice A0_1 l0_1.length c0_1, .int .i64 a0_2, .int .i64 a0_3, .int .i64 a0_4, .int .i64 a0_5, .int .i64 a0_6] 102 (0, 0)) (qz8 BK101.out) hb) (blk_below (g := gb102) (o := .cells #[.int .i64 a1_0, .int .i64 a1_1, .int .i64 a1_2, .int .i64 a1_3] 75 (0, 0)) (qz8 BK102.out) hb) (below_step (qz43 GE101.out GE102.out) hb); clear BK101 BK102 HB; obtain ⟨BK101, BK102, HB⟩ := h_; (try clear hb); (try clear hb2); (try clear hk); (try clear hi)))
      go_ret2
      exact ⟨qz13, qz43 GE101.out GE102.out⟩
     ·rw [if_neg c20] at H
      have c20b0 : (t105 == 0) = false := beq_eq_false_iff_ne.mpr c20; have c20b1 : (t105 != 0) = true := bne_iff_ne.mpr c20; replace H := qB H; obtain ⟨⟨t107, t108⟩, A25, H⟩ := H
      try dsimp only at H
      by_cases c26 : t108 = 0
      ·rw [if_pos c26] at H
       have c26b0 : (t108 == 0) = true := beq_iff_eq.mpr c26; have c26b1 : (t108 != 0) = false := bne_eq_false_iff_eq.mpr c26; clear c26; simp only [Option.some.injEq, Prod.mk.injEq] at H; obtain ⟨rfl, rfl⟩ := H; have hnb27 := NB101_102.out; have hnc27 := NB102_101.out; obtain ⟨hcz28_0, hcz28_1, hcz28_2, hcz28_3, hcz28_4, hcz28_5, hcz28_6⟩ := qC7 BK101.out; obtain ⟨hfz28_0, hfz28_1, hfz28_2, hfz28_3, hfz28_4, hfz28_5, hfz28_6⟩ := qF7 BK101.out; obtain ⟨hcz29_0, hcz29_1, hcz29_2, hcz29_3⟩ := qC4 BK102.out; obtain ⟨hfz29_0, hfz29_1, hfz29_2, hfz29_3⟩ := qF4 BK102.out
       go_wp2_with (first | ((with_reducible refine gate_callee (f := 164) rfl ?_); refine goesL_ (some 22) rfl rfl Try.func164 (by kernel_rfl) rfl #[.slice A0_0 l0_0.length c0_0, .agg #[.int .i64 a1_0, .int .i64 a1_1, .int .i64 a1_2, .int .i64 a1_3]] rfl qz1 ?_; (with_reducible refine (spec_ExprRun.calls kj2 _ _ l0_0 a1_0 a1_1 a1_2 a1_3 t105 t106 _ ?side1 ?side2 A18.out).mono ?_); (case side1 => exact qz17 HR0_0.out); (case side2 => exact HC0_0.out); rintro e w30 ⟨rfl, hb⟩; refine ⟨_, rfl, ?_⟩; have h_ := qA3 (blk_below (g := gb101) (o := .cells #[.slice A0_0 l0_0.length c0_0, .slice A0_1 l0_1.length c0_1, .int .i64 a0_2, .int .i64 a0_3, .int .i64 a0_4, .int .i64 a0_5, .int .i64 a0_6] 102 (0, 0)) (qz8 BK101.out) hb) (blk_below (g := gb102) (o := .cells #[.int .i64 a1_0, .int .i64 a1_1, .int .i64 a1_2, .int .i64 a1_3] 75 (0, 0)) (qz8 BK102.out) hb) (below_step (qz43 GE101.out GE102.out) hb); clear BK101 BK102 HB; obtain ⟨BK101, BK102, HB⟩ := h_; (try clear hb); (try clear hb2); (try clear hk); (try clear hi); obtain ⟨hcz31_0, hcz31_1, hcz31_2, hcz31_3, hcz31_4, hcz31_5, hcz31_6⟩ := qC7 BK101.out; obtain ⟨hfz31_0, hfz31_1, hfz31_2, hfz31_3, hfz31_4, hfz31_5, hfz31_6⟩ := qF7 BK101.out; obtain ⟨hcz32_0, hcz32_1, hcz32_2, hcz32_3⟩ := qC4 BK102.out; obtain ⟨hfz32_0, hfz32_1, hfz32_2, hfz32_3⟩ := qF4 BK102.out) | ((with_reducible refine gate_callee (f := 164) rfl ?_); refine goesL_ (some 33) rfl rfl Try.func164 (by kernel_rfl) rfl #[.slice A0_1 l0_1.length c0_1, .agg #[.int .i64 a1_0, .int .i64 a1_1, .int .i64 a1_2, .int .i64 a1_3]] rfl qz1 ?_; (with_reducible refine (spec_ExprRun.calls kj2 _ _ l0_1 a1_0 a1_1 a1_2 a1_3 t107 t108 _ ?side1 ?side2 A25.out).mono ?_); (case side1 => exact qz17 HR0_1.out); (case side2 => exact HC0_1.out); rintro e w33 ⟨rfl, hb⟩; refine ⟨_, rfl, ?_⟩; have h_ := qA3 (blk_below (g := gb101) (o := .cells #[.slice A0_0 l0_0.length c0_0, .slice A0_1 l0_1.length c0_1, .int .i64 a0_2, .int .i64 a0_3, .int .i64 a0_4, .int .i64 a0_5, .int .i64 a0_6] 102 (0, 0)) (qz8 BK101.out) hb) (blk_below (g := gb102) (o := .cells #[.int .i64 a1_0, .int .i64 a1_1, .int .i64 a1_2, .int .i64 a1_3] 75 (0, 0)) (qz8 BK102.out) hb) (below_step (qz43 GE101.out GE102.out) hb); clear BK101 BK102 HB; obtain ⟨BK101, BK102, HB⟩ := h_; (try clear hb); (try clear hb2); (try clear hk); (try clear hi)))
       go_ret2
       exact ⟨qz13, qz43 GE101.out GE102.out⟩
      ·rw [if_neg c26] at H
       have c26b0 : (t108 == 0) = false := beq_eq_false_iff_ne.mpr c26; have c26b1 : (t108 != 0) = true := bne_iff_ne.mpr c26; simp only [Option.some.injEq, Prod.mk.injEq] at H; obtain ⟨rfl, rfl⟩ := H; have hnb34 := NB101_102.out; have hnc34 := NB102_101.out; obtain ⟨hcz35_0, hcz35_1, hcz35_2, hcz35_3, hcz35_4, hcz35_5, hcz35_6⟩ := qC7 BK101.out; obtain ⟨hfz35_0, hfz35_1, hfz35_2, hfz35_3, hfz35_4, hfz35_5, hfz35_6⟩ := qF7 BK101.out; obtain ⟨hcz36_0, hcz36_1, hcz36_2, hcz36_3⟩ := qC4 BK102.out; obtain ⟨hfz36_0, hfz36_1, hfz36_2, hfz36_3⟩ := qF4 BK102.out
       go_wp2_with (first | ((with_reducible refine gate_callee (f := 164) rfl ?_); refine goesL_ (some 22) rfl rfl Try.func164 (by kernel_rfl) rfl #[.slice A0_0 l0_0.length c0_0, .agg #[.int .i64 a1_0, .int .i64 a1_1, .int .i64 a1_2, .int .i64 a1_3]] rfl qz1 ?_; (with_reducible refine (spec_ExprRun.calls kj2 _ _ l0_0 a1_0 a1_1 a1_2 a1_3 t105 t106 _ ?side1 ?side2 A18.out).mono ?_); (case side1 => exact qz17 HR0_0.out); (case side2 => exact HC0_0.out); rintro e w37 ⟨rfl, hb⟩; refine ⟨_, rfl, ?_⟩; have h_ := qA3 (blk_below (g := gb101) (o := .cells #[.slice A0_0 l0_0.length c0_0, .slice A0_1 l0_1.length c0_1, .int .i64 a0_2, .int .i64 a0_3, .int .i64 a0_4, .int .i64 a0_5, .int .i64 a0_6] 102 (0, 0)) (qz8 BK101.out) hb) (blk_below (g := gb102) (o := .cells #[.int .i64 a1_0, .int .i64 a1_1, .int .i64 a1_2, .int .i64 a1_3] 75 (0, 0)) (qz8 BK102.out) hb) (below_step (qz43 GE101.out GE102.out) hb); clear BK101 BK102 HB; obtain ⟨BK101, BK102, HB⟩ := h_; (try clear hb); (try clear hb2); (try clear hk); (try clear hi); obtain ⟨hcz38_0, hcz38_1, hcz38_2, hcz38_3, hcz38_4, hcz38_5, hcz38_6⟩ := qC7 BK101.out; obtain ⟨hfz38_0, hfz38_1, hfz38_2, hfz38_3, hfz38_4, hfz38_5, hfz38_6⟩ := qF7 BK101.out; obtain ⟨hcz39_0, hcz39_1, hcz39_2, hcz39_3⟩ := qC4 BK102.out; obtain ⟨hfz39_0, hfz39_1, hfz39_2, hfz39_3⟩ := qF4 BK102.out) | ((with_reducible refine gate_callee (f := 164) rfl ?_); refine goesL_ (some 33) rfl rfl Try.func164 (by kernel_rfl) rfl #[.slice A0_1 l0_1.length c0_1, .agg #[.int .i64 a1_0, .int .i64 a1_1, .int .i64 a1_2, .int .i64 a1_3]] rfl qz1 ?_; (with_reducible refine (spec_ExprRun.calls kj2 _ _ l0_1 a1_0 a1_1 a1_2 a1_3 t107 t108 _ ?side1 ?side2 A25.out).mono ?_); (case side1 => exact qz17 HR0_1.out); (case side2 => exact HC0_1.out); rintro e w40 ⟨rfl, hb⟩; refine ⟨_, rfl, ?_⟩; have h_ := qA3 (blk_below (g := gb101) (o := .cells #[.slice A0_0 l0_0.length c0_0, .slice A0_1 l0_1.length c0_1, .int .i64 a0_2, .int .i64 a0_3, .int .i64 a0_4, .int .i64 a0_5, .int .i64 a0_6] 102 (0, 0)) (qz8 BK101.out) hb) (blk_below (g := gb102) (o := .cells #[.int .i64 a1_0, .int .i64 a1_1, .int .i64 a1_2, .int .i64 a1_3] 75 (0, 0)) (qz8 BK102.out) hb) (below_step (qz43 GE101.out GE102.out) hb); clear BK101 BK102 HB; obtain ⟨BK101, BK102, HB⟩ := h_; (try clear hb); (try clear hb2); (try clear hk); (try clear hi)))
       go_ret2
       exact ⟨qz13, qz43 GE101.out GE102.out⟩
    ·rw [if_neg c19] at H
     have c19b0 : (t106 == 0) = false := beq_eq_false_iff_ne.mpr c19; have c19b1 : (t106 != 0) = true := bne_iff_ne.mpr c19; simp only [Option.some.injEq, Prod.mk.injEq] at H; obtain ⟨rfl, rfl⟩ := H; have hnb41 := NB101_102.out; have hnc41 := NB102_101.out; obtain ⟨hcz42_0, hcz42_1, hcz42_2, hcz42_3, hcz42_4, hcz42_5, hcz42_6⟩ := qC7 BK101.out; obtain ⟨hfz42_0, hfz42_1, hfz42_2, hfz42_3, hfz42_4, hfz42_5, hfz42_6⟩ := qF7 BK101.out; obtain ⟨hcz43_0, hcz43_1, hcz43_2, hcz43_3⟩ := qC4 BK102.out; obtain ⟨hfz43_0, hfz43_1, hfz43_2, hfz43_3⟩ := qF4 BK102.out
     go_wp2_with (first | ((with_reducible refine gate_callee (f := 164) rfl ?_); refine goesL_ (some 22) rfl rfl Try.func164 (by kernel_rfl) rfl #[.slice A0_0 l0_0.length c0_0, .agg #[.int .i64 a1_0, .int .i64 a1_1, .int .i64 a1_2, .int .i64 a1_3]] rfl qz1 ?_; (with_reducible refine (spec_ExprRun.calls kj2 _ _ l0_0 a1_0 a1_1 a1_2 a1_3 t105 t106 _ ?side1 ?side2 A18.out).mono ?_); (case side1 => exact qz17 HR0_0.out); (case side2 => exact HC0_0.out); rintro e w44 ⟨rfl, hb⟩; refine ⟨_, rfl, ?_⟩; have h_ := qA3 (blk_below (g := gb101) (o := .cells #[.slice A0_0 l0_0.length c0_0, .slice A0_1 l0_1.length c0_1, .int .i64 a0_2, .int .i64 a0_3, .int .i64 a0_4, .int .i64 a0_5, .int .i64 a0_6] 102 (0, 0)) (qz8 BK101.out) hb) (blk_below (g := gb102) (o := .cells #[.int .i64 a1_0, .int .i64 a1_1, .int .i64 a1_2, .int .i64 a1_3] 75 (0, 0)) (qz8 BK102.out) hb) (below_step (qz43 GE101.out GE102.out) hb); clear BK101 BK102 HB; obtain ⟨BK101, BK102, HB⟩ := h_; (try clear hb); (try clear hb2); (try clear hk); (try clear hi)))
     go_ret2
     exact ⟨qz13, qz43 GE101.out GE102.out⟩
/-! ### laws_FnTake: function 11 -/
set_option maxHeartbeats 8000000 in
set_option maxRecDepth 100000 in
theorem laws_FnTake.calls (k : Nat) (A0 : Option Addr) (c0 : Nat) (l0 : List Int) (r : Bool) (w : World) (hr0 : Kd.C (Kd.int .u8) w A0 l0.length l0) (hc0 : l0.length ≤ c0) (h : laws_FnTake.f k l0 = some r) :
  Calls Try.prog 11 #[.slice A0 l0.length c0] w fun e w' => e = .returned (.bool r) ∧ Below w.heap.size w w' := by
 have hu102 := Try.underlying102
 have hu75 := Try.underlying75
 have HR0 := Aside0.mk hr0
 have HC0 := Aside0.mk hc0
 clear hr0 hc0
 have HB := Aside0.mk (Below.refl w.heap.size w)
 have H : ((laws_big.f l0).bind fun t101 => (if t101 = true then (some true) else ((spec_DrawQueryTake.f k l0).bind fun bt102 => ((impl_QueryTake.f k bt102.1 bt102.2.1 bt102.2.2.1 bt102.2.2.2.1 bt102.2.2.2.2.1 bt102.2.2.2.2.2.1 bt102.2.2.2.2.2.2.1 bt102.2.2.2.2.2.2.2.1 bt102.2.2.2.2.2.2.2.2.1 bt102.2.2.2.2.2.2.2.2.2.1 bt102.2.2.2.2.2.2.2.2.2.2).bind fun bt119 => ((spec_QueryTake.f k bt102.1 bt102.2.1 bt102.2.2.1 bt102.2.2.2.1 bt102.2.2.2.2.1 bt102.2.2.2.2.2.1 bt102.2.2.2.2.2.2.1 bt102.2.2.2.2.2.2.2.1 bt102.2.2.2.2.2.2.2.2.1 bt102.2.2.2.2.2.2.2.2.2.1 bt102.2.2.2.2.2.2.2.2.2.2).bind fun bt121 => (if bt119.1 = bt121.1 then (laws_FnTake.j0 k bt119.1 bt119.2 (bt119.2 != bt121.2) bt102.1 bt102.2.1 bt102.2.2.1 bt102.2.2.2.1 bt102.2.2.2.2.1 bt102.2.2.2.2.2.1 bt102.2.2.2.2.2.2.1 bt102.2.2.2.2.2.2.2.1 bt102.2.2.2.2.2.2.2.2.1 bt102.2.2.2.2.2.2.2.2.2.1 bt102.2.2.2.2.2.2.2.2.2.2) else (laws_FnTake.j0 k bt119.1 bt119.2 true bt102.1 bt102.2.1 bt102.2.2.1 bt102.2.2.2.1 bt102.2.2.2.2.1 bt102.2.2.2.2.2.1 bt102.2.2.2.2.2.2.1 bt102.2.2.2.2.2.2.2.1 bt102.2.2.2.2.2.2.2.2.1 bt102.2.2.2.2.2.2.2.2.2.1 bt102.2.2.2.2.2.2.2.2.2.2))))))) = some r := h
 clear h
 replace H := qB H
 obtain ⟨t101, A2, H⟩ := H
 try dsimp only at H
 by_cases c3 : t101 = true
 ·subst c3
  rw [if_pos rfl] at H; obtain rfl := Option.some.inj H; go_enter Try.func11, Try.ntmps11
  go_wp2_with (first | ((with_reducible refine gate_callee (f := 19) rfl ?_); refine goesL_ (some 14) rfl rfl Try.func19 (by kernel_rfl) rfl #[.slice A0 l0.length c0] rfl qz1 ?_; (with_reducible refine (laws_big.calls _ _ l0 true _ ?side1 ?side2 A2.out).mono ?_); (case side1 => exact qz62 HR0.out); (case side2 => exact HC0.out); rintro e w' ⟨rfl, ⟨nd, rfl⟩⟩; refine ⟨_, rfl, ?_⟩))
  go_ret
  exact ⟨qz13, qz6⟩
 ·replace c3 := Bool.eq_false_iff.mpr c3
  subst c3; rw [if_neg (show ¬ (false = true) by decide)] at H
  replace H := qB H; obtain ⟨⟨t102, t105, t108, t109, t110, t111, t112, t113, t114, t115, t116⟩, A4, H⟩ := H
  try dsimp only at H
  replace H := qB H; obtain ⟨⟨t119, t120⟩, A5, H⟩ := H
  try dsimp only at H
  replace H := qB H; obtain ⟨⟨t121, t122⟩, A6, H⟩ := H
  try dsimp only at H
  have HC7 := Aside0.mk H; clear H; go_enter Try.func11, Try.ntmps11
  go_upto_region 6 with (first | ((with_reducible refine gate_callee (f := 19) rfl ?_); refine goesL_ (some 14) rfl rfl Try.func19 (by kernel_rfl) rfl #[.slice A0 l0.length c0] rfl qz1 ?_; (with_reducible refine (laws_big.calls _ _ l0 false _ ?side1 ?side2 A2.out).mono ?_); (case side1 => exact qz62 HR0.out); (case side2 => exact HC0.out); rintro e w' ⟨rfl, ⟨nd, rfl⟩⟩; refine ⟨_, rfl, ?_⟩) | ((with_reducible refine gate_callee (f := 67) rfl ?_); refine goesL_ (some 17) rfl rfl Try.func67 (by kernel_rfl) rfl #[.slice A0 l0.length c0] rfl qz1 ?_; (with_reducible refine (spec_DrawQueryTake.calls k _ _ l0 t102 t105 t108 t109 t110 t111 t112 t113 t114 t115 t116 _ ?side1 ?side2 A4.out).mono ?_); (case side1 => exact qz62 HR0.out); (case side2 => exact HC0.out); rintro e w8 ⟨v103, v106, rfl, ho0, ho1, hb⟩; refine ⟨_, rfl, ?_⟩; have h_ := qA3 (Kd.R_lower ho0 (below_size qz6)) (Kd.R_lower ho1 (below_size qz6)) (below_step qz6 hb); clear HB; obtain ⟨HO104, HO107, HB⟩ := h_; (try clear hb); (try clear hb2); (try clear hk); (try clear hi); (try clear ho0); (try clear ho1)) | ((with_reducible refine gate_dst (N := 3) rfl ?_); refine box_event ?hg (N := 3) ?hd (cs := #[.slice none 0 0, .slice none 0 0, .int .i64 0, .int .i64 0, .int .i64 0, .int .i64 0, .int .i64 0]) (t := 102) ?hr ?_; (case hd => rfl); (case hg => rfl); (case hr => exact qz5); intro gb117 hg w9 hbox hb; have h_ := qA6 (Kd.R_below (qz21 HO104.out) hb) (Kd.R_below (qz21 HO107.out) hb) (below_step qz6 hb) (hbox) ((qz7 : w.heap.size ≤ gb117)) ((qz7 : w.heap.size ≤ gb117)); clear HO104 HO107 HB; obtain ⟨HO104, HO107, HB, BK117, GW117, GE117⟩ := h_; clear hb hbox hg) | ((with_reducible refine gate_dst (N := 4) rfl ?_); refine box_event ?hg (N := 4) ?hd (cs := #[.int .i64 0, .int .i64 0, .int .i64 0, .int .i64 0]) (t := 75) ?hr ?_; (case hd => rfl); (case hg => rfl); (case hr => exact qz5); intro gb118 hg w10 hbox hb; have h_ := qA9 (Kd.R_below (qz21 HO104.out) hb) (Kd.R_below (qz21 HO107.out) hb) (blk_below (g := gb117) (o := .cells #[.slice none 0 0, .slice none 0 0, .int .i64 0, .int .i64 0, .int .i64 0, .int .i64 0, .int .i64 0] 102 (0, 0)) (qz8 BK117.out) hb) (below_step (qz10 GE117.out) hb) (hbox) ((qz38 GE117.out : w.heap.size ≤ gb118)) ((qz38 GE117.out : w.heap.size ≤ gb118)) ((by rw [hg]; exact Nat.ne_of_lt (blk_lt (g := gb117) (o := .cells #[.slice none 0 0, .slice none 0 0, .int .i64 0, .int .i64 0, .int .i64 0, .int .i64 0, .int .i64 0] 102 (0, 0)) (qz8 BK117.out)) : gb117 ≠ gb118)) ((by rw [hg]; exact Nat.ne_of_gt (blk_lt (g := gb117) (o := .cells #[.slice none 0 0, .slice none 0 0, .int .i64 0, .int .i64 0, .int .i64 0, .int .i64 0, .int .i64 0] 102 (0, 0)) (qz8 BK117.out)) : gb118 ≠ gb117)); clear HO104 HO107 BK117 HB; obtain ⟨HO104, HO107, BK117, HB, BK118, GW118, GE118, NB117_118, NB118_117⟩ := h_; clear hb hbox hg; obtain ⟨Ao11, co11, eo11⟩ := Kd.R_slice HO104.out; subst eo11; have hnb12 := NB117_118.out; have hnc12 := NB118_117.out; obtain ⟨hcz13_0, hcz13_1, hcz13_2, hcz13_3, hcz13_4, hcz13_5, hcz13_6⟩ := qC7 BK117.out; obtain ⟨hfz13_0, hfz13_1, hfz13_2, hfz13_3, hfz13_4, hfz13_5, hfz13_6⟩ := qF7 BK117.out; obtain ⟨Ao14, co14, eo14⟩ := Kd.R_slice HO107.out; subst eo14; obtain ⟨hcz15_0, hcz15_1, hcz15_2, hcz15_3⟩ := qC4 BK118.out; obtain ⟨hfz15_0, hfz15_1, hfz15_2, hfz15_3⟩ := qF4 BK118.out) | ((with_reducible refine gate_callee (f := 68) rfl ?_); refine goesL_ (some 23) rfl rfl Try.func68 (by kernel_rfl) rfl #[.agg #[.slice Ao11 t102.length co11, .slice Ao14 t105.length co14, .int .i64 t108, .int .i64 t109, .int .i64 t110, .int .i64 t111, .int .i64 t112], .agg #[.int .i64 t113, .int .i64 t114, .int .i64 t115, .int .i64 t116]] rfl qz1 ?_; (with_reducible refine (impl_QueryTake.calls k _ _ t102 _ _ t105 t108 t109 t110 t111 t112 t113 t114 t115 t116 t119 t120 _ ?side1 ?side2 ?side3 ?side4 A5.out).mono ?_); (case side1 => refine (Kd.R_reads' (e := 231) (base := w.heap.size) (ok := fun k_ => some k_ ≠ (.slice Ao14 t105.length co14 : Value).ownBlock) (n := t102.length) (c := co11) ?_).2.2; exact (qz194 HO104.out BK117.out BK118.out)); (case side2 => exact qz20 HO104.out); (case side3 => refine (Kd.R_reads' (e := 231) (base := w.heap.size) (ok := fun k_ => some k_ ≠ (.slice Ao11 t102.length co11 : Value).ownBlock) (n := t105.length) (c := co14) ?_).2.2; exact (qz194 HO107.out BK117.out BK118.out)); (case side4 => exact qz20 HO107.out); rintro e w16 ⟨rfl, hb⟩; refine ⟨_, rfl, ?_⟩; have h_ := qA5 (Kd.R_below (qz194 HO104.out BK117.out BK118.out) hb) (Kd.R_below (qz194 HO107.out BK117.out BK118.out) hb) (blk_below (g := gb117) (o := .cells #[.slice Ao11 t102.length co11, .slice Ao14 t105.length co14, .int .i64 t108, .int .i64 t109, .int .i64 t110, .int .i64 t111, .int .i64 t112] 102 (0, 0)) (by (with_reducible repeat (first | refine blk_drewN ?_ _ | refine blk_drew ?_ | refine blk_alloc ?_ _)); refine blk_far ?_ NB117_118.out _; (with_reducible repeat (first | refine blk_drewN ?_ _ | refine blk_drew ?_ | refine blk_alloc ?_ _)); refine blk_far ?_ NB117_118.out _; (with_reducible repeat (first | refine blk_drewN ?_ _ | refine blk_drew ?_ | refine blk_alloc ?_ _)); refine blk_far ?_ NB117_118.out _; (with_reducible repeat (first | refine blk_drewN ?_ _ | refine blk_drew ?_ | refine blk_alloc ?_ _)); refine blk_far ?_ NB117_118.out _; (with_reducible repeat (first | refine blk_drewN ?_ _ | refine blk_drew ?_ | refine blk_alloc ?_ _)); refine blk_put (cs := #[.slice Ao11 t102.length co11, .slice Ao14 t105.length co14, .int .i64 t108, .int .i64 t109, .int .i64 t110, .int .i64 t111, .int .i64 0]) ?_ 6 _ rfl; (with_reducible repeat (first | refine blk_drewN ?_ _ | refine blk_drew ?_ | refine blk_alloc ?_ _)); refine blk_put (cs := #[.slice Ao11 t102.length co11, .slice Ao14 t105.length co14, .int .i64 t108, .int .i64 t109, .int .i64 t110, .int .i64 0, .int .i64 0]) ?_ 5 _ rfl; (with_reducible repeat (first | refine blk_drewN ?_ _ | refine blk_drew ?_ | refine blk_alloc ?_ _)); refine blk_put (cs := #[.slice Ao11 t102.length co11, .slice Ao14 t105.length co14, .int .i64 t108, .int .i64 t109, .int .i64 0, .int .i64 0, .int .i64 0]) ?_ 4 _ rfl; (with_reducible repeat (first | refine blk_drewN ?_ _ | refine blk_drew ?_ | refine blk_alloc ?_ _)); refine blk_put (cs := #[.slice Ao11 t102.length co11, .slice Ao14 t105.length co14, .int .i64 t108, .int .i64 0, .int .i64 0, .int .i64 0, .int .i64 0]) ?_ 3 _ rfl; (with_reducible repeat (first | refine blk_drewN ?_ _ | refine blk_drew ?_ | refine blk_alloc ?_ _)); refine blk_put (cs := #[.slice Ao11 t102.length co11, .slice Ao14 t105.length co14, .int .i64 0, .int .i64 0, .int .i64 0, .int .i64 0, .int .i64 0]) ?_ 2 _ rfl; (with_reducible repeat (first | refine blk_drewN ?_ _ | refine blk_drew ?_ | refine blk_alloc ?_ _)); refine blk_put (cs := #[.slice Ao11 t102.length co11, .slice none 0 0, .int .i64 0, .int .i64 0, .int .i64 0, .int .i64 0, .int .i64 0]) ?_ 1 _ rfl; (with_reducible repeat (first | refine blk_drewN ?_ _ | refine blk_drew ?_ | refine blk_alloc ?_ _)); refine blk_put (cs := #[.slice none 0 0, .slice none 0 0, .int .i64 0, .int .i64 0, .int .i64 0, .int .i64 0, .int .i64 0]) ?_ 0 _ rfl; (with_reducible repeat (first | refine blk_drewN ?_ _ | refine blk_drew ?_ | refine blk_alloc ?_ _)); exact BK117.out) hb) (blk_below (g := gb118) (o := .cells #[.int .i64 t113, .int .i64 t114, .int .i64 t115, .int .i64 t116] 75 (0, 0)) (by (with_reducible repeat (first | refine blk_drewN ?_ _ | refine blk_drew ?_ | refine blk_alloc ?_ _)); refine blk_put (cs := #[.int .i64 t113, .int .i64 t114, .int .i64 t115, .int .i64 0]) ?_ 3 _ rfl; (with_reducible repeat (first | refine blk_drewN ?_ _ | refine blk_drew ?_ | refine blk_alloc ?_ _)); refine blk_put (cs := #[.int .i64 t113, .int .i64 t114, .int .i64 0, .int .i64 0]) ?_ 2 _ rfl; (with_reducible repeat (first | refine blk_drewN ?_ _ | refine blk_drew ?_ | refine blk_alloc ?_ _)); refine blk_put (cs := #[.int .i64 t113, .int .i64 0, .int .i64 0, .int .i64 0]) ?_ 1 _ rfl; (with_reducible repeat (first | refine blk_drewN ?_ _ | refine blk_drew ?_ | refine blk_alloc ?_ _)); refine blk_put (cs := #[.int .i64 0, .int .i64 0, .int .i64 0, .int .i64 0]) ?_ 0 _ rfl; (with_reducible repeat (first | refine blk_drewN ?_ _ | refine blk_drew ?_ | refine blk_alloc ?_ _)); refine blk_far ?_ NB118_117.out _; (with_reducible repeat (first | refine blk_drewN ?_ _ | refine blk_drew ?_ | refine blk_alloc ?_ _)); refine blk_far ?_ NB118_117.out _; (with_reducible repeat (first | refine blk_drewN ?_ _ | refine blk_drew ?_ | refine blk_alloc ?_ _)); refine blk_far ?_ NB118_117.out _; (with_reducible repeat (first | refine blk_drewN ?_ _ | refine blk_drew ?_ | refine blk_alloc ?_ _)); refine blk_far ?_ NB118_117.out _; (with_reducible repeat (first | refine blk_drewN ?_ _ | refine blk_drew ?_ | refine blk_alloc ?_ _)); refine blk_far ?_ NB118_117.out _; (with_reducible repeat (first | refine blk_drewN ?_ _ | refine blk_drew ?_ | refine blk_alloc ?_ _)); refine blk_far ?_ NB118_117.out _; (with_reducible repeat (first | refine blk_drewN ?_ _ | refine blk_drew ?_ | refine blk_alloc ?_ _)); refine blk_far ?_ NB118_117.out _; (with_reducible repeat (first | refine blk_drewN ?_ _ | refine blk_drew ?_ | refine blk_alloc ?_ _)); exact BK118.out) hb) (below_step (qz43 GE117.out GE118.out) hb); clear HO104 HO107 BK117 BK118 HB; obtain ⟨HO104, HO107, BK117, BK118, HB⟩ := h_; (try clear hb); (try clear hb2); (try clear hk); (try clear hi); obtain ⟨hcz17_0, hcz17_1, hcz17_2, hcz17_3, hcz17_4, hcz17_5, hcz17_6⟩ := qC7 BK117.out; obtain ⟨hfz17_0, hfz17_1, hfz17_2, hfz17_3, hfz17_4, hfz17_5, hfz17_6⟩ := qF7 BK117.out; obtain ⟨hcz18_0, hcz18_1, hcz18_2, hcz18_3⟩ := qC4 BK118.out; obtain ⟨hfz18_0, hfz18_1, hfz18_2, hfz18_3⟩ := qF4 BK118.out) | ((with_reducible refine gate_callee (f := 69) rfl ?_); refine goesL_ (some 29) rfl rfl Try.func69 (by kernel_rfl) rfl #[.agg #[.slice Ao11 t102.length co11, .slice Ao14 t105.length co14, .int .i64 t108, .int .i64 t109, .int .i64 t110, .int .i64 t111, .int .i64 t112], .agg #[.int .i64 t113, .int .i64 t114, .int .i64 t115, .int .i64 t116]] rfl qz1 ?_; (with_reducible refine (spec_QueryTake.calls k _ _ t102 _ _ t105 t108 t109 t110 t111 t112 t113 t114 t115 t116 t121 t122 _ ?side1 ?side2 ?side3 ?side4 A6.out).mono ?_); (case side1 => exact qz19 HO104.out); (case side2 => exact qz20 HO104.out); (case side3 => exact qz19 HO107.out); (case side4 => exact qz20 HO107.out); rintro e w19 ⟨rfl, hb⟩; refine ⟨_, rfl, ?_⟩; have h_ := qA5 (Kd.R_below (qz21 HO104.out) hb) (Kd.R_below (qz21 HO107.out) hb) (blk_below (g := gb117) (o := .cells #[.slice Ao11 t102.length co11, .slice Ao14 t105.length co14, .int .i64 t108, .int .i64 t109, .int .i64 t110, .int .i64 t111, .int .i64 t112] 102 (0, 0)) (qz8 BK117.out) hb) (blk_below (g := gb118) (o := .cells #[.int .i64 t113, .int .i64 t114, .int .i64 t115, .int .i64 t116] 75 (0, 0)) (qz8 BK118.out) hb) (below_step (qz43 GE117.out GE118.out) hb); clear HO104 HO107 BK117 BK118 HB; obtain ⟨HO104, HO107, BK117, BK118, HB⟩ := h_; (try clear hb); (try clear hb2); (try clear hk); (try clear hi)))
  (try simp only [Act.put, List.setIfInBounds_toArray, List.set_cons_zero, List.set_cons_succ])
  go_cut [39] (fun v39 wc => ∃ (kq : Nat) (x39_6 : Bool), v39 = .bool x39_6 ∧ Aside0 (laws_FnTake.j0 kq t119 t120 x39_6 t102 t105 t108 t109 t110 t111 t112 t113 t114 t115 t116 = some r) ∧ Aside0 (kq ≤ k) ∧ Aside0 (Kd.R k231 231 wc w.heap.size (fun k_ => some k_ ≠ ((.slice Ao14 t105.length co14) : Value).ownBlock) (.slice Ao11 t102.length co11) t102) ∧ Aside0 (Kd.R k231 231 wc w.heap.size (fun k_ => some k_ ≠ ((.slice Ao11 t102.length co11) : Value).ownBlock) (.slice Ao14 t105.length co14) t105) ∧ Aside0 (wc.heap[gb117]? = some (.cells #[(.slice Ao11 t102.length co11), (.slice Ao14 t105.length co14), .int .i64 t108, .int .i64 t109, .int .i64 t110, .int .i64 t111, .int .i64 t112] 102 (0, 0))) ∧ Aside0 (wc.heap[gb118]? = some (.cells #[.int .i64 t113, .int .i64 t114, .int .i64 t115, .int .i64 t116] 75 (0, 0))) ∧ Aside0 (Below w.heap.size w wc))
  case first =>
   have H := HC7.out; clear HC7
   by_cases c20 : t119 = t121
   ·rw [if_pos c20] at H
    have c20b0 : (t119 == t121) = true := beq_iff_eq.mpr c20; have c20b1 : (t119 != t121) = false := bne_eq_false_iff_eq.mpr c20; clear c20
    (first | rw [c20b0] | (simp only [i64_w, i32_w]; rw [c20b0]) | skip)
    have H' := Aside0.mk H; clear H
    go_wp2
    go_meet
    case rel => exact ⟨_, ((t120 != t122)), qz2, H', ⟨qz36⟩, ⟨qz21 HO104.out⟩, ⟨qz21 HO107.out⟩, ⟨qz8 BK117.out⟩, ⟨qz8 BK118.out⟩, ⟨qz43 GE117.out GE118.out⟩⟩
   ·rw [if_neg c20] at H
    have c20b0 : (t119 == t121) = false := beq_eq_false_iff_ne.mpr c20; have c20b1 : (t119 != t121) = true := bne_iff_ne.mpr c20
    (first | rw [c20b0] | (simp only [i64_w, i32_w]; rw [c20b0]) | skip)
    have H' := Aside0.mk H; clear H
    go_wp2
    go_meet
    case rel => exact ⟨_, (true), qz2, H', ⟨qz36⟩, ⟨qz21 HO104.out⟩, ⟨qz21 HO107.out⟩, ⟨qz8 BK117.out⟩, ⟨qz8 BK118.out⟩, ⟨qz43 GE117.out GE118.out⟩⟩
  case rest =>
   clear HC7; (try clear c1); (try clear c2); (try clear p2); (try clear c3); (try clear c6); (try clear c11); (try clear c12); (try clear c19); (try clear c20); (try clear c20b0); (try clear c20b1); (try clear hcz13_0); (try clear hcz13_1); (try clear hcz13_2); (try clear hcz13_3); (try clear hcz13_4); (try clear hcz13_5); (try clear hcz13_6); (try clear hcz15_0); (try clear hcz15_1); (try clear hcz15_2); (try clear hcz15_3); (try clear hcz17_0); (try clear hcz17_1); (try clear hcz17_2); (try clear hcz17_3); (try clear hcz17_4); (try clear hcz17_5); (try clear hcz17_6); (try clear hcz18_0); (try clear hcz18_1); (try clear hcz18_2); (try clear hcz18_3); (try clear hfz13_0); (try clear hfz13_1); (try clear hfz13_2); (try clear hfz13_3); (try clear hfz13_4); (try clear hfz13_5); (try clear hfz13_6); (try clear hfz15_0); (try clear hfz15_1); (try clear hfz15_2); (try clear hfz15_3); (try clear hfz17_0)
   (try clear hfz17_1); (try clear hfz17_2); (try clear hfz17_3); (try clear hfz17_4); (try clear hfz17_5); (try clear hfz17_6); (try clear hfz18_0); (try clear hfz18_1); (try clear hfz18_2); (try clear hfz18_3); obtain ⟨kq, x39_6, rfl, HA, HJ6, HO_118000, HO_118001, BK117, BK118, HB⟩ := hcut
   cases kq with
   | zero => exact absurd HA.out (by simp [laws_FnTake.j0])
   | succ kj6 =>
    have H := HA.out; clear HA; simp only [laws_FnTake.j0] at H
    by_cases c21 : x39_6 = true
    ·subst c21
     rw [if_pos rfl] at H; obtain rfl := Option.some.inj H
     go_wp2
     go_ret
     exact ⟨qz13, qz43 GE117.out GE118.out⟩
    ·replace c21 := Bool.eq_false_iff.mpr c21
     subst c21; rw [if_neg (show ¬ (false = true) by decide)] at H
     have HC22 := Aside0.mk H; clear H
     go_upto_region 8 with (fail)
     go_cut [47] (fun v47 wc => ∃ (kq : Nat) (x47_21 : Bool), v47 = .bool x47_21 ∧ Aside0 (laws_FnTake.j1 kq t119 t120 x47_21 t102 t105 t108 t109 t110 t111 t112 t113 t114 t115 t116 = some r) ∧ Aside0 (kq ≤ kj6) ∧ Aside0 (Kd.R k231 231 wc w.heap.size (fun k_ => some k_ ≠ ((.slice Ao14 t105.length co14) : Value).ownBlock) (.slice Ao11 t102.length co11) t102) ∧ Aside0 (Kd.R k231 231 wc w.heap.size (fun k_ => some k_ ≠ ((.slice Ao11 t102.length co11) : Value).ownBlock) (.slice Ao14 t105.length co14) t105) ∧ Aside0 (wc.heap[gb117]? = some (.cells #[(.slice Ao11 t102.length co11), (.slice Ao14 t105.length co14), .int .i64 t108, .int .i64 t109, .int .i64 t110, .int .i64 t111, .int .i64 t112] 102 (0, 0))) ∧ Aside0 (wc.heap[gb118]? = some (.cells #[.int .i64 t113, .int .i64 t114, .int .i64 t115, .int .i64 t116] 75 (0, 0))) ∧ Aside0 (Below w.heap.size w wc))
     case first =>
      have H := HC22.out; clear HC22; replace H := qB H; obtain ⟨t123, A23, H⟩ := H
      try dsimp only at H
      by_cases c24 : t123 = true
      ·subst c24
       rw [if_pos rfl] at H; replace H := qB H; obtain ⟨t124, A25, H⟩ := H
       try dsimp only at H
       have H' := Aside0.mk H; clear H; have hnb26 := NB117_118.out; have hnc26 := NB118_117.out; obtain ⟨hcz27_0, hcz27_1, hcz27_2, hcz27_3, hcz27_4, hcz27_5, hcz27_6⟩ := qC7 BK117.out; obtain ⟨hfz27_0, hfz27_1, hfz27_2, hfz27_3, hfz27_4, hfz27_5, hfz27_6⟩ := qF7 BK117.out
       go_wp2_with (first | ((with_reducible refine gate_callee (f := 70) rfl ?_); refine goesL_ (some 41) rfl rfl Try.func70 (by kernel_rfl) rfl #[.agg #[.slice Ao11 t102.length co11, .slice Ao14 t105.length co14, .int .i64 t108, .int .i64 t109, .int .i64 t110, .int .i64 t111, .int .i64 t112]] rfl qz1 ?_; (with_reducible refine (spec_QueryOk.calls kj6 _ _ t102 _ _ t105 t108 t109 t110 t111 t112 true _ ?side1 ?side2 ?side3 ?side4 A23.out).mono ?_); (case side1 => exact qz195); (case side2 => exact qz196); (case side3 => exact qz197); (case side4 => exact qz198); rintro e w28 ⟨rfl, hb⟩; refine ⟨_, rfl, ?_⟩; have h_ := qA5 (Kd.R_below qz199 hb) (Kd.R_below qz200 hb) (blk_below (g := gb117) (o := .cells #[.slice Ao11 t102.length co11, .slice Ao14 t105.length co14, .int .i64 t108, .int .i64 t109, .int .i64 t110, .int .i64 t111, .int .i64 t112] 102 (0, 0)) (qz8 BK117.out) hb) (blk_below (g := gb118) (o := .cells #[.int .i64 t113, .int .i64 t114, .int .i64 t115, .int .i64 t116] 75 (0, 0)) (qz8 BK118.out) hb) (below_step (qz43 GE117.out GE118.out) hb); clear HO_118000 HO_118001 BK117 BK118 HB; obtain ⟨HO_118000, HO_118001, BK117, BK118, HB⟩ := h_; (try clear hb); (try clear hb2); (try clear hk); (try clear hi); obtain ⟨hcz29_0, hcz29_1, hcz29_2, hcz29_3⟩ := qC4 BK118.out; obtain ⟨hfz29_0, hfz29_1, hfz29_2, hfz29_3⟩ := qF4 BK118.out) | (go_at_call 71; (with_reducible refine (spec_ElemOk.calls t113 t114 t115 t116 t124 _ A25.out).mono ?_); rintro e w30 ⟨rfl, hb⟩; have h_ := qA5 (Kd.R_below qz199 hb) (Kd.R_below qz200 hb) (blk_below (g := gb117) (o := .cells #[.slice Ao11 t102.length co11, .slice Ao14 t105.length co14, .int .i64 t108, .int .i64 t109, .int .i64 t110, .int .i64 t111, .int .i64 t112] 102 (0, 0)) (qz8 BK117.out) hb) (blk_below (g := gb118) (o := .cells #[.int .i64 t113, .int .i64 t114, .int .i64 t115, .int .i64 t116] 75 (0, 0)) (qz8 BK118.out) hb) (below_step (qz43 GE117.out GE118.out) hb); clear HO_118000 HO_118001 BK117 BK118 HB; obtain ⟨HO_118000, HO_118001, BK117, BK118, HB⟩ := h_; (try clear hb); (try clear hb2); (try clear hk); (try clear hi)))
       go_meet
       case rel => exact ⟨_, (!t124), qz2, H', ⟨qz94 HJ6.out⟩, ⟨qz199⟩, ⟨qz200⟩, ⟨qz8 BK117.out⟩, ⟨qz8 BK118.out⟩, ⟨qz43 GE117.out GE118.out⟩⟩
      ·replace c24 := Bool.eq_false_iff.mpr c24
       subst c24; rw [if_neg (show ¬ (false = true) by decide)] at H
       have H' := Aside0.mk H; clear H; have hnb31 := NB117_118.out; have hnc31 := NB118_117.out; obtain ⟨hcz32_0, hcz32_1, hcz32_2, hcz32_3, hcz32_4, hcz32_5, hcz32_6⟩ := qC7 BK117.out; obtain ⟨hfz32_0, hfz32_1, hfz32_2, hfz32_3, hfz32_4, hfz32_5, hfz32_6⟩ := qF7 BK117.out
       go_wp2_with (first | ((with_reducible refine gate_callee (f := 70) rfl ?_); refine goesL_ (some 41) rfl rfl Try.func70 (by kernel_rfl) rfl #[.agg #[.slice Ao11 t102.length co11, .slice Ao14 t105.length co14, .int .i64 t108, .int .i64 t109, .int .i64 t110, .int .i64 t111, .int .i64 t112]] rfl qz1 ?_; (with_reducible refine (spec_QueryOk.calls kj6 _ _ t102 _ _ t105 t108 t109 t110 t111 t112 false _ ?side1 ?side2 ?side3 ?side4 A23.out).mono ?_); (case side1 => exact qz195); (case side2 => exact qz196); (case side3 => exact qz197); (case side4 => exact qz198); rintro e w33 ⟨rfl, hb⟩; refine ⟨_, rfl, ?_⟩; have h_ := qA5 (Kd.R_below qz199 hb) (Kd.R_below qz200 hb) (blk_below (g := gb117) (o := .cells #[.slice Ao11 t102.length co11, .slice Ao14 t105.length co14, .int .i64 t108, .int .i64 t109, .int .i64 t110, .int .i64 t111, .int .i64 t112] 102 (0, 0)) (qz8 BK117.out) hb) (blk_below (g := gb118) (o := .cells #[.int .i64 t113, .int .i64 t114, .int .i64 t115, .int .i64 t116] 75 (0, 0)) (qz8 BK118.out) hb) (below_step (qz43 GE117.out GE118.out) hb); clear HO_118000 HO_118001 BK117 BK118 HB; obtain ⟨HO_118000, HO_118001, BK117, BK118, HB⟩ := h_; (try clear hb); (try clear hb2); (try clear hk); (try clear hi)))
       go_meet
       case rel => exact ⟨_, (true), qz2, H', ⟨qz94 HJ6.out⟩, ⟨qz199⟩, ⟨qz200⟩, ⟨qz8 BK117.out⟩, ⟨qz8 BK118.out⟩, ⟨qz43 GE117.out GE118.out⟩⟩
     case rest =>
      clear HC22; (try clear c1); (try clear c2); (try clear p2); (try clear c3); (try clear c6); (try clear c7); (try clear c11); (try clear c12); (try clear c19); (try clear c20); (try clear c20b0); (try clear c20b1); (try clear c21); (try clear c24); (try clear c26); (try clear c31); (try clear hcz13_0); (try clear hcz13_1); (try clear hcz13_2); (try clear hcz13_3); (try clear hcz13_4); (try clear hcz13_5); (try clear hcz13_6); (try clear hcz15_0); (try clear hcz15_1); (try clear hcz15_2); (try clear hcz15_3); (try clear hcz17_0); (try clear hcz17_1); (try clear hcz17_2); (try clear hcz17_3); (try clear hcz17_4); (try clear hcz17_5); (try clear hcz17_6); (try clear hcz18_0); (try clear hcz18_1); (try clear hcz18_2); (try clear hcz18_3); (try clear hcz27_0); (try clear hcz27_1); (try clear hcz27_2); (try clear hcz27_3); (try clear hcz27_4); (try clear hcz27_5); (try clear hcz27_6); (try clear hcz29_0)
      (try clear hcz29_1); (try clear hcz29_2); (try clear hcz29_3); (try clear hcz32_0); (try clear hcz32_1); (try clear hcz32_2); (try clear hcz32_3); (try clear hcz32_4); (try clear hcz32_5); (try clear hcz32_6); (try clear hfz13_0); (try clear hfz13_1); (try clear hfz13_2); (try clear hfz13_3); (try clear hfz13_4); (try clear hfz13_5); (try clear hfz13_6); (try clear hfz15_0); (try clear hfz15_1); (try clear hfz15_2); (try clear hfz15_3); (try clear hfz17_0); (try clear hfz17_1); (try clear hfz17_2); (try clear hfz17_3); (try clear hfz17_4); (try clear hfz17_5); (try clear hfz17_6); (try clear hfz18_0); (try clear hfz18_1); (try clear hfz18_2); (try clear hfz18_3); (try clear hfz27_0); (try clear hfz27_1); (try clear hfz27_2); (try clear hfz27_3); (try clear hfz27_4); (try clear hfz27_5); (try clear hfz27_6); (try clear hfz29_0); (try clear hfz29_1); (try clear hfz29_2); (try clear hfz29_3)
      (try clear hfz32_0); (try clear hfz32_1); (try clear hfz32_2); (try clear hfz32_3); (try clear hfz32_4); (try clear hfz32_5); (try clear hfz32_6); (try clear p2); obtain ⟨kq, x47_21, rfl, HA, HJ21, HO_118000, HO_118001, BK117, BK118, HB⟩ := hcut
      cases kq with
      | zero => exact absurd HA.out (by simp [laws_FnTake.j1])
      | succ kj21 =>
       have H := HA.out; clear HA; simp only [laws_FnTake.j1] at H
       by_cases c34 : x47_21 = true
       ·subst c34
        rw [if_pos rfl] at H; obtain rfl := Option.some.inj H
        go_wp2
        go_ret
        exact ⟨qz13, qz43 GE117.out GE118.out⟩
       ·replace c34 := Bool.eq_false_iff.mpr c34
        subst c34; rw [if_neg (show ¬ (false = true) by decide)] at H
        replace H := qB H; obtain ⟨⟨t125, t126⟩, A35, H⟩ := H
        try dsimp only at H
        replace H := qB H; obtain ⟨⟨t127, t128⟩, A36, H⟩ := H
        try dsimp only at H
        by_cases c37 : t120 = 0
        ·rw [if_pos c37] at H
         have c37b0 : (t120 == 0) = true := beq_iff_eq.mpr c37; have c37b1 : (t120 != 0) = false := bne_eq_false_iff_eq.mpr c37; clear c37
         by_cases c38 : t126 = 0
         ·rw [if_pos c38] at H
          have c38b0 : (t126 == 0) = true := beq_iff_eq.mpr c38; have c38b1 : (t126 != 0) = false := bne_eq_false_iff_eq.mpr c38; clear c38
          by_cases c39 : t125 = 0
          ·rw [if_pos c39] at H
           have c39b0 : (t125 == 0) = true := beq_iff_eq.mpr c39; have c39b1 : (t125 != 0) = false := bne_eq_false_iff_eq.mpr c39; clear c39; obtain rfl := Option.some.inj H; have hnb40 := NB117_118.out; have hnc40 := NB118_117.out; obtain ⟨hcz41_0, hcz41_1, hcz41_2, hcz41_3, hcz41_4, hcz41_5, hcz41_6⟩ := qC7 BK117.out; obtain ⟨hfz41_0, hfz41_1, hfz41_2, hfz41_3, hfz41_4, hfz41_5, hfz41_6⟩ := qF7 BK117.out; obtain ⟨hcz42_0, hcz42_1, hcz42_2, hcz42_3⟩ := qC4 BK118.out; obtain ⟨hfz42_0, hfz42_1, hfz42_2, hfz42_3⟩ := qF4 BK118.out
           go_wp2_with (first | ((with_reducible refine gate_callee (f := 72) rfl ?_); refine goesL_ (some 54) rfl rfl Try.func72 (by kernel_rfl) rfl #[.slice Ao11 t102.length co11, .agg #[.int .i64 t113, .int .i64 t114, .int .i64 t115, .int .i64 t116]] rfl qz1 ?_; (with_reducible refine (impl_ExprRun.calls kj21 _ _ t102 t113 t114 t115 t116 t125 t126 _ ?side1 ?side2 A35.out).mono ?_); (case side1 => exact qz195); (case side2 => exact qz196); rintro e w43 ⟨rfl, hb⟩; refine ⟨_, rfl, ?_⟩; have h_ := qA5 (Kd.R_below qz199 hb) (Kd.R_below qz200 hb) (blk_below (g := gb117) (o := .cells #[.slice Ao11 t102.length co11, .slice Ao14 t105.length co14, .int .i64 t108, .int .i64 t109, .int .i64 t110, .int .i64 t111, .int .i64 t112] 102 (0, 0)) (qz8 BK117.out) hb) (blk_below (g := gb118) (o := .cells #[.int .i64 t113, .int .i64 t114, .int .i64 t115, .int .i64 t116] 75 (0, 0)) (qz8 BK118.out) hb) (below_step (qz43 GE117.out GE118.out) hb); clear HO_118000 HO_118001 BK117 BK118 HB; obtain ⟨HO_118000, HO_118001, BK117, BK118, HB⟩ := h_; (try clear hb); (try clear hb2); (try clear hk); (try clear hi); obtain ⟨hcz44_0, hcz44_1, hcz44_2, hcz44_3, hcz44_4, hcz44_5, hcz44_6⟩ := qC7 BK117.out; obtain ⟨hfz44_0, hfz44_1, hfz44_2, hfz44_3, hfz44_4, hfz44_5, hfz44_6⟩ := qF7 BK117.out; obtain ⟨hcz45_0, hcz45_1, hcz45_2, hcz45_3⟩ := qC4 BK118.out; obtain ⟨hfz45_0, hfz45_1, hfz45_2, hfz45_3⟩ := qF4 BK118.out) | ((with_reducible refine gate_callee (f := 72) rfl ?_); refine goesL_ (some 61) rfl rfl Try.func72 (by kernel_rfl) rfl #[.slice Ao14 t105.length co14, .agg #[.int .i64 t113, .int .i64 t114, .int .i64 t115, .int .i64 t116]] rfl qz1 ?_; (with_reducible refine (impl_ExprRun.calls kj21 _ _ t105 t113 t114 t115 t116 t127 t128 _ ?side1 ?side2 A36.out).mono ?_); (case side1 => exact qz197); (case side2 => exact qz198); rintro e w46 ⟨rfl, hb⟩; refine ⟨_, rfl, ?_⟩; have h_ := qA5 (Kd.R_below qz199 hb) (Kd.R_below qz200 hb) (blk_below (g := gb117) (o := .cells #[.slice Ao11 t102.length co11, .slice Ao14 t105.length co14, .int .i64 t108, .int .i64 t109, .int .i64 t110, .int .i64 t111, .int .i64 t112] 102 (0, 0)) (qz8 BK117.out) hb) (blk_below (g := gb118) (o := .cells #[.int .i64 t113, .int .i64 t114, .int .i64 t115, .int .i64 t116] 75 (0, 0)) (qz8 BK118.out) hb) (below_step (qz43 GE117.out GE118.out) hb); clear HO_118000 HO_118001 BK117 BK118 HB; obtain ⟨HO_118000, HO_118001, BK117, BK118, HB⟩ := h_; (try clear hb); (try clear hb2); (try clear hk); (try clear hi)))
           go_ret
           exact ⟨qz13, qz43 GE117.out GE118.out⟩
          ·rw [if_neg c39] at H
           have c39b0 : (t125 == 0) = false := beq_eq_false_iff_ne.mpr c39; have c39b1 : (t125 != 0) = true := bne_iff_ne.mpr c39
           by_cases c47 : t128 = 0
           ·rw [if_pos c47] at H
            have c47b0 : (t128 == 0) = true := beq_iff_eq.mpr c47; have c47b1 : (t128 != 0) = false := bne_eq_false_iff_eq.mpr c47; clear c47; obtain rfl := Option.some.inj H; have hnb48 := NB117_118.out; have hnc48 := NB118_117.out; obtain ⟨hcz49_0, hcz49_1, hcz49_2, hcz49_3, hcz49_4, hcz49_5, hcz49_6⟩ := qC7 BK117.out; obtain ⟨hfz49_0, hfz49_1, hfz49_2, hfz49_3, hfz49_4, hfz49_5, hfz49_6⟩ := qF7 BK117.out; obtain ⟨hcz50_0, hcz50_1, hcz50_2, hcz50_3⟩ := qC4 BK118.out; obtain ⟨hfz50_0, hfz50_1, hfz50_2, hfz50_3⟩ := qF4 BK118.out
            go_wp2_with (first | ((with_reducible refine gate_callee (f := 72) rfl ?_); refine goesL_ (some 54) rfl rfl Try.func72 (by kernel_rfl) rfl #[.slice Ao11 t102.length co11, .agg #[.int .i64 t113, .int .i64 t114, .int .i64 t115, .int .i64 t116]] rfl qz1 ?_; (with_reducible refine (impl_ExprRun.calls kj21 _ _ t102 t113 t114 t115 t116 t125 t126 _ ?side1 ?side2 A35.out).mono ?_); (case side1 => exact qz195); (case side2 => exact qz196); rintro e w51 ⟨rfl, hb⟩; refine ⟨_, rfl, ?_⟩; have h_ := qA5 (Kd.R_below qz199 hb) (Kd.R_below qz200 hb) (blk_below (g := gb117) (o := .cells #[.slice Ao11 t102.length co11, .slice Ao14 t105.length co14, .int .i64 t108, .int .i64 t109, .int .i64 t110, .int .i64 t111, .int .i64 t112] 102 (0, 0)) (qz8 BK117.out) hb) (blk_below (g := gb118) (o := .cells #[.int .i64 t113, .int .i64 t114, .int .i64 t115, .int .i64 t116] 75 (0, 0)) (qz8 BK118.out) hb) (below_step (qz43 GE117.out GE118.out) hb); clear HO_118000 HO_118001 BK117 BK118 HB; obtain ⟨HO_118000, HO_118001, BK117, BK118, HB⟩ := h_; (try clear hb); (try clear hb2); (try clear hk); (try clear hi); obtain ⟨hcz52_0, hcz52_1, hcz52_2, hcz52_3, hcz52_4, hcz52_5, hcz52_6⟩ := qC7 BK117.out; obtain ⟨hfz52_0, hfz52_1, hfz52_2, hfz52_3, hfz52_4, hfz52_5, hfz52_6⟩ := qF7 BK117.out; obtain ⟨hcz53_0, hcz53_1, hcz53_2, hcz53_3⟩ := qC4 BK118.out; obtain ⟨hfz53_0, hfz53_1, hfz53_2, hfz53_3⟩ := qF4 BK118.out) | ((with_reducible refine gate_callee (f := 72) rfl ?_); refine goesL_ (some 61) rfl rfl Try.func72 (by kernel_rfl) rfl #[.slice Ao14 t105.length co14, .agg #[.int .i64 t113, .int .i64 t114, .int .i64 t115, .int .i64 t116]] rfl qz1 ?_; (with_reducible refine (impl_ExprRun.calls kj21 _ _ t105 t113 t114 t115 t116 t127 t128 _ ?side1 ?side2 A36.out).mono ?_); (case side1 => exact qz197); (case side2 => exact qz198); rintro e w54 ⟨rfl, hb⟩; refine ⟨_, rfl, ?_⟩; have h_ := qA5 (Kd.R_below qz199 hb) (Kd.R_below qz200 hb) (blk_below (g := gb117) (o := .cells #[.slice Ao11 t102.length co11, .slice Ao14 t105.length co14, .int .i64 t108, .int .i64 t109, .int .i64 t110, .int .i64 t111, .int .i64 t112] 102 (0, 0)) (qz8 BK117.out) hb) (blk_below (g := gb118) (o := .cells #[.int .i64 t113, .int .i64 t114, .int .i64 t115, .int .i64 t116] 75 (0, 0)) (qz8 BK118.out) hb) (below_step (qz43 GE117.out GE118.out) hb); clear HO_118000 HO_118001 BK117 BK118 HB; obtain ⟨HO_118000, HO_118001, BK117, BK118, HB⟩ := h_; (try clear hb); (try clear hb2); (try clear hk); (try clear hi)))
            go_ret
            exact ⟨qz13, qz43 GE117.out GE118.out⟩
           ·rw [if_neg c47] at H
            have c47b0 : (t128 == 0) = false := beq_eq_false_iff_ne.mpr c47; have c47b1 : (t128 != 0) = true := bne_iff_ne.mpr c47; obtain rfl := Option.some.inj H; have hnb55 := NB117_118.out; have hnc55 := NB118_117.out; obtain ⟨hcz56_0, hcz56_1, hcz56_2, hcz56_3, hcz56_4, hcz56_5, hcz56_6⟩ := qC7 BK117.out; obtain ⟨hfz56_0, hfz56_1, hfz56_2, hfz56_3, hfz56_4, hfz56_5, hfz56_6⟩ := qF7 BK117.out; obtain ⟨hcz57_0, hcz57_1, hcz57_2, hcz57_3⟩ := qC4 BK118.out; obtain ⟨hfz57_0, hfz57_1, hfz57_2, hfz57_3⟩ := qF4 BK118.out
            go_wp2_with (first | ((with_reducible refine gate_callee (f := 72) rfl ?_); refine goesL_ (some 54) rfl rfl Try.func72 (by kernel_rfl) rfl #[.slice Ao11 t102.length co11, .agg #[.int .i64 t113, .int .i64 t114, .int .i64 t115, .int .i64 t116]] rfl qz1 ?_; (with_reducible refine (impl_ExprRun.calls kj21 _ _ t102 t113 t114 t115 t116 t125 t126 _ ?side1 ?side2 A35.out).mono ?_); (case side1 => exact qz195); (case side2 => exact qz196); rintro e w58 ⟨rfl, hb⟩; refine ⟨_, rfl, ?_⟩; have h_ := qA5 (Kd.R_below qz199 hb) (Kd.R_below qz200 hb) (blk_below (g := gb117) (o := .cells #[.slice Ao11 t102.length co11, .slice Ao14 t105.length co14, .int .i64 t108, .int .i64 t109, .int .i64 t110, .int .i64 t111, .int .i64 t112] 102 (0, 0)) (qz8 BK117.out) hb) (blk_below (g := gb118) (o := .cells #[.int .i64 t113, .int .i64 t114, .int .i64 t115, .int .i64 t116] 75 (0, 0)) (qz8 BK118.out) hb) (below_step (qz43 GE117.out GE118.out) hb); clear HO_118000 HO_118001 BK117 BK118 HB; obtain ⟨HO_118000, HO_118001, BK117, BK118, HB⟩ := h_; (try clear hb); (try clear hb2); (try clear hk); (try clear hi); obtain ⟨hcz59_0, hcz59_1, hcz59_2, hcz59_3, hcz59_4, hcz59_5, hcz59_6⟩ := qC7 BK117.out; obtain ⟨hfz59_0, hfz59_1, hfz59_2, hfz59_3, hfz59_4, hfz59_5, hfz59_6⟩ := qF7 BK117.out; obtain ⟨hcz60_0, hcz60_1, hcz60_2, hcz60_3⟩ := qC4 BK118.out; obtain ⟨hfz60_0, hfz60_1, hfz60_2, hfz60_3⟩ := qF4 BK118.out) | ((with_reducible refine gate_callee (f := 72) rfl ?_); refine goesL_ (some 61) rfl rfl Try.func72 (by kernel_rfl) rfl #[.slice Ao14 t105.length co14, .agg #[.int .i64 t113, .int .i64 t114, .int .i64 t115, .int .i64 t116]] rfl qz1 ?_; (with_reducible refine (impl_ExprRun.calls kj21 _ _ t105 t113 t114 t115 t116 t127 t128 _ ?side1 ?side2 A36.out).mono ?_); (case side1 => exact qz197); (case side2 => exact qz198); rintro e w61 ⟨rfl, hb⟩; refine ⟨_, rfl, ?_⟩; have h_ := qA5 (Kd.R_below qz199 hb) (Kd.R_below qz200 hb) (blk_below (g := gb117) (o := .cells #[.slice Ao11 t102.length co11, .slice Ao14 t105.length co14, .int .i64 t108, .int .i64 t109, .int .i64 t110, .int .i64 t111, .int .i64 t112] 102 (0, 0)) (qz8 BK117.out) hb) (blk_below (g := gb118) (o := .cells #[.int .i64 t113, .int .i64 t114, .int .i64 t115, .int .i64 t116] 75 (0, 0)) (qz8 BK118.out) hb) (below_step (qz43 GE117.out GE118.out) hb); clear HO_118000 HO_118001 BK117 BK118 HB; obtain ⟨HO_118000, HO_118001, BK117, BK118, HB⟩ := h_; (try clear hb); (try clear hb2); (try clear hk); (try clear hi)))
            go_ret
            exact ⟨qz13, qz43 GE117.out GE118.out⟩
         ·rw [if_neg c38] at H
          have c38b0 : (t126 == 0) = false := beq_eq_false_iff_ne.mpr c38; have c38b1 : (t126 != 0) = true := bne_iff_ne.mpr c38; obtain rfl := Option.some.inj H; have hnb62 := NB117_118.out; have hnc62 := NB118_117.out; obtain ⟨hcz63_0, hcz63_1, hcz63_2, hcz63_3, hcz63_4, hcz63_5, hcz63_6⟩ := qC7 BK117.out; obtain ⟨hfz63_0, hfz63_1, hfz63_2, hfz63_3, hfz63_4, hfz63_5, hfz63_6⟩ := qF7 BK117.out; obtain ⟨hcz64_0, hcz64_1, hcz64_2, hcz64_3⟩ := qC4 BK118.out; obtain ⟨hfz64_0, hfz64_1, hfz64_2, hfz64_3⟩ := qF4 BK118.out
          go_wp2_with (first | ((with_reducible refine gate_callee (f := 72) rfl ?_); refine goesL_ (some 54) rfl rfl Try.func72 (by kernel_rfl) rfl #[.slice Ao11 t102.length co11, .agg #[.int .i64 t113, .int .i64 t114, .int .i64 t115, .int .i64 t116]] rfl qz1 ?_; (with_reducible refine (impl_ExprRun.calls kj21 _ _ t102 t113 t114 t115 t116 t125 t126 _ ?side1 ?side2 A35.out).mono ?_); (case side1 => exact qz195); (case side2 => exact qz196); rintro e w65 ⟨rfl, hb⟩; refine ⟨_, rfl, ?_⟩; have h_ := qA5 (Kd.R_below qz199 hb) (Kd.R_below qz200 hb) (blk_below (g := gb117) (o := .cells #[.slice Ao11 t102.length co11, .slice Ao14 t105.length co14, .int .i64 t108, .int .i64 t109, .int .i64 t110, .int .i64 t111, .int .i64 t112] 102 (0, 0)) (qz8 BK117.out) hb) (blk_below (g := gb118) (o := .cells #[.int .i64 t113, .int .i64 t114, .int .i64 t115, .int .i64 t116] 75 (0, 0)) (qz8 BK118.out) hb) (below_step (qz43 GE117.out GE118.out) hb); clear HO_118000 HO_118001 BK117 BK118 HB; obtain ⟨HO_118000, HO_118001, BK117, BK118, HB⟩ := h_; (try clear hb); (try clear hb2); (try clear hk); (try clear hi); obtain ⟨hcz66_0, hcz66_1, hcz66_2, hcz66_3, hcz66_4, hcz66_5, hcz66_6⟩ := qC7 BK117.out; obtain ⟨hfz66_0, hfz66_1, hfz66_2, hfz66_3, hfz66_4, hfz66_5, hfz66_6⟩ := qF7 BK117.out; obtain ⟨hcz67_0, hcz67_1, hcz67_2, hcz67_3⟩ := qC4 BK118.out; obtain ⟨hfz67_0, hfz67_1, hfz67_2, hfz67_3⟩ := qF4 BK118.out) | ((with_reducible refine gate_callee (f := 72) rfl ?_); refine goesL_ (some 61) rfl rfl Try.func72 (by kernel_rfl) rfl #[.slice Ao14 t105.length co14, .agg #[.int .i64 t113, .int .i64 t114, .int .i64 t115, .int .i64 t116]] rfl qz1 ?_; (with_reducible refine (impl_ExprRun.calls kj21 _ _ t105 t113 t114 t115 t116 t127 t128 _ ?side1 ?side2 A36.out).mono ?_); (case side1 => exact qz197); (case side2 => exact qz198); rintro e w68 ⟨rfl, hb⟩; refine ⟨_, rfl, ?_⟩; have h_ := qA5 (Kd.R_below qz199 hb) (Kd.R_below qz200 hb) (blk_below (g := gb117) (o := .cells #[.slice Ao11 t102.length co11, .slice Ao14 t105.length co14, .int .i64 t108, .int .i64 t109, .int .i64 t110, .int .i64 t111, .int .i64 t112] 102 (0, 0)) (qz8 BK117.out) hb) (blk_below (g := gb118) (o := .cells #[.int .i64 t113, .int .i64 t114, .int .i64 t115, .int .i64 t116] 75 (0, 0)) (qz8 BK118.out) hb) (below_step (qz43 GE117.out GE118.out) hb); clear HO_118000 HO_118001 BK117 BK118 HB; obtain ⟨HO_118000, HO_118001, BK117, BK118, HB⟩ := h_; (try clear hb); (try clear hb2); (try clear hk); (try clear hi)))
          go_ret
          exact ⟨qz13, qz43 GE117.out GE118.out⟩
        ·rw [if_neg c37] at H
         have c37b0 : (t120 == 0) = false := beq_eq_false_iff_ne.mpr c37; have c37b1 : (t120 != 0) = true := bne_iff_ne.mpr c37
         by_cases c69 : t120 = 1
         ·rw [if_pos c69] at H
          have c69b0 : (t120 == 1) = true := beq_iff_eq.mpr c69; have c69b1 : (t120 != 1) = false := bne_eq_false_iff_eq.mpr c69; clear c69
          by_cases c70 : t126 = 0
          ·rw [if_pos c70] at H
           have c70b0 : (t126 == 0) = true := beq_iff_eq.mpr c70; have c70b1 : (t126 != 0) = false := bne_eq_false_iff_eq.mpr c70; clear c70; obtain rfl := Option.some.inj H; have hnb71 := NB117_118.out; have hnc71 := NB118_117.out; obtain ⟨hcz72_0, hcz72_1, hcz72_2, hcz72_3, hcz72_4, hcz72_5, hcz72_6⟩ := qC7 BK117.out; obtain ⟨hfz72_0, hfz72_1, hfz72_2, hfz72_3, hfz72_4, hfz72_5, hfz72_6⟩ := qF7 BK117.out; obtain ⟨hcz73_0, hcz73_1, hcz73_2, hcz73_3⟩ := qC4 BK118.out; obtain ⟨hfz73_0, hfz73_1, hfz73_2, hfz73_3⟩ := qF4 BK118.out
           go_wp2_with (first | ((with_reducible refine gate_callee (f := 72) rfl ?_); refine goesL_ (some 54) rfl rfl Try.func72 (by kernel_rfl) rfl #[.slice Ao11 t102.length co11, .agg #[.int .i64 t113, .int .i64 t114, .int .i64 t115, .int .i64 t116]] rfl qz1 ?_; (with_reducible refine (impl_ExprRun.calls kj21 _ _ t102 t113 t114 t115 t116 t125 t126 _ ?side1 ?side2 A35.out).mono ?_); (case side1 => exact qz195); (case side2 => exact qz196); rintro e w74 ⟨rfl, hb⟩; refine ⟨_, rfl, ?_⟩; have h_ := qA5 (Kd.R_below qz199 hb) (Kd.R_below qz200 hb) (blk_below (g := gb117) (o := .cells #[.slice Ao11 t102.length co11, .slice Ao14 t105.length co14, .int .i64 t108, .int .i64 t109, .int .i64 t110, .int .i64 t111, .int .i64 t112] 102 (0, 0)) (qz8 BK117.out) hb) (blk_below (g := gb118) (o := .cells #[.int .i64 t113, .int .i64 t114, .int .i64 t115, .int .i64 t116] 75 (0, 0)) (qz8 BK118.out) hb) (below_step (qz43 GE117.out GE118.out) hb); clear HO_118000 HO_118001 BK117 BK118 HB; obtain ⟨HO_118000, HO_118001, BK117, BK118, HB⟩ := h_; (try clear hb); (try clear hb2); (try clear hk); (try clear hi); obtain ⟨hcz75_0, hcz75_1, hcz75_2, hcz75_3, hcz75_4, hcz75_5, hcz75_6⟩ := qC7 BK117.out; obtain ⟨hfz75_0, hfz75_1, hfz75_2, hfz75_3, hfz75_4, hfz75_5, hfz75_6⟩ := qF7 BK117.out; obtain ⟨hcz76_0, hcz76_1, hcz76_2, hcz76_3⟩ := qC4 BK118.out; obtain ⟨hfz76_0, hfz76_1, hfz76_2, hfz76_3⟩ := qF4 BK118.out) | ((with_reducible refine gate_callee (f := 72) rfl ?_); refine goesL_ (some 61) rfl rfl Try.func72 (by kernel_rfl) rfl #[.slice Ao14 t105.length co14, .agg #[.int .i64 t113, .int .i64 t114, .int .i64 t115, .int .i64 t116]] rfl qz1 ?_; (with_reducible refine (impl_ExprRun.calls kj21 _ _ t105 t113 t114 t115 t116 t127 t128 _ ?side1 ?side2 A36.out).mono ?_); (case side1 => exact qz197); (case side2 => exact qz198); rintro e w77 ⟨rfl, hb⟩; refine ⟨_, rfl, ?_⟩; have h_ := qA5 (Kd.R_below qz199 hb) (Kd.R_below qz200 hb) (blk_below (g := gb117) (o := .cells #[.slice Ao11 t102.length co11, .slice Ao14 t105.length co14, .int .i64 t108, .int .i64 t109, .int .i64 t110, .int .i64 t111, .int .i64 t112] 102 (0, 0)) (qz8 BK117.out) hb) (blk_below (g := gb118) (o := .cells #[.int .i64 t113, .int .i64 t114, .int .i64 t115, .int .i64 t116] 75 (0, 0)) (qz8 BK118.out) hb) (below_step (qz43 GE117.out GE118.out) hb); clear HO_118000 HO_118001 BK117 BK118 HB; obtain ⟨HO_118000, HO_118001, BK117, BK118, HB⟩ := h_; (try clear hb); (try clear hb2); (try clear hk); (try clear hi)))
           go_ret
           exact ⟨qz13, qz43 GE117.out GE118.out⟩
          ·rw [if_neg c70] at H
           have c70b0 : (t126 == 0) = false := beq_eq_false_iff_ne.mpr c70; have c70b1 : (t126 != 0) = true := bne_iff_ne.mpr c70; obtain rfl := Option.some.inj H; have hnb78 := NB117_118.out; have hnc78 := NB118_117.out; obtain ⟨hcz79_0, hcz79_1, hcz79_2, hcz79_3, hcz79_4, hcz79_5, hcz79_6⟩ := qC7 BK117.out; obtain ⟨hfz79_0, hfz79_1, hfz79_2, hfz79_3, hfz79_4, hfz79_5, hfz79_6⟩ := qF7 BK117.out; obtain ⟨hcz80_0, hcz80_1, hcz80_2, hcz80_3⟩ := qC4 BK118.out; obtain ⟨hfz80_0, hfz80_1, hfz80_2, hfz80_3⟩ := qF4 BK118.out
           go_wp2_with (first | ((with_reducible refine gate_callee (f := 72) rfl ?_); refine goesL_ (some 54) rfl rfl Try.func72 (by kernel_rfl) rfl #[.slice Ao11 t102.length co11, .agg #[.int .i64 t113, .int .i64 t114, .int .i64 t115, .int .i64 t116]] rfl qz1 ?_; (with_reducible refine (impl_ExprRun.calls kj21 _ _ t102 t113 t114 t115 t116 t125 t126 _ ?side1 ?side2 A35.out).mono ?_); (case side1 => exact qz195); (case side2 => exact qz196); rintro e w81 ⟨rfl, hb⟩; refine ⟨_, rfl, ?_⟩; have h_ := qA5 (Kd.R_below qz199 hb) (Kd.R_below qz200 hb) (blk_below (g := gb117) (o := .cells #[.slice Ao11 t102.length co11, .slice Ao14 t105.length co14, .int .i64 t108, .int .i64 t109, .int .i64 t110, .int .i64 t111, .int .i64 t112] 102 (0, 0)) (qz8 BK117.out) hb) (blk_below (g := gb118) (o := .cells #[.int .i64 t113, .int .i64 t114, .int .i64 t115, .int .i64 t116] 75 (0, 0)) (qz8 BK118.out) hb) (below_step (qz43 GE117.out GE118.out) hb); clear HO_118000 HO_118001 BK117 BK118 HB; obtain ⟨HO_118000, HO_118001, BK117, BK118, HB⟩ := h_; (try clear hb); (try clear hb2); (try clear hk); (try clear hi); obtain ⟨hcz82_0, hcz82_1, hcz82_2, hcz82_3, hcz82_4, hcz82_5, hcz82_6⟩ := qC7 BK117.out; obtain ⟨hfz82_0, hfz82_1, hfz82_2, hfz82_3, hfz82_4, hfz82_5, hfz82_6⟩ := qF7 BK117.out; obtain ⟨hcz83_0, hcz83_1, hcz83_2, hcz83_3⟩ := qC4 BK118.out; obtain ⟨hfz83_0, hfz83_1, hfz83_2, hfz83_3⟩ := qF4 BK118.out) | ((with_reducible refine gate_callee (f := 72) rfl ?_); refine goesL_ (some 61) rfl rfl Try.func72 (by kernel_rfl) rfl #[.slice Ao14 t105.length co14, .agg #[.int .i64 t113, .int .i64 t114, .int .i64 t115, .int .i64 t116]] rfl qz1 ?_; (with_reducible refine (impl_ExprRun.calls kj21 _ _ t105 t113 t114 t115 t116 t127 t128 _ ?side1 ?side2 A36.out).mono ?_); (case side1 => exact qz197); (case side2 => exact qz198); rintro e w84 ⟨rfl, hb⟩; refine ⟨_, rfl, ?_⟩; have h_ := qA5 (Kd.R_below qz199 hb) (Kd.R_below qz200 hb) (blk_below (g := gb117) (o := .cells #[.slice Ao11 t102.length co11, .slice Ao14 t105.length co14, .int .i64 t108, .int .i64 t109, .int .i64 t110, .int .i64 t111, .int .i64 t112] 102 (0, 0)) (qz8 BK117.out) hb) (blk_below (g := gb118) (o := .cells #[.int .i64 t113, .int .i64 t114, .int .i64 t115, .int .i64 t116] 75 (0, 0)) (qz8 BK118.out) hb) (below_step (qz43 GE117.out GE118.out) hb); clear HO_118000 HO_118001 BK117 BK118 HB; obtain ⟨HO_118000, HO_118001, BK117, BK118, HB⟩ := h_; (try clear hb); (try clear hb2); (try clear hk); (try clear hi)))
           go_ret
           exact ⟨qz13, qz43 GE117.out GE118.out⟩
         ·rw [if_neg c69] at H
          have c69b0 : (t120 == 1) = false := beq_eq_false_iff_ne.mpr c69; have c69b1 : (t120 != 1) = true := bne_iff_ne.mpr c69
          by_cases c85 : t120 = 3
          ·rw [if_pos c85] at H
           have c85b0 : (t120 == 3) = true := beq_iff_eq.mpr c85; have c85b1 : (t120 != 3) = false := bne_eq_false_iff_eq.mpr c85; clear c85
           by_cases c86 : t126 = 0
           ·rw [if_pos c86] at H
            have c86b0 : (t126 == 0) = true := beq_iff_eq.mpr c86; have c86b1 : (t126 != 0) = false := bne_eq_false_iff_eq.mpr c86; clear c86
            by_cases c87 : t125 = 0
            ·rw [if_pos c87] at H
             have c87b0 : (t125 == 0) = true := beq_iff_eq.mpr c87; have c87b1 : (t125 != 0) = false := bne_eq_false_iff_eq.mpr c87; clear c87; obtain rfl := Option.some.inj H; have hnb88 := NB117_118.out; have hnc88 := NB118_117.out; obtain ⟨hcz89_0, hcz89_1, hcz89_2, hcz89_3, hcz89_4, hcz89_5, hcz89_6⟩ := qC7 BK117.out; obtain ⟨hfz89_0, hfz89_1, hfz89_2, hfz89_3, hfz89_4, hfz89_5, hfz89_6⟩ := qF7 BK117.out; obtain ⟨hcz90_0, hcz90_1, hcz90_2, hcz90_3⟩ := qC4 BK118.out; obtain ⟨hfz90_0, hfz90_1, hfz90_2, hfz90_3⟩ := qF4 BK118.out
             go_wp2_with (first | ((with_reducible refine gate_callee (f := 72) rfl ?_); refine goesL_ (some 54) rfl rfl Try.func72 (by kernel_rfl) rfl #[.slice Ao11 t102.length co11, .agg #[.int .i64 t113, .int .i64 t114, .int .i64 t115, .int .i64 t116]] rfl qz1 ?_; (with_reducible refine (impl_ExprRun.calls kj21 _ _ t102 t113 t114 t115 t116 t125 t126 _ ?side1 ?side2 A35.out).mono ?_); (case side1 => exact qz195); (case side2 => exact qz196); rintro e w91 ⟨rfl, hb⟩; refine ⟨_, rfl, ?_⟩; have h_ := qA5 (Kd.R_below qz199 hb) (Kd.R_below qz200 hb) (blk_below (g := gb117) (o := .cells #[.slice Ao11 t102.length co11, .slice Ao14 t105.length co14, .int .i64 t108, .int .i64 t109, .int .i64 t110, .int .i64 t111, .int .i64 t112] 102 (0, 0)) (qz8 BK117.out) hb) (blk_below (g := gb118) (o := .cells #[.int .i64 t113, .int .i64 t114, .int .i64 t115, .int .i64 t116] 75 (0, 0)) (qz8 BK118.out) hb) (below_step (qz43 GE117.out GE118.out) hb); clear HO_118000 HO_118001 BK117 BK118 HB; obtain ⟨HO_118000, HO_118001, BK117, BK118, HB⟩ := h_; (try clear hb); (try clear hb2); (try clear hk); (try clear hi); obtain ⟨hcz92_0, hcz92_1, hcz92_2, hcz92_3, hcz92_4, hcz92_5, hcz92_6⟩ := qC7 BK117.out; obtain ⟨hfz92_0, hfz92_1, hfz92_2, hfz92_3, hfz92_4, hfz92_5, hfz92_6⟩ := qF7 BK117.out; obtain ⟨hcz93_0, hcz93_1, hcz93_2, hcz93_3⟩ := qC4 BK118.out; obtain ⟨hfz93_0, hfz93_1, hfz93_2, hfz93_3⟩ := qF4 BK118.out) | ((with_reducible refine gate_callee (f := 72) rfl ?_); refine goesL_ (some 61) rfl rfl Try.func72 (by kernel_rfl) rfl #[.slice Ao14 t105.length co14, .agg #[.int .i64 t113, .int .i64 t114, .int .i64 t115, .int .i64 t116]] rfl qz1 ?_; (with_reducible refine (impl_ExprRun.calls kj21 _ _ t105 t113 t114 t115 t116 t127 t128 _ ?side1 ?side2 A36.out).mono ?_); (case side1 => exact qz197); (case side2 => exact qz198); rintro e w94 ⟨rfl, hb⟩; refine ⟨_, rfl, ?_⟩; have h_ := qA5 (Kd.R_below qz199 hb) (Kd.R_below qz200 hb) (blk_below (g := gb117) (o := .cells #[.slice Ao11 t102.length co11, .slice Ao14 t105.length co14, .int .i64 t108, .int .i64 t109, .int .i64 t110, .int .i64 t111, .int .i64 t112] 102 (0, 0)) (qz8 BK117.out) hb) (blk_below (g := gb118) (o := .cells #[.int .i64 t113, .int .i64 t114, .int .i64 t115, .int .i64 t116] 75 (0, 0)) (qz8 BK118.out) hb) (below_step (qz43 GE117.out GE118.out) hb); clear HO_118000 HO_118001 BK117 BK118 HB; obtain ⟨HO_118000, HO_118001, BK117, BK118, HB⟩ := h_; (try clear hb); (try clear hb2); (try clear hk); (try clear hi)))
             go_ret
             exact ⟨qz13, qz43 GE117.out GE118.out⟩
            ·rw [if_neg c87] at H
             have c87b0 : (t125 == 0) = false := beq_eq_false_iff_ne.mpr c87; have c87b1 : (t125 != 0) = true := bne_iff_ne.mpr c87; obtain rfl := Option.some.inj H; have hnb95 := NB117_118.out; have hnc95 := NB118_117.out; obtain ⟨hcz96_0, hcz96_1, hcz96_2, hcz96_3, hcz96_4, hcz96_5, hcz96_6⟩ := qC7 BK117.out; obtain ⟨hfz96_0, hfz96_1, hfz96_2, hfz96_3, hfz96_4, hfz96_5, hfz96_6⟩ := qF7 BK117.out; obtain ⟨hcz97_0, hcz97_1, hcz97_2, hcz97_3⟩ := qC4 BK118.out; obtain ⟨hfz97_0, hfz97_1, hfz97_2, hfz97_3⟩ := qF4 BK118.out
             go_wp2_with (first | ((with_reducible refine gate_callee (f := 72) rfl ?_); refine goesL_ (some 54) rfl rfl Try.func72 (by kernel_rfl) rfl #[.slice Ao11 t102.length co11, .agg #[.int .i64 t113, .int .i64 t114, .int .i64 t115, .int .i64 t116]] rfl qz1 ?_; (with_reducible refine (impl_ExprRun.calls kj21 _ _ t102 t113 t114 t115 t116 t125 t126 _ ?side1 ?side2 A35.out).mono ?_); (case side1 => exact qz195); (case side2 => exact qz196); rintro e w98 ⟨rfl, hb⟩; refine ⟨_, rfl, ?_⟩; have h_ := qA5 (Kd.R_below qz199 hb) (Kd.R_below qz200 hb) (blk_below (g := gb117) (o := .cells #[.slice Ao11 t102.length co11, .slice Ao14 t105.length co14, .int .i64 t108, .int .i64 t109, .int .i64 t110, .int .i64 t111, .int .i64 t112] 102 (0, 0)) (qz8 BK117.out) hb) (blk_below (g := gb118) (o := .cells #[.int .i64 t113, .int .i64 t114, .int .i64 t115, .int .i64 t116] 75 (0, 0)) (qz8 BK118.out) hb) (below_step (qz43 GE117.out GE118.out) hb); clear HO_118000 HO_118001 BK117 BK118 HB; obtain ⟨HO_118000, HO_118001, BK117, BK118, HB⟩ := h_; (try clear hb); (try clear hb2); (try clear hk); (try clear hi); obtain ⟨hcz99_0, hcz99_1, hcz99_2, hcz99_3, hcz99_4, hcz99_5, hcz99_6⟩ := qC7 BK117.out; obtain ⟨hfz99_0, hfz99_1, hfz99_2, hfz99_3, hfz99_4, hfz99_5, hfz99_6⟩ := qF7 BK117.out; obtain ⟨hcz100_0, hcz100_1, hcz100_2, hcz100_3⟩ := qC4 BK118.out; obtain ⟨hfz100_0, hfz100_1, hfz100_2, hfz100_3⟩ := qF4 BK118.out) | ((with_reducible refine gate_callee (f := 72) rfl ?_); refine goesL_ (some 61) rfl rfl Try.func72 (by kernel_rfl) rfl #[.slice Ao14 t105.length co14, .agg #[.int .i64 t113, .int .i64 t114, .int .i64 t115, .int .i64 t116]] rfl qz1 ?_; (with_reducible refine (impl_ExprRun.calls kj21 _ _ t105 t113 t114 t115 t116 t127 t128 _ ?side1 ?side2 A36.out).mono ?_); (case side1 => exact qz197); (case side2 => exact qz198); rintro e w101 ⟨rfl, hb⟩; refine ⟨_, rfl, ?_⟩; have h_ := qA5 (Kd.R_below qz199 hb) (Kd.R_below qz200 hb) (blk_below (g := gb117) (o := .cells #[.slice Ao11 t102.length co11, .slice Ao14 t105.length co14, .int .i64 t108, .int .i64 t109, .int .i64 t110, .int .i64 t111, .int .i64 t112] 102 (0, 0)) (qz8 BK117.out) hb) (blk_below (g := gb118) (o := .cells #[.int .i64 t113, .int .i64 t114, .int .i64 t115, .int .i64 t116] 75 (0, 0)) (qz8 BK118.out) hb) (below_step (qz43 GE117.out GE118.out) hb); clear HO_118000 HO_118001 BK117 BK118 HB; obtain ⟨HO_118000, HO_118001, BK117, BK118, HB⟩ := h_; (try clear hb); (try clear hb2); (try clear hk); (try clear hi)))
             go_ret
             exact ⟨qz13, qz43 GE117.out GE118.out⟩
           ·rw [if_neg c86] at H
            have c86b0 : (t126 == 0) = false := beq_eq_false_iff_ne.mpr c86; have c86b1 : (t126 != 0) = true := bne_iff_ne.mpr c86; obtain rfl := Option.some.inj H; have hnb102 := NB117_118.out; have hnc102 := NB118_117.out; obtain ⟨hcz103_0, hcz103_1, hcz103_2, hcz103_3, hcz103_4, hcz103_5, hcz103_6⟩ := qC7 BK117.out; obtain ⟨hfz103_0, hfz103_1, hfz103_2, hfz103_3, hfz103_4, hfz103_5, hfz103_6⟩ := qF7 BK117.out; obtain ⟨hcz104_0, hcz104_1, hcz104_2, hcz104_3⟩ := qC4 BK118.out; obtain ⟨hfz104_0, hfz104_1, hfz104_2, hfz104_3⟩ := qF4 BK118.out
            go_wp2_with (first | ((with_reducible refine gate_callee (f := 72) rfl ?_); refine goesL_ (some 54) rfl rfl Try.func72 (by kernel_rfl) rfl #[.slice Ao11 t102.length co11, .agg #[.int .i64 t113, .int .i64 t114, .int .i64 t115, .int .i64 t116]] rfl qz1 ?_; (with_reducible refine (impl_ExprRun.calls kj21 _ _ t102 t113 t114 t115 t116 t125 t126 _ ?side1 ?side2 A35.out).mono ?_); (case side1 => exact qz195); (case side2 => exact qz196); rintro e w105 ⟨rfl, hb⟩; refine ⟨_, rfl, ?_⟩; have h_ := qA5 (Kd.R_below qz199 hb) (Kd.R_below qz200 hb) (blk_below (g := gb117) (o := .cells #[.slice Ao11 t102.length co11, .slice Ao14 t105.length co14, .int .i64 t108, .int .i64 t109, .int .i64 t110, .int .i64 t111, .int .i64 t112] 102 (0, 0)) (qz8 BK117.out) hb) (blk_below (g := gb118) (o := .cells #[.int .i64 t113, .int .i64 t114, .int .i64 t115, .int .i64 t116] 75 (0, 0)) (qz8 BK118.out) hb) (below_step (qz43 GE117.out GE118.out) hb); clear HO_118000 HO_118001 BK117 BK118 HB; obtain ⟨HO_118000, HO_118001, BK117, BK118, HB⟩ := h_; (try clear hb); (try clear hb2); (try clear hk); (try clear hi); obtain ⟨hcz106_0, hcz106_1, hcz106_2, hcz106_3, hcz106_4, hcz106_5, hcz106_6⟩ := qC7 BK117.out; obtain ⟨hfz106_0, hfz106_1, hfz106_2, hfz106_3, hfz106_4, hfz106_5, hfz106_6⟩ := qF7 BK117.out; obtain ⟨hcz107_0, hcz107_1, hcz107_2, hcz107_3⟩ := qC4 BK118.out; obtain ⟨hfz107_0, hfz107_1, hfz107_2, hfz107_3⟩ := qF4 BK118.out) | ((with_reducible refine gate_callee (f := 72) rfl ?_); refine goesL_ (some 61) rfl rfl Try.func72 (by kernel_rfl) rfl #[.slice Ao14 t105.length co14, .agg #[.int .i64 t113, .int .i64 t114, .int .i64 t115, .int .i64 t116]] rfl qz1 ?_; (with_reducible refine (impl_ExprRun.calls kj21 _ _ t105 t113 t114 t115 t116 t127 t128 _ ?side1 ?side2 A36.out).mono ?_); (case side1 => exact qz197); (case side2 => exact qz198); rintro e w108 ⟨rfl, hb⟩; refine ⟨_, rfl, ?_⟩; have h_ := qA5 (Kd.R_below qz199 hb) (Kd.R_below qz200 hb) (blk_below (g := gb117) (o := .cells #[.slice Ao11 t102.length co11, .slice Ao14 t105.length co14, .int .i64 t108, .int .i64 t109, .int .i64 t110, .int .i64 t111, .int .i64 t112] 102 (0, 0)) (qz8 BK117.out) hb) (blk_below (g := gb118) (o := .cells #[.int .i64 t113, .int .i64 t114, .int .i64 t115, .int .i64 t116] 75 (0, 0)) (qz8 BK118.out) hb) (below_step (qz43 GE117.out GE118.out) hb); clear HO_118000 HO_118001 BK117 BK118 HB; obtain ⟨HO_118000, HO_118001, BK117, BK118, HB⟩ := h_; (try clear hb); (try clear hb2); (try clear hk); (try clear hi)))
            go_ret
            exact ⟨qz13, qz43 GE117.out GE118.out⟩
          ·rw [if_neg c85] at H
           have c85b0 : (t120 == 3) = false := beq_eq_false_iff_ne.mpr c85; have c85b1 : (t120 != 3) = true := bne_iff_ne.mpr c85; obtain rfl := Option.some.inj H; have hnb109 := NB117_118.out; have hnc109 := NB118_117.out; obtain ⟨hcz110_0, hcz110_1, hcz110_2, hcz110_3, hcz110_4, hcz110_5, hcz110_6⟩ := qC7 BK117.out; obtain ⟨hfz110_0, hfz110_1, hfz110_2, hfz110_3, hfz110_4, hfz110_5, hfz110_6⟩ := qF7 BK117.out; obtain ⟨hcz111_0, hcz111_1, hcz111_2, hcz111_3⟩ := qC4 BK118.out; obtain ⟨hfz111_0, hfz111_1, hfz111_2, hfz111_3⟩ := qF4 BK118.out
           go_wp2_with (first | ((with_reducible refine gate_callee (f := 72) rfl ?_); refine goesL_ (some 54) rfl rfl Try.func72 (by kernel_rfl) rfl #[.slice Ao11 t102.length co11, .agg #[.int .i64 t113, .int .i64 t114, .int .i64 t115, .int .i64 t116]] rfl qz1 ?_; (with_reducible refine (impl_ExprRun.calls kj21 _ _ t102 t113 t114 t115 t116 t125 t126 _ ?side1 ?side2 A35.out).mono ?_); (case side1 => exact qz195); (case side2 => exact qz196); rintro e w112 ⟨rfl, hb⟩; refine ⟨_, rfl, ?_⟩; have h_ := qA5 (Kd.R_below qz199 hb) (Kd.R_below qz200 hb) (blk_below (g := gb117) (o := .cells #[.slice Ao11 t102.length co11, .slice Ao14 t105.length co14, .int .i64 t108, .int .i64 t109, .int .i64 t110, .int .i64 t111, .int .i64 t112] 102 (0, 0)) (qz8 BK117.out) hb) (blk_below (g := gb118) (o := .cells #[.int .i64 t113, .int .i64 t114, .int .i64 t115, .int .i64 t116] 75 (0, 0)) (qz8 BK118.out) hb) (below_step (qz43 GE117.out GE118.out) hb); clear HO_118000 HO_118001 BK117 BK118 HB; obtain ⟨HO_118000, HO_118001, BK117, BK118, HB⟩ := h_; (try clear hb); (try clear hb2); (try clear hk); (try clear hi); obtain ⟨hcz113_0, hcz113_1, hcz113_2, hcz113_3, hcz113_4, hcz113_5, hcz113_6⟩ := qC7 BK117.out; obtain ⟨hfz113_0, hfz113_1, hfz113_2, hfz113_3, hfz113_4, hfz113_5, hfz113_6⟩ := qF7 BK117.out; obtain ⟨hcz114_0, hcz114_1, hcz114_2, hcz114_3⟩ := qC4 BK118.out; obtain ⟨hfz114_0, hfz114_1, hfz114_2, hfz114_3⟩ := qF4 BK118.out) | ((with_reducible refine gate_callee (f := 72) rfl ?_); refine goesL_ (some 61) rfl rfl Try.func72 (by kernel_rfl) rfl #[.slice Ao14 t105.length co14, .agg #[.int .i64 t113, .int .i64 t114, .int .i64 t115, .int .i64 t116]] rfl qz1 ?_; (with_reducible refine (impl_ExprRun.calls kj21 _ _ t105 t113 t114 t115 t116 t127 t128 _ ?side1 ?side2 A36.out).mono ?_); (case side1 => exact qz197); (case side2 => exact qz198); rintro e w115 ⟨rfl, hb⟩; refine ⟨_, rfl, ?_⟩; have h_ := qA5 (Kd.R_below qz199 hb) (Kd.R_below qz200 hb) (blk_below (g := gb117) (o := .cells #[.slice Ao11 t102.length co11, .slice Ao14 t105.length co14, .int .i64 t108, .int .i64 t109, .int .i64 t110, .int .i64 t111, .int .i64 t112] 102 (0, 0)) (qz8 BK117.out) hb) (blk_below (g := gb118) (o := .cells #[.int .i64 t113, .int .i64 t114, .int .i64 t115, .int .i64 t116] 75 (0, 0)) (qz8 BK118.out) hb) (below_step (qz43 GE117.out GE118.out) hb); clear HO_118000 HO_118001 BK117 BK118 HB; obtain ⟨HO_118000, HO_118001, BK117, BK118, HB⟩ := h_; (try clear hb); (try clear hb2); (try clear hk); (try clear hi)))
           go_ret
           exact ⟨qz13, qz43 GE117.out GE118.out⟩

/-- THE ONE PURE STATEMENT of laws_FnTake: yours. -/
def laws_FnTake.Pure : Prop := ∀ (l0 : List Int), l0.length ≤ maxLen → l0.length * 1 ≤ 140737488351232 → (∀ x ∈ l0, (Lit.int .u8 x).wf = true) → ∃ k, laws_FnTake.f k l0 = some true
theorem laws_FnTake.walk (P : laws_FnTake.Pure) (a0 : Option Addr) (len0 cap0 : Nat) (z0 : List Int) (w : World) (w0 : (a0 = none ∧ len0 = 0 ∧ cap0 = 0 ∧ z0 = []) ∨ ∃ x, a0 = some x ∧ len0 ≤ cap0 ∧ cap0 ≤ maxLen ∧ z0.length = cap0 ∧ (∀ i, i < z0.length → w.cell? (x.add i) = some (.int .u8 (z0.getD i 0))) ∧ ∀ n ∈ z0, (Lit.int .u8 n).wf = true) (y0 : len0 * 1 ≤ 140737488351232) :
  Calls Try.prog 11 #[.slice a0 len0 cap0] w fun e w' => e = .returned (.bool true) ∧ Below w.heap.size w w' := by
 obtain ⟨l0, rfl, hr0, hm0, hw0, hc0⟩ := ReadsInt.ofRowC w0
 obtain ⟨k, h⟩ := P l0 hm0 y0 hw0
 refine (laws_FnTake.calls k _ _ l0 true w (Kd.C_of_reads (d := (0 : Int)) (h1 := fun _ => rfl) hr0) hc0 h).mono ?_
 rintro e w' ⟨rfl, hd⟩
 exact ⟨rfl, hd⟩
/-! ### spec_l01Cur_size: function 194 -/
def spec_l01Cur_size.f (s0_0 : List Int) (s0_1 : Int) (s0_2 : Int) (a1 : Int) : Option (Int × Int × Int) := (spec_l01Cur_pick.f s0_0 s0_1 s0_2 (wrap64 ((mn a1 (wrap64 (1 + (wrap64 ((s0_0.length : Int) / 8))))) + 1))).bind fun bt101 => (some (bt101.1, bt101.2.1, bt101.2.2))
/-! ### spec_l01Cur_label: function 125 -/
def spec_l01Cur_label.f (s0_0 : List Int) (s0_1 : Int) (s0_2 : Int) (a1_0 : Int) (l1_1 : List Int) : Option (Int × Int × Int) := (spec_l01Cur_once.f s0_0 s0_1 s0_2 12).bind fun bt102 => (if bt102.1 = true then ((spec_l01Cur_raw.f s0_0 bt102.2.1 bt102.2.2).bind fun bt105 => (some (bt105.1, bt105.2.1, bt105.2.2))) else ((spec_l01Cur_pick.f s0_0 bt102.2.1 bt102.2.2 (mx 1 (mn 16 a1_0))).bind fun bt108 => (some (bt108.1, bt108.2.1, bt108.2.2))))
end Go.Proofs.Ytjhfjnknajhanaa.P
namespace Go.Proofs.Ytjhfjnknajhanaa.Q
open Go.RowKit Go.Proofs.Ytjhfjnknajhanaa.P Go.Proofs.YtjhfjnknajhanaaW.PrintWords Go.Proofs.YtjhfjnknajhanaaW.PrintLast Go.Proofs.YtjhfjnknajhanaaW.PrintMore

theorem wrap64_id {x : Int} (h0 : -9223372036854775808 ≤ x) (h1 : x ≤ 9223372036854775807) : wrap64 x = x := by
  unfold wrap64; omega
theorem u64_id {x : Int} (h0 : 0 ≤ x) (h1 : x ≤ 18446744073709551615) : IntKind.u64.wrap x = x := by
  unfold IntKind.wrap; simp [IntKind.bits, IntKind.signed]; omega

structure Code (c : List Int) : Prop where
  byte : ∀ x ∈ c, 0 ≤ x ∧ x ≤ 255
  len : c.length ≤ 1048576

structure Cu (c : List Int) (a s : Int) (m : Nat) : Prop where
  code : Code c
  a0 : 0 ≤ a
  a1 : a ≤ m
  s0 : 0 ≤ s
  s1 : s ≤ 65520

theorem Cu.mono {c : List Int} {a s : Int} {m n : Nat} (h : Cu c a s m) (hn : m ≤ n) : Cu c a s n := ⟨h.code, h.a0, by have := h.a1; omega, h.s0, h.s1⟩

theorem rd_byte {c : List Int} (h : Code c) (i : Int) : 0 ≤ rd c i ∧ rd c i ≤ 255 := by
  unfold rd
  rw [List.getD_eq_getElem?_getD]
  cases hi : c[i.toNat]? with
  | none => simp
  | some x => simpa using h.byte x (List.mem_of_getElem? hi)

theorem open_ok {c : List Int} (h : Code c) : ∃ s, spec_l01Open.f c = some (c, 0, s) ∧ Cu c 0 s 0 := by
  have := h.len
  exact ⟨_, rfl, h, by omega, by omega, by omega, by omega⟩

theorem pick_ok {c : List Int} {a s : Int} {m : Nat} (h : Cu c a s m) (n : Int) (hm : m ≤ 1000000000000 := by omega) :
    ∃ x a' s', spec_l01Cur_pick.f c a s n = some (x, a', s') ∧ 0 ≤ x ∧ (2 ≤ n → x < n) ∧ (n < 2 → x = 0) ∧ Cu c a' s' (m + 1) := by
  obtain ⟨hc, a0, a1, s0, s1⟩ := h
  have hl := hc.len
  unfold spec_l01Cur_pick.f
  by_cases h2 : n < 2
  · rw [if_pos h2]
    exact ⟨0, a, s, rfl, by omega, fun h => absurd h (by omega), fun _ => rfl, hc, a0, by omega, s0, s1⟩
  · rw [if_neg h2]
    have hn : n ≠ 0 := by omega
    by_cases h3 : a < (c.length : Int)
    · rw [if_pos h3, if_pos a0, if_neg hn]
      have hb := rd_byte hc a
      refine ⟨_, _, _, rfl, ?_, fun _ => ?_, fun h => absurd h h2, hc, ?_, ?_, s0, s1⟩
      · rw [wrap64_id (by omega) (by omega)]; exact Int.tmod_nonneg _ hb.1
      · rw [wrap64_id (by omega) (by omega)]; exact Int.tmod_lt_of_pos _ (by omega)
      · rw [wrap64_id (by omega) (by omega)]; omega
      · rw [wrap64_id (by omega) (by omega)]; omega
    · rw [if_neg h3]
      have hw : wrap64 (wrap64 (s * 1103) + 12345) = s * 1103 + 12345 := by
        rw [wrap64_id (x := s * 1103) (by omega) (by omega), wrap64_id (by omega) (by omega)]
      have t0 : 0 ≤ Int.tmod (s * 1103 + 12345) 65521 := Int.tmod_nonneg _ (by omega)
      have t1 : Int.tmod (s * 1103 + 12345) 65521 < 65521 := Int.tmod_lt_of_pos _ (by omega)
      rw [hw]
      by_cases h4 : (c.length : Int) > 0
      · have h5 : ¬ (c.length : Int) = 0 := by omega
        have e0 : 0 ≤ Int.tmod a c.length := Int.tmod_nonneg _ a0
        have e1 : Int.tmod a c.length < c.length := Int.tmod_lt_of_pos _ h4
        rw [if_pos h4, if_neg h5, if_pos e0, if_pos e1, if_neg hn]
        have hb := rd_byte hc (Int.tmod a c.length)
        have d0 : 0 ≤ Int.tdiv (Int.tmod (s * 1103 + 12345) 65521) 7 := Int.tdiv_nonneg t0 (by omega)
        have d1 : Int.tdiv (Int.tmod (s * 1103 + 12345) 65521) 7 ≤ 65521 := by
          rw [Int.tdiv_eq_ediv_of_nonneg t0]; omega
        rw [wrap64_id (x := Int.tdiv _ 7) (by omega) (by omega), wrap64_id (x := rd c _) (by omega) (by omega), wrap64_id (x := _ + _) (by omega) (by omega), wrap64_id (x := a + 1) (by omega) (by omega)]
        exact ⟨_, _, _, rfl, Int.tmod_nonneg _ (by omega), fun _ => Int.tmod_lt_of_pos _ (by omega), fun h => absurd h h2, hc, by omega, by omega, t0, by omega⟩
      · rw [if_neg h4, if_neg hn, wrap64_id (x := a + 1) (by omega) (by omega)]
        exact ⟨_, _, _, rfl, by simp, fun _ => by simp; omega, fun h => absurd h h2, hc, by omega, by omega, t0, by omega⟩

theorem once_ok {c : List Int} {a s : Int} {m : Nat} (h : Cu c a s m) (n : Int) (hm : m ≤ 1000000000000 := by omega) :
    ∃ b a' s', spec_l01Cur_once.f c a s n = some (b, a', s') ∧ Cu c a' s' (m + 1) := by
  obtain ⟨x, a', s', e, _, _, _, hc⟩ := pick_ok h n hm
  unfold spec_l01Cur_once.f
  rw [e]
  exact ⟨_, _, _, rfl, hc⟩

def rawVals : List Int := (List.range 256).map (fun (x : Nat) => Int.ofNat x - 128) ++ [9223372036854775807, -9223372036854775808, 4611686018427387904, 9223372036854775806, 4294967296, -1000, 1000, 16]
theorem small_raw {x : Int} (h0 : -128 ≤ x) (h1 : x ≤ 127) : x ∈ rawVals := by
  unfold rawVals
  refine List.mem_append_left _ (List.mem_map.mpr ⟨(x + 128).toNat, List.mem_range.mpr (by omega), ?_⟩)
  show ((x + 128).toNat : Int) - 128 = x
  omega
theorem raw_range {x : Int} (h : x ∈ rawVals) : -9223372036854775808 ≤ x ∧ x ≤ 9223372036854775807 := by
  unfold rawVals at h
  rcases List.mem_append.mp h with h | h
  · obtain ⟨n, hn, rfl⟩ := List.mem_map.mp h
    have := List.mem_range.mp hn
    show -9223372036854775808 ≤ (n : Int) - 128 ∧ (n : Int) - 128 ≤ 9223372036854775807
    omega
  · simp at h
    omega
theorem raw_ok {c : List Int} {a s : Int} {m : Nat} (h : Cu c a s m) (hm : m ≤ 100000000000 := by omega) :
    ∃ x a' s', spec_l01Cur_raw.f c a s = some (x, a', s') ∧ x ∈ rawVals ∧ Cu c a' s' (m + 2) := by
  replace hm : m ≤ 100000000000 := hm
  obtain ⟨x, a1, s1, e, x0, x1, _, hc⟩ := pick_ok h 8
  unfold spec_l01Cur_raw.f
  rw [e]
  simp only [Option.bind_some]
  by_cases h0 : x = 0
  · rw [if_pos h0]
    obtain ⟨y, a2, s2, e2, y0, y1, _, hc2⟩ := pick_ok hc 256
    have := y1 (by omega)
    rw [e2]
    simp only [Option.bind_some]
    rw [wrap64_id (by omega) (by omega)]
    exact ⟨_, _, _, rfl, small_raw (by omega) (by omega), hc2⟩
  · rw [if_neg h0]
    by_cases h1 : x = 1
    · rw [if_pos h1]
      obtain ⟨y, a2, s2, e2, y0, y1, _, hc2⟩ := pick_ok hc 8
      have := y1 (by omega)
      rw [e2]
      simp only [Option.bind_some]
      rw [if_pos y0, if_pos (by simpa using this)]
      refine ⟨_, _, _, rfl, ?_, hc2⟩
      unfold rawVals
      refine List.mem_append_right _ ?_
      obtain ⟨n, rfl⟩ := Int.eq_ofNat_of_zero_le y0
      have hn : n < 8 := by omega
      have : ∀ n : Nat, n < 8 → rd [9223372036854775807, (-9223372036854775808), 4611686018427387904, 9223372036854775806, 4294967296, (-1000), 1000, 16] (n : Int) ∈ [9223372036854775807, -9223372036854775808, 4611686018427387904, 9223372036854775806, 4294967296, -1000, 1000, (16 : Int)] := by decide
      exact this n hn
    · rw [if_neg h1]
      obtain ⟨y, a2, s2, e2, y0, y1, _, hc2⟩ := pick_ok hc 14
      have := y1 (by omega)
      rw [e2]
      simp only [Option.bind_some]
      rw [wrap64_id (by omega) (by omega)]
      exact ⟨_, _, _, rfl, small_raw (by omega) (by omega), hc2⟩

theorem mx_le {x y : Int} : x ≤ mx x y ∧ y ≤ mx x y ∧ (mx x y = x ∨ mx x y = y) := by unfold mx; split <;> omega
theorem mn_le {x y : Int} : mn x y ≤ x ∧ mn x y ≤ y ∧ (mn x y = x ∨ mn x y = y) := by unfold mn; split <;> omega

theorem code_of {l : List Int} (hb : ∀ x ∈ l, (Lit.int .u8 x).wf = true) (h : laws_big.f l = some false) : Code l := by
  unfold laws_big.f at h
  refine ⟨fun x hx => ?_, ?_⟩
  · have := hb x hx
    simp [Lit.wf, IntKind.min, IntKind.max, IntKind.signed, IntKind.bits] at this
    omega
  · have := Option.some.inj h
    simp at this
    omega
end Go.Proofs.Ytjhfjnknajhanaa.Q
namespace Go.Proofs.Ytjhfjnknajhanaa.P
open Go.RowKit Go.Proofs.YtjhfjnknajhanaaW.PrintWords Go.Proofs.YtjhfjnknajhanaaW.PrintLast Go.Proofs.YtjhfjnknajhanaaW.PrintMore
attribute [local go_sem] max2_int min2_int max_two min_two max_three min_three max_four min_four
set_option linter.unusedVariables false
set_option linter.unusedSimpArgs false
/-! ### spec_l01Bit: function 120 -/
def spec_l01Bit.f (a0 : Int) (a1 : Int) : Option (Bool) := if 0 ≤ (IntKind.u64.wrap (a1)) then (some ((Go.bits .and .u64 (shr .u64 a0 (IntKind.u64.wrap (a1))) 1) == 1)) else (none)
/-! ### spec_l01Side: function 212 -/
def spec_l01Side.f (a0_0 : Int) (l0_1 : List Int) (a1 : Int) (a2 : Int) (a3 : Bool) : Option (Bool) := if a3 = true then (if 0 ≤ a1 then (if a1 < (l0_1.length : Int) then ((spec_l01Bit.f (rd l0_1 a1) a2).bind fun t103 => (some t103)) else (none)) else (none)) else (if 0 ≤ a2 then (if a2 < (l0_1.length : Int) then ((spec_l01Bit.f (rd l0_1 a2) a1).bind fun t105 => (some t105)) else (none)) else (none))
/-! ### spec_l01Bound: function 122 -/
mutual
def spec_l01Bound.l0 : Nat → Int → Int → Bool → Int → Int → List Int → Option (Int)
 | 0, _, _, _, _, _, _ => none
 | k + 1, x1, x2, x3, x9, x102000, x102001 => if x9 < x102000 then ((spec_l01Side.f x102000 x102001 x1 x9 x3).bind fun t102 => (if t102 = true then ((spec_l01Side.f x102000 x102001 x2 x9 x3).bind fun t103 => (spec_l01Bound.j1 k x1 x2 x3 x9 t103 x102000 x102001)) else (spec_l01Bound.j1 k x1 x2 x3 x9 false x102000 x102001))) else (some (-1))
def spec_l01Bound.j1 : Nat → Int → Int → Bool → Int → Bool → Int → List Int → Option (Int)
 | 0, _, _, _, _, _, _, _ => none
 | k + 1, x1, x2, x3, x9, x10, x102000, x102001 => spec_l01Bound.l1 k x1 x2 x3 x9 x10 0 x102000 x102001
def spec_l01Bound.l1 : Nat → Int → Int → Bool → Int → Bool → Int → Int → List Int → Option (Int)
 | 0, _, _, _, _, _, _, _, _ => none
 | k + 1, x1, x2, x3, x9, x10, x11, x102000, x102001 => if x11 < x102000 then (spec_l01Bound.j3 k x1 x2 x3 x9 x10 x11 x10 x102000 x102001) else (spec_l01Bound.j3 k x1 x2 x3 x9 x10 x11 false x102000 x102001)
def spec_l01Bound.j3 : Nat → Int → Int → Bool → Int → Bool → Int → Bool → Int → List Int → Option (Int)
 | 0, _, _, _, _, _, _, _, _, _ => none
 | k + 1, x1, x2, x3, x9, x10, x11, x36, x102000, x102001 => if x36 = true then ((spec_l01Side.f x102000 x102001 x1 x11 x3).bind fun t104 => (if t104 = true then ((spec_l01Side.f x102000 x102001 x2 x11 x3).bind fun t105 => (if t105 = true then ((spec_l01Side.f x102000 x102001 x9 x11 x3).bind fun t106 => (if t106 = true then (spec_l01Bound.l1 k x1 x2 x3 x9 x10 (wrap64 (x11 + 1)) x102000 x102001) else (spec_l01Bound.l1 k x1 x2 x3 x9 false (wrap64 (x11 + 1)) x102000 x102001))) else (spec_l01Bound.l1 k x1 x2 x3 x9 x10 (wrap64 (x11 + 1)) x102000 x102001))) else (spec_l01Bound.l1 k x1 x2 x3 x9 x10 (wrap64 (x11 + 1)) x102000 x102001))) else (if x10 = true then (some x9) else (spec_l01Bound.l0 k x1 x2 x3 (wrap64 (x9 + 1)) x102000 x102001))
end
def spec_l01Bound.f (k : Nat) (a0_0 : Int) (l0_1 : List Int) (a1 : Int) (a2 : Int) (a3 : Bool) : Option (Int) := spec_l01Bound.l0 k a1 a2 a3 0 a0_0 l0_1
theorem spec_l01Bound.mono_l : ∀ k, (∀ y0 y1 y2 y3 y4 y5, LeO (spec_l01Bound.l0 k y0 y1 y2 y3 y4 y5) (spec_l01Bound.l0 (k + 1) y0 y1 y2 y3 y4 y5)) ∧ (∀ y0 y1 y2 y3 y4 y5 y6, LeO (spec_l01Bound.j1 k y0 y1 y2 y3 y4 y5 y6) (spec_l01Bound.j1 (k + 1) y0 y1 y2 y3 y4 y5 y6)) ∧ (∀ y0 y1 y2 y3 y4 y5 y6 y7, LeO (spec_l01Bound.l1 k y0 y1 y2 y3 y4 y5 y6 y7) (spec_l01Bound.l1 (k + 1) y0 y1 y2 y3 y4 y5 y6 y7)) ∧ (∀ y0 y1 y2 y3 y4 y5 y6 y7 y8, LeO (spec_l01Bound.j3 k y0 y1 y2 y3 y4 y5 y6 y7 y8) (spec_l01Bound.j3 (k + 1) y0 y1 y2 y3 y4 y5 y6 y7 y8))
 | 0 => ⟨fun _ _ _ _ _ _ r h => by simp [spec_l01Bound.l0] at h, fun _ _ _ _ _ _ _ r h => by simp [spec_l01Bound.j1] at h, fun _ _ _ _ _ _ _ _ r h => by simp [spec_l01Bound.l1] at h, fun _ _ _ _ _ _ _ _ _ r h => by simp [spec_l01Bound.j3] at h⟩
 | k + 1 => by
  obtain ⟨ih0, ih1, ih2, ih3⟩ := spec_l01Bound.mono_l k
  refine ⟨?_, ?_, ?_, ?_⟩
  all_goals
   intros
   first | unfold spec_l01Bound.l0 | unfold spec_l01Bound.j1 | unfold spec_l01Bound.l1 | unfold spec_l01Bound.j3
   repeat' first
   | with_reducible first | apply ih0 | apply ih1 | apply ih2 | apply ih3 | exact LeO.refl _ | exact LeO.none _ | refine LeO.ite ?_ ?_ | refine LeO.bind ?_ (fun _ => ?_)
   | apply ih0 | apply ih1 | apply ih2 | apply ih3 | exact LeO.none _ | refine LeO.ite ?_ ?_ | refine LeO.bind ?_ (fun _ => ?_)
theorem spec_l01Bound.mono : ∀ a0 a1 a2 a3 a4 k, LeO (spec_l01Bound.f k a0 a1 a2 a3 a4) (spec_l01Bound.f (k + 1) a0 a1 a2 a3 a4) := by
 intro a0 a1 a2 a3 a4 k
 obtain ⟨ih0, ih1, ih2, ih3⟩ := spec_l01Bound.mono_l k
 unfold spec_l01Bound.f
 repeat' first
 | with_reducible first | apply ih0 | apply ih1 | apply ih2 | apply ih3 | exact LeO.refl _ | exact LeO.none _ | refine LeO.ite ?_ ?_ | refine LeO.bind ?_ (fun _ => ?_)
 | apply ih0 | apply ih1 | apply ih2 | apply ih3 | exact LeO.none _ | refine LeO.ite ?_ ?_ | refine LeO.bind ?_ (fun _ => ?_)
/-! ### spec_l01Power: function 121 -/
def spec_l01Power.l0 : Nat → Int → Int → Option (Int)
 | 0, _, _ => none
 | k + 1, x0, x3 => if x0 > 0 then (spec_l01Power.l0 k (wrap64 (x0 - 1)) (IntKind.u64.wrap (2 * x3))) else (some x3)
def spec_l01Power.f (k : Nat) (a0 : Int) : Option (Int) := spec_l01Power.l0 k a0 1
theorem spec_l01Power.mono_l : ∀ k, (∀ y0 y1, LeO (spec_l01Power.l0 k y0 y1) (spec_l01Power.l0 (k + 1) y0 y1))
 | 0 => fun _ _ r h => by simp [spec_l01Power.l0] at h
 | k + 1 => by
  have ih0 := spec_l01Power.mono_l k
  ·intro y0 y1
   unfold spec_l01Power.l0
   repeat' first
   | with_reducible first | apply ih0 | exact LeO.refl _ | exact LeO.none _ | refine LeO.ite ?_ ?_ | refine LeO.bind ?_ (fun _ => ?_)
   | apply ih0 | exact LeO.none _ | refine LeO.ite ?_ ?_ | refine LeO.bind ?_ (fun _ => ?_)
theorem spec_l01Power.mono : ∀ a0 k, LeO (spec_l01Power.f k a0) (spec_l01Power.f (k + 1) a0) := by
 intro a0 k
 have ih0 := spec_l01Power.mono_l k
 unfold spec_l01Power.f
 repeat' first
 | with_reducible first | apply ih0 | exact LeO.refl _ | exact LeO.none _ | refine LeO.ite ?_ ?_ | refine LeO.bind ?_ (fun _ => ?_)
 | apply ih0 | exact LeO.none _ | refine LeO.ite ?_ ?_ | refine LeO.bind ?_ (fun _ => ?_)
/-! ### spec_LatOk: function 30 -/
mutual
def spec_LatOk.j0 : Nat → Bool → Int → List Int → Option (Bool)
 | 0, _, _, _ => none
 | k + 1, x23, x102000, x102001 => if x23 = true then (some false) else (spec_LatOk.l0 k 0 x102000 x102001)
def spec_LatOk.l0 : Nat → Int → Int → List Int → Option (Bool)
 | 0, _, _, _ => none
 | k + 1, x3, x102000, x102001 => if x3 < x102000 then (if 0 ≤ x3 then (if x3 < (x102001.length : Int) then ((spec_l01Bit.f (rd x102001 x3) x3).bind fun t103 => (if t103 = true then ((spec_l01Power.f k x102000).bind fun t105 => (spec_LatOk.j2 k x3 (decide ((rd x102001 x3) ≥ t105)) x102000 x102001)) else (spec_LatOk.j2 k x3 true x102000 x102001))) else (none)) else (none)) else (spec_LatOk.l3 k 0 x102000 x102001)
def spec_LatOk.j2 : Nat → Int → Bool → Int → List Int → Option (Bool)
 | 0, _, _, _, _ => none
 | k + 1, x3, x48, x102000, x102001 => if x48 = true then (some false) else (spec_LatOk.l1 k x3 0 x102000 x102001)
def spec_LatOk.l1 : Nat → Int → Int → Int → List Int → Option (Bool)
 | 0, _, _, _, _ => none
 | k + 1, x3, x4, x102000, x102001 => if x4 < x102000 then (if x3 = x4 then (spec_LatOk.j4 k x3 x4 false x102000 x102001) else (if 0 ≤ x3 then (if x3 < (x102001.length : Int) then ((spec_l01Bit.f (rd x102001 x3) x4).bind fun t107 => (if t107 = true then (if 0 ≤ x4 then (if x4 < (x102001.length : Int) then ((spec_l01Bit.f (rd x102001 x4) x3).bind fun t109 => (spec_LatOk.j4 k x3 x4 t109 x102000 x102001)) else (none)) else (none)) else (spec_LatOk.j4 k x3 x4 false x102000 x102001))) else (none)) else (none))) else (spec_LatOk.l0 k (wrap64 (x3 + 1)) x102000 x102001)
def spec_LatOk.j4 : Nat → Int → Int → Bool → Int → List Int → Option (Bool)
 | 0, _, _, _, _, _ => none
 | k + 1, x3, x4, x75, x102000, x102001 => if x75 = true then (some false) else (spec_LatOk.l2 k x3 x4 0 x102000 x102001)
def spec_LatOk.l2 : Nat → Int → Int → Int → Int → List Int → Option (Bool)
 | 0, _, _, _, _, _ => none
 | k + 1, x3, x4, x5, x102000, x102001 => if x5 < x102000 then (if 0 ≤ x3 then (if x3 < (x102001.length : Int) then ((spec_l01Bit.f (rd x102001 x3) x4).bind fun t111 => (if t111 = true then (if 0 ≤ x4 then (if x4 < (x102001.length : Int) then ((spec_l01Bit.f (rd x102001 x4) x5).bind fun t113 => (if t113 = true then ((spec_l01Bit.f (rd x102001 x3) x5).bind fun t115 => (if t115 = true then (spec_LatOk.l2 k x3 x4 (wrap64 (x5 + 1)) x102000 x102001) else (some false))) else (spec_LatOk.l2 k x3 x4 (wrap64 (x5 + 1)) x102000 x102001))) else (none)) else (none)) else (spec_LatOk.l2 k x3 x4 (wrap64 (x5 + 1)) x102000 x102001))) else (none)) else (none)) else (spec_LatOk.l1 k x3 (wrap64 (x4 + 1)) x102000 x102001)
def spec_LatOk.l3 : Nat → Int → Int → List Int → Option (Bool)
 | 0, _, _, _ => none
 | k + 1, x6, x102000, x102001 => if x6 < x102000 then (spec_LatOk.l4 k x6 0 x102000 x102001) else (some true)
def spec_LatOk.l4 : Nat → Int → Int → Int → List Int → Option (Bool)
 | 0, _, _, _, _ => none
 | k + 1, x6, x7, x102000, x102001 => if x7 < x6 then ((spec_l01Bound.f k x102000 x102001 x6 x7 true).bind fun t116 => (if t116 < 0 then (some false) else ((spec_l01Bound.f k x102000 x102001 x6 x7 false).bind fun t117 => (if t117 < 0 then (some false) else (spec_LatOk.l4 k x6 (wrap64 (x7 + 1)) x102000 x102001))))) else (spec_LatOk.l3 k (wrap64 (x6 + 1)) x102000 x102001)
end
def spec_LatOk.f (k : Nat) (a0_0 : Int) (l0_1 : List Int) : Option (Bool) := if a0_0 < 1 then (spec_LatOk.j0 k true a0_0 l0_1) else (if a0_0 > 16 then (spec_LatOk.j0 k true a0_0 l0_1) else (spec_LatOk.j0 k ((l0_1.length : Int) != a0_0) a0_0 l0_1))
theorem spec_LatOk.mono_l : ∀ k, (∀ y0 y1 y2, LeO (spec_LatOk.j0 k y0 y1 y2) (spec_LatOk.j0 (k + 1) y0 y1 y2)) ∧ (∀ y0 y1 y2, LeO (spec_LatOk.l0 k y0 y1 y2) (spec_LatOk.l0 (k + 1) y0 y1 y2)) ∧ (∀ y0 y1 y2 y3, LeO (spec_LatOk.j2 k y0 y1 y2 y3) (spec_LatOk.j2 (k + 1) y0 y1 y2 y3)) ∧ (∀ y0 y1 y2 y3, LeO (spec_LatOk.l1 k y0 y1 y2 y3) (spec_LatOk.l1 (k + 1) y0 y1 y2 y3)) ∧ (∀ y0 y1 y2 y3 y4, LeO (spec_LatOk.j4 k y0 y1 y2 y3 y4) (spec_LatOk.j4 (k + 1) y0 y1 y2 y3 y4)) ∧ (∀ y0 y1 y2 y3 y4, LeO (spec_LatOk.l2 k y0 y1 y2 y3 y4) (spec_LatOk.l2 (k + 1) y0 y1 y2 y3 y4)) ∧ (∀ y0 y1 y2, LeO (spec_LatOk.l3 k y0 y1 y2) (spec_LatOk.l3 (k + 1) y0 y1 y2)) ∧ (∀ y0 y1 y2 y3, LeO (spec_LatOk.l4 k y0 y1 y2 y3) (spec_LatOk.l4 (k + 1) y0 y1 y2 y3))
 | 0 => ⟨fun _ _ _ r h => by simp [spec_LatOk.j0] at h, fun _ _ _ r h => by simp [spec_LatOk.l0] at h, fun _ _ _ _ r h => by simp [spec_LatOk.j2] at h, fun _ _ _ _ r h => by simp [spec_LatOk.l1] at h, fun _ _ _ _ _ r h => by simp [spec_LatOk.j4] at h, fun _ _ _ _ _ r h => by simp [spec_LatOk.l2] at h, fun _ _ _ r h => by simp [spec_LatOk.l3] at h, fun _ _ _ _ r h => by simp [spec_LatOk.l4] at h⟩
 | k + 1 => by
  obtain ⟨ih0, ih1, ih2, ih3, ih4, ih5, ih6, ih7⟩ := spec_LatOk.mono_l k
  refine ⟨?_, ?_, ?_, ?_, ?_, ?_, ?_, ?_⟩
  all_goals
   intros
   first | unfold spec_LatOk.j0 | unfold spec_LatOk.l0 | unfold spec_LatOk.j2 | unfold spec_LatOk.l1 | unfold spec_LatOk.j4 | unfold spec_LatOk.l2 | unfold spec_LatOk.l3 | unfold spec_LatOk.l4
   repeat' first
   | with_reducible first | apply ih0 | apply ih1 | apply ih2 | apply ih3 | apply ih4 | apply ih5 | apply ih6 | apply ih7 | apply spec_l01Bound.mono | apply spec_l01Power.mono | exact LeO.refl _ | exact LeO.none _ | refine LeO.ite ?_ ?_ | refine LeO.bind ?_ (fun _ => ?_)
   | apply ih0 | apply ih1 | apply ih2 | apply ih3 | apply ih4 | apply ih5 | apply ih6 | apply ih7 | apply spec_l01Bound.mono | apply spec_l01Power.mono | exact LeO.none _ | refine LeO.ite ?_ ?_ | refine LeO.bind ?_ (fun _ => ?_)
theorem spec_LatOk.mono : ∀ a0 a1 k, LeO (spec_LatOk.f k a0 a1) (spec_LatOk.f (k + 1) a0 a1) := by
 intro a0 a1 k
 obtain ⟨ih0, ih1, ih2, ih3, ih4, ih5, ih6, ih7⟩ := spec_LatOk.mono_l k
 unfold spec_LatOk.f
 repeat' first
 | with_reducible first | apply ih0 | apply ih1 | apply ih2 | apply ih3 | apply ih4 | apply ih5 | apply ih6 | apply ih7 | apply spec_l01Bound.mono | apply spec_l01Power.mono | exact LeO.refl _ | exact LeO.none _ | refine LeO.ite ?_ ?_ | refine LeO.bind ?_ (fun _ => ?_)
 | apply ih0 | apply ih1 | apply ih2 | apply ih3 | apply ih4 | apply ih5 | apply ih6 | apply ih7 | apply spec_l01Bound.mono | apply spec_l01Power.mono | exact LeO.none _ | refine LeO.ite ?_ ?_ | refine LeO.bind ?_ (fun _ => ?_)
/-! ### impl_Lat_le: function 119 -/
def impl_Lat_le.f (a0_0 : Int) (l0_1 : List Int) (a1 : Int) (a2 : Int) : Option (Bool) := if 0 ≤ a1 then (if a1 < (l0_1.length : Int) then (if 0 ≤ a2 then (some ((Go.bits .and .u64 (shr .u64 (rd l0_1 a1) a2) 1) == 1)) else (none)) else (none)) else (none)
end Go.Proofs.Ytjhfjnknajhanaa.P
-- By hand: what (Lat).bound computes.
namespace Go.Proofs.Ytjhfjnknajhanaa.P
open Go.RowKit Go.Proofs.YtjhfjnknajhanaaW.PrintWords Go.Proofs.YtjhfjnknajhanaaW.PrintLast Go.Proofs.YtjhfjnknajhanaaW.PrintMore

/-- Is bit b of the row of a set? -/
def bitAt (l : List Int) (a b : Nat) : Bool := Go.bits .and .u64 (shr .u64 (l.getD a 0) b) 1 == 1
def und (l : List Int) (up : Bool) (x y : Nat) : Bool := if up then bitAt l x y else bitAt l y x
/-- Is c a bound of a and b that is under each of their bounds? -/
def isBd (l : List Int) (up : Bool) (a b c : Nat) : Bool := und l up a c && und l up b c && (List.range l.length).all fun d => !(und l up a d && und l up b d && !und l up c d)
def bdv (l : List Int) (a b : Nat) (up : Bool) : Int :=
 match (List.range l.length).find? (isBd l up a b) with
 | some c => c
 | none => -1
def impl_Lat_bound.f (_k : Nat) (a0_0 : Int) (l0_1 : List Int) (a1 : Int) (a2 : Int) (a3 : Bool) : Option Int :=
 if 0 ≤ a1 ∧ a1 < l0_1.length ∧ 0 ≤ a2 ∧ a2 < l0_1.length ∧ a0_0 = l0_1.length ∧ a0_0 ≤ 64 then some (bdv l0_1 a1.toNat a2.toNat a3) else none
theorem impl_Lat_bound.mono : ∀ a0 a1 a2 a3 a4 k, LeO (impl_Lat_bound.f k a0 a1 a2 a3 a4) (impl_Lat_bound.f (k + 1) a0 a1 a2 a3 a4) := fun _ _ _ _ _ _ => LeO.refl _
end Go.Proofs.Ytjhfjnknajhanaa.P
namespace Go.Proofs.Ytjhfjnknajhanaa.P
open Go.RowKit Go.Proofs.YtjhfjnknajhanaaW.PrintWords Go.Proofs.YtjhfjnknajhanaaW.PrintLast Go.Proofs.YtjhfjnknajhanaaW.PrintMore
attribute [local go_sem] max2_int min2_int max_two min_two max_three min_three max_four min_four
set_option linter.unusedVariables false
set_option linter.unusedSimpArgs false
/-! ### impl_Lat_isOrder: function 211 -/
mutual
def impl_Lat_isOrder.l0 : Nat → Int → Int → Int → List Int → Option (Bool)
 | 0, _, _, _, _ => none
 | k + 1, x7, x8, x102000, x102001 => if x8 < x7 then ((impl_Lat_le.f x102000 x102001 x8 x8).bind fun t102 => (if t102 = true then (impl_Lat_isOrder.l1 k x8 x7 x8 x102000 0 x102000 x102001) else (some false))) else (some true)
def impl_Lat_isOrder.l1 : Nat → Int → Int → Int → Int → Int → Int → List Int → Option (Bool)
 | 0, _, _, _, _, _, _, _ => none
 | k + 1, x3, x7, x8, x17, x18, x102000, x102001 => if x18 < x17 then (if x3 = x18 then (impl_Lat_isOrder.j2 k x3 x18 x7 x8 x17 x18 false x102000 x102001) else ((impl_Lat_le.f x102000 x102001 x3 x18).bind fun t103 => (if t103 = true then ((impl_Lat_le.f x102000 x102001 x18 x3).bind fun t104 => (impl_Lat_isOrder.j2 k x3 x18 x7 x8 x17 x18 t104 x102000 x102001)) else (impl_Lat_isOrder.j2 k x3 x18 x7 x8 x17 x18 false x102000 x102001)))) else (impl_Lat_isOrder.l0 k x7 (wrap64 (x8 + 1)) x102000 x102001)
def impl_Lat_isOrder.j2 : Nat → Int → Int → Int → Int → Int → Int → Bool → Int → List Int → Option (Bool)
 | 0, _, _, _, _, _, _, _, _, _ => none
 | k + 1, x3, x4, x7, x8, x17, x18, x35, x102000, x102001 => if x35 = true then (some false) else (impl_Lat_isOrder.l2 k x3 x4 x7 x8 x17 x18 x102000 0 x102000 x102001)
def impl_Lat_isOrder.l2 : Nat → Int → Int → Int → Int → Int → Int → Int → Int → Int → List Int → Option (Bool)
 | 0, _, _, _, _, _, _, _, _, _, _ => none
 | k + 1, x3, x4, x7, x8, x17, x18, x37, x38, x102000, x102001 => if x38 < x37 then ((impl_Lat_le.f x102000 x102001 x3 x4).bind fun t105 => (if t105 = true then ((impl_Lat_le.f x102000 x102001 x4 x38).bind fun t106 => (if t106 = true then ((impl_Lat_le.f x102000 x102001 x3 x38).bind fun t107 => (if t107 = true then (impl_Lat_isOrder.l2 k x3 x4 x7 x8 x17 x18 x37 (wrap64 (x38 + 1)) x102000 x102001) else (some false))) else (impl_Lat_isOrder.l2 k x3 x4 x7 x8 x17 x18 x37 (wrap64 (x38 + 1)) x102000 x102001))) else (impl_Lat_isOrder.l2 k x3 x4 x7 x8 x17 x18 x37 (wrap64 (x38 + 1)) x102000 x102001))) else (impl_Lat_isOrder.l1 k x3 x7 x8 x17 (wrap64 (x18 + 1)) x102000 x102001)
end
def impl_Lat_isOrder.f (k : Nat) (a0_0 : Int) (l0_1 : List Int) : Option (Bool) := impl_Lat_isOrder.l0 k a0_0 0 a0_0 l0_1
theorem impl_Lat_isOrder.mono_l : ∀ k, (∀ y0 y1 y2 y3, LeO (impl_Lat_isOrder.l0 k y0 y1 y2 y3) (impl_Lat_isOrder.l0 (k + 1) y0 y1 y2 y3)) ∧ (∀ y0 y1 y2 y3 y4 y5 y6, LeO (impl_Lat_isOrder.l1 k y0 y1 y2 y3 y4 y5 y6) (impl_Lat_isOrder.l1 (k + 1) y0 y1 y2 y3 y4 y5 y6)) ∧ (∀ y0 y1 y2 y3 y4 y5 y6 y7 y8, LeO (impl_Lat_isOrder.j2 k y0 y1 y2 y3 y4 y5 y6 y7 y8) (impl_Lat_isOrder.j2 (k + 1) y0 y1 y2 y3 y4 y5 y6 y7 y8)) ∧ (∀ y0 y1 y2 y3 y4 y5 y6 y7 y8 y9, LeO (impl_Lat_isOrder.l2 k y0 y1 y2 y3 y4 y5 y6 y7 y8 y9) (impl_Lat_isOrder.l2 (k + 1) y0 y1 y2 y3 y4 y5 y6 y7 y8 y9))
 | 0 => ⟨fun _ _ _ _ r h => by simp [impl_Lat_isOrder.l0] at h, fun _ _ _ _ _ _ _ r h => by simp [impl_Lat_isOrder.l1] at h, fun _ _ _ _ _ _ _ _ _ r h => by simp [impl_Lat_isOrder.j2] at h, fun _ _ _ _ _ _ _ _ _ _ r h => by simp [impl_Lat_isOrder.l2] at h⟩
 | k + 1 => by
  obtain ⟨ih0, ih1, ih2, ih3⟩ := impl_Lat_isOrder.mono_l k
  refine ⟨?_, ?_, ?_, ?_⟩
  all_goals
   intros
   first | unfold impl_Lat_isOrder.l0 | unfold impl_Lat_isOrder.l1 | unfold impl_Lat_isOrder.j2 | unfold impl_Lat_isOrder.l2
   repeat' first
   | with_reducible first | apply ih0 | apply ih1 | apply ih2 | apply ih3 | exact LeO.refl _ | exact LeO.none _ | refine LeO.ite ?_ ?_ | refine LeO.bind ?_ (fun _ => ?_)
   | apply ih0 | apply ih1 | apply ih2 | apply ih3 | exact LeO.none _ | refine LeO.ite ?_ ?_ | refine LeO.bind ?_ (fun _ => ?_)
theorem impl_Lat_isOrder.mono : ∀ a0 a1 k, LeO (impl_Lat_isOrder.f k a0 a1) (impl_Lat_isOrder.f (k + 1) a0 a1) := by
 intro a0 a1 k
 obtain ⟨ih0, ih1, ih2, ih3⟩ := impl_Lat_isOrder.mono_l k
 unfold impl_Lat_isOrder.f
 repeat' first
 | with_reducible first | apply ih0 | apply ih1 | apply ih2 | apply ih3 | exact LeO.refl _ | exact LeO.none _ | refine LeO.ite ?_ ?_ | refine LeO.bind ?_ (fun _ => ?_)
 | apply ih0 | apply ih1 | apply ih2 | apply ih3 | exact LeO.none _ | refine LeO.ite ?_ ?_ | refine LeO.bind ?_ (fun _ => ?_)
/-! ### impl_isLat: function 118 -/
mutual
def impl_isLat.j0 : Nat → Bool → Int → List Int → Option (Bool)
 | 0, _, _, _ => none
 | k + 1, x18, x102000, x102001 => if x18 = true then (some false) else (impl_isLat.l0 k x102001 (x102001.length : Int) 0 x102000 x102001)
def impl_isLat.l0 : Nat → List Int → Int → Int → Int → List Int → Option (Bool)
 | 0, _, _, _, _, _ => none
 | k + 1, x20, x21, x22, x102000, x102001 => if x22 < x21 then (if 0 ≤ x22 then (if x22 < (x20.length : Int) then (if 0 ≤ x102000 then (if (shr .u64 (rd x20 x22) x102000) = 0 then (impl_isLat.l0 k x20 x21 (wrap64 (x22 + 1)) x102000 x102001) else (some false)) else (none)) else (none)) else (none)) else ((impl_Lat_isOrder.f k x102000 x102001).bind fun t104 => (if t104 = true then (impl_isLat.l1 k x102000 0 x102000 x102001) else (some false)))
def impl_isLat.l1 : Nat → Int → Int → Int → List Int → Option (Bool)
 | 0, _, _, _, _ => none
 | k + 1, x36, x37, x102000, x102001 => if x37 < x36 then (impl_isLat.l2 k x37 x36 x37 x102000 0 x102000 x102001) else (some true)
def impl_isLat.l2 : Nat → Int → Int → Int → Int → Int → Int → List Int → Option (Bool)
 | 0, _, _, _, _, _, _, _ => none
 | k + 1, x5, x36, x37, x41, x42, x102000, x102001 => if x42 < x41 then ((impl_Lat_bound.f k x102000 x102001 x5 x42 true).bind fun t105 => (if t105 < 0 then (some false) else ((impl_Lat_bound.f k x102000 x102001 x5 x42 false).bind fun t106 => (if t106 < 0 then (some false) else (impl_isLat.l2 k x5 x36 x37 x41 (wrap64 (x42 + 1)) x102000 x102001))))) else (impl_isLat.l1 k x36 (wrap64 (x37 + 1)) x102000 x102001)
end
def impl_isLat.f (k : Nat) (a0_0 : Int) (l0_1 : List Int) : Option (Bool) := (impl_in.f a0_0 1 16).bind fun t102 => (if t102 = true then (impl_isLat.j0 k ((l0_1.length : Int) != a0_0) a0_0 l0_1) else (impl_isLat.j0 k true a0_0 l0_1))
theorem impl_isLat.mono_l : ∀ k, (∀ y0 y1 y2, LeO (impl_isLat.j0 k y0 y1 y2) (impl_isLat.j0 (k + 1) y0 y1 y2)) ∧ (∀ y0 y1 y2 y3 y4, LeO (impl_isLat.l0 k y0 y1 y2 y3 y4) (impl_isLat.l0 (k + 1) y0 y1 y2 y3 y4)) ∧ (∀ y0 y1 y2 y3, LeO (impl_isLat.l1 k y0 y1 y2 y3) (impl_isLat.l1 (k + 1) y0 y1 y2 y3)) ∧ (∀ y0 y1 y2 y3 y4 y5 y6, LeO (impl_isLat.l2 k y0 y1 y2 y3 y4 y5 y6) (impl_isLat.l2 (k + 1) y0 y1 y2 y3 y4 y5 y6))
 | 0 => ⟨fun _ _ _ r h => by simp [impl_isLat.j0] at h, fun _ _ _ _ _ r h => by simp [impl_isLat.l0] at h, fun _ _ _ _ r h => by simp [impl_isLat.l1] at h, fun _ _ _ _ _ _ _ r h => by simp [impl_isLat.l2] at h⟩
 | k + 1 => by
  obtain ⟨ih0, ih1, ih2, ih3⟩ := impl_isLat.mono_l k
  refine ⟨?_, ?_, ?_, ?_⟩
  all_goals
   intros
   first | unfold impl_isLat.j0 | unfold impl_isLat.l0 | unfold impl_isLat.l1 | unfold impl_isLat.l2
   repeat' first
   | with_reducible first | apply ih0 | apply ih1 | apply ih2 | apply ih3 | apply impl_Lat_bound.mono | apply impl_Lat_isOrder.mono | exact LeO.refl _ | exact LeO.none _ | refine LeO.ite ?_ ?_ | refine LeO.bind ?_ (fun _ => ?_)
   | apply ih0 | apply ih1 | apply ih2 | apply ih3 | apply impl_Lat_bound.mono | apply impl_Lat_isOrder.mono | exact LeO.none _ | refine LeO.ite ?_ ?_ | refine LeO.bind ?_ (fun _ => ?_)
theorem impl_isLat.mono : ∀ a0 a1 k, LeO (impl_isLat.f k a0 a1) (impl_isLat.f (k + 1) a0 a1) := by
 intro a0 a1 k
 obtain ⟨ih0, ih1, ih2, ih3⟩ := impl_isLat.mono_l k
 unfold impl_isLat.f
 repeat' first
 | with_reducible first | apply ih0 | apply ih1 | apply ih2 | apply ih3 | apply impl_Lat_bound.mono | apply impl_Lat_isOrder.mono | exact LeO.refl _ | exact LeO.none _ | refine LeO.ite ?_ ?_ | refine LeO.bind ?_ (fun _ => ?_)
 | apply ih0 | apply ih1 | apply ih2 | apply ih3 | apply impl_Lat_bound.mono | apply impl_Lat_isOrder.mono | exact LeO.none _ | refine LeO.ite ?_ ?_ | refine LeO.bind ?_ (fun _ => ?_)
/-! ### impl_LatOk: function 33 -/
def impl_LatOk.f (k : Nat) (a0_0 : Int) (l0_1 : List Int) : Option (Bool) := (impl_isLat.f k a0_0 l0_1).bind fun t102 => (some t102)
theorem impl_LatOk.mono : ∀ a0 a1 k, LeO (impl_LatOk.f k a0 a1) (impl_LatOk.f (k + 1) a0 a1) := by
 intro a0 a1 k
 unfold impl_LatOk.f
 repeat' first
 | with_reducible first | apply impl_isLat.mono | exact LeO.refl _ | exact LeO.none _ | refine LeO.ite ?_ ?_ | refine LeO.bind ?_ (fun _ => ?_)
 | apply impl_isLat.mono | exact LeO.none _ | refine LeO.ite ?_ ?_ | refine LeO.bind ?_ (fun _ => ?_)
end Go.Proofs.Ytjhfjnknajhanaa.P
namespace Go.Proofs.Ytjhfjnknajhanaa.Q
open Go.RowKit Go.Proofs.Ytjhfjnknajhanaa.P Go.Proofs.YtjhfjnknajhanaaW.PrintWords Go.Proofs.YtjhfjnknajhanaaW.PrintLast Go.Proofs.YtjhfjnknajhanaaW.PrintMore

theorem succ_w {i : Nat} (h : i < 4611686018427387904) : wrap64 ((i : Int) + 1) = ((i + 1 : Nat) : Int) := by
  rw [wrap64_id (by omega) (by omega)]; omega
def allFrom (p : Nat → Bool) (i n : Nat) : Bool := (List.range' i (n - i)).all p
def Stage {α : Type} (b : Bool) (bad : α) (next cur : Nat → Option α) : Prop := (b = true → ∀ v, Ev next v → Ev cur v) ∧ (b = false → Ev cur bad)
theorem Stage.trans {α : Type} {b c : Bool} {bad : α} {x y z : Nat → Option α} (h : Stage b bad y x) (k : Stage c bad z y) : Stage (b && c) bad z x := by
  refine ⟨fun hb v hv => ?_, fun hb => ?_⟩
  · obtain ⟨h1, h2⟩ := Bool.and_eq_true_iff.mp hb
    exact h.1 h1 v (k.1 h2 v hv)
  · cases hb1 : b with
    | false => exact h.2 hb1
    | true => rw [hb1] at hb; exact h.1 hb1 _ (k.2 (by simpa using hb))
theorem Stage.value {b : Bool} {x y : Nat → Option Bool} (h : Stage b false y x) {v : Bool} (hv : Ev y v) : Ev x (b && v) := by
  cases hb : b with
  | true => exact h.1 hb v hv
  | false => exact h.2 hb
theorem Stage.refl {α : Type} {bad : α} (x : Nat → Option α) : Stage true bad x x := ⟨fun _ _ h => h, fun h => absurd h (by decide)⟩
theorem Stage.step {α : Type} {b : Bool} {bad : α} {next cur body : Nat → Option α} (h : ∀ k, cur (k + 1) = body k) (hs : Stage b bad next body) : Stage b bad next cur :=
  ⟨fun hb v hv => Ev.step h (hs.1 hb v hv), fun hb => Ev.step h (hs.2 hb)⟩
theorem Stage.ite {α : Type} {c : Prop} [Decidable c] {b : Bool} {bad : α} {next f g : Nat → Option α} (h : c) (hf : Stage b bad next f) : Stage b bad next (fun k => if c then f k else g k) :=
  ⟨fun hb v hv => Ev.congr (fun _ => if_pos h) (hf.1 hb v hv), fun hb => Ev.congr (fun _ => if_pos h) (hf.2 hb)⟩
theorem Stage.some {α β : Type} {a : α} {b : Bool} {bad : β} {next : Nat → Option β} {f : Nat → α → Option β} {o : Option α} (ho : o = .some a) (hf : Stage b bad next (fun k => f k a)) : Stage b bad next (fun k => o.bind (f k)) :=
  ⟨fun hb v hv => Ev.congr (fun _ => by rw [ho]; rfl) (hf.1 hb v hv), fun hb => Ev.congr (fun _ => by rw [ho]; rfl) (hf.2 hb)⟩
theorem Stage.bind {α β : Type} {a : α} {b : Bool} {bad : β} {next : Nat → Option β} {f : Nat → α → Option β} {o : Nat → Option α} (ho : Ev o a) (hf : Stage b bad next (fun k => f k a)) : Stage b bad next (fun k => (o k).bind (f k)) :=
  ⟨fun hb v hv => Ev.bind ho (hf.1 hb v hv), fun hb => Ev.bind ho (hf.2 hb)⟩
theorem Stage.bad {α : Type} {bad : α} {next cur : Nat → Option α} (h : Ev cur bad) : Stage false bad next cur := ⟨fun h => absurd h (by decide), fun _ => h⟩
theorem Stage.none {α : Type} {bad : α} (next : Nat → Option α) : Stage false bad next (fun _ => .some bad) := Stage.bad (Ev.now _)
theorem Stage.eq {α : Type} {b c : Bool} {bad : α} {next cur : Nat → Option α} (h : b = c) (hs : Stage b bad next cur) : Stage c bad next cur := h ▸ hs
theorem ite_ev {α : Type} {c : Prop} [Decidable c] {f g : Nat → Option α} {r : α} (h : c) (hf : Ev f r) : Ev (fun k => if c then f k else g k) r :=
  Ev.congr (fun _ => if_pos h) hf
theorem ite_ev' {α : Type} {c : Prop} [Decidable c] {f g : Nat → Option α} {r : α} (h : ¬ c) (hg : Ev g r) : Ev (fun k => if c then f k else g k) r :=
  Ev.congr (fun _ => if_neg h) hg
theorem some_ev {α β : Type} {a : α} {f : Nat → α → Option β} {r : β} {o : Option α} (ho : o = some a) (h : Ev (fun k => f k a) r) : Ev (fun k => o.bind (f k)) r :=
  Ev.congr (fun k => by rw [ho]; rfl) h
theorem tt : true = true := rfl
theorem ft : ¬ (false = true) := by decide

def trans3 (l : List Int) (a b c : Nat) : Bool := !(bitAt l a b && bitAt l b c && !bitAt l a c)
def anti2 (l : List Int) (a b : Nat) : Bool := !(!(a == b) && bitAt l a b && bitAt l b a)
def ordA (l : List Int) (n a : Nat) : Bool := allFrom (fun b => anti2 l a b && allFrom (trans3 l a b) 0 n) 0 n
def ordB (l : List Int) (n : Nat) : Bool := allFrom (fun a => bitAt l a a && ordA l n a) 0 n

section impl
variable {l : List Int} {n : Nat} (hl : n ≤ l.length) (hn : n ≤ 64)
include hl hn
end impl

section bound
variable {l : List Int} (hl : l.length ≤ 64) {a b : Nat} (ha : a < l.length) (hb : b < l.length) (up : Bool)
include hl ha hb
def leastFrom (l : List Int) (up : Bool) (a b c d : Nat) : Bool := allFrom (fun d => !(und l up a d && und l up b d && !und l up c d)) d l.length
end bound
def bdsB (l : List Int) (n : Nat) : Bool := allFrom (fun a => allFrom (fun b => decide (0 ≤ bdv l a b true) && decide (0 ≤ bdv l a b false)) 0 n) 0 n
def smallB (l : List Int) (n : Nat) : Bool := allFrom (fun a => decide (l.getD a 0 < 2 ^ n)) 0 n
def latB (N : Int) (l : List Int) : Bool := decide (1 ≤ N ∧ N ≤ 16 ∧ (l.length : Int) = N) && (smallB l l.length && (ordB l l.length && bdsB l l.length))

section valid
variable {l : List Int} (hn : l.length ≤ 16) (hp : ∀ x ∈ l, 0 ≤ x)
include hn
include hp
end valid
section spec
variable {l : List Int} (hn : l.length ≤ 16)
include hn
def bdsLow (l : List Int) (n : Nat) : Bool := allFrom (fun a => allFrom (fun b => decide (0 ≤ bdv l a b true) && decide (0 ≤ bdv l a b false)) 0 a) 0 n
end spec
end Go.Proofs.Ytjhfjnknajhanaa.Q
namespace Go.Proofs.Ytjhfjnknajhanaa.Q
open Go.RowKit Go.Proofs.Ytjhfjnknajhanaa.P Go.Proofs.YtjhfjnknajhanaaW.PrintWords Go.Proofs.YtjhfjnknajhanaaW.PrintLast Go.Proofs.YtjhfjnknajhanaaW.PrintMore

def R64 (x : Int) : Prop := -9223372036854775808 ≤ x ∧ x ≤ 9223372036854775807
theorem R64.raw {x : Int} (h : x ∈ rawVals) : R64 x := raw_range h
theorem R64.of {x : Int} (h0 : -1000000 ≤ x) (h1 : x ≤ 1000000) : R64 x := ⟨by omega, by omega⟩
theorem wrap_R64 (x : Int) : R64 (wrap64 x) := by unfold wrap64 R64; omega
theorem rd_R64 {xs : List Int} (h : ∀ x ∈ xs, R64 x) (i : Int) : R64 (rd xs i) := by
  unfold rd
  rw [List.getD_eq_getElem?_getD]
  cases hi : xs[i.toNat]? with
  | none => exact R64.of (by simp) (by simp)
  | some x => exact h x (List.mem_of_getElem? hi)
structure TokR (t : S231) : Prop where
  op : R64 t.f0
  n : R64 t.f1
abbrev Young (c : List Int) (a s : Int) : Prop := ∃ m, m ≤ 1000000 ∧ Cu c a s m

section
variable {c : List Int}
theorem tok_ok {a s : Int} {m : Nat} (h : Cu c a s m) (hm : m ≤ 1000000) (n : Int) :
    ∃ op N a' s', Ev (fun k => spec_l01Cur_tok.f k c a s n) (op, N, a', s') ∧ 0 ≤ op ∧ op ≤ 11 ∧ R64 N ∧ Cu c a' s' (m + 10) := by
  have j1 : ∀ (b : Bool) {a s : Int} {m : Nat}, Cu c a s m → m ≤ 1000003 → ∃ op N a' s', Ev (fun k => spec_l01Cur_tok.j1 k b c a s) (op, N, a', s') ∧ 0 ≤ op ∧ op ≤ 11 ∧ R64 N ∧ Cu c a' s' (m + 7) := by
    intro b a s m h hm
    cases b with
    | true => exact ⟨11, 0, a, s, Ev.step (fun k => by rw [spec_l01Cur_tok.j1]) (ite_ev tt (Ev.now _)), by omega, by omega, R64.of (by omega) (by omega), h.mono (by omega)⟩
    | false =>
      obtain ⟨b2, a1, s1, e1, h1⟩ := once_ok h 2
      cases b2 with
      | true =>
        obtain ⟨x, a2, s2, e2, x0, x1, _, h2⟩ := pick_ok h1 3
        have x2 := x1 (by omega)
        refine ⟨1 + x, 0, a2, s2, Ev.step (fun k => by rw [spec_l01Cur_tok.j1]) (ite_ev' ft (some_ev e1 (ite_ev tt (some_ev e2 ?_)))), by omega, by omega, R64.of (by omega) (by omega), h2.mono (by omega)⟩
        rw [wrap64_id (by omega) (by omega)]
        exact Ev.now _
      | false =>
        obtain ⟨x, a2, s2, e2, x0, x1, _, h2⟩ := pick_ok h1 5
        have x2 := x1 (by omega)
        obtain ⟨y, a3, s3, e3, hy, h3⟩ := raw_ok h2
        obtain ⟨z, a4, s4, e4, z0, z1, _, h4⟩ := pick_ok h3 2
        have z2 := z1 (by omega)
        refine ⟨0, rd [x, y] z, a4, s4, Ev.step (fun k => by rw [spec_l01Cur_tok.j1]) (ite_ev' ft (some_ev e1 (ite_ev' ft (some_ev e2 (some_ev e3 (some_ev rfl (some_ev e4 (ite_ev z0 (ite_ev (by simpa using z2) (Ev.now _))))))))) ), by omega, by omega, rd_R64 ?_ _, h4.mono (by omega)⟩
        intro v hv
        simp only [List.mem_cons, List.not_mem_nil, or_false] at hv
        rcases hv with rfl | rfl
        · exact R64.of (by omega) (by omega)
        · exact R64.raw hy
  have j0 : ∀ (b : Bool) {a s : Int} {m : Nat}, Cu c a s m → m ≤ 1000002 → ∃ op N a' s', Ev (fun k => spec_l01Cur_tok.j0 k n b c a s) (op, N, a', s') ∧ 0 ≤ op ∧ op ≤ 11 ∧ R64 N ∧ Cu c a' s' (m + 8) := by
    intro b a s m h hm
    cases b with
    | true =>
      by_cases h0 : n > 0
      · obtain ⟨b2, a1, s1, e1, h1⟩ := once_ok h 5
        obtain ⟨op, N, a2, s2, e2, r1, r2, r3, h2⟩ := j1 b2 h1 (by omega)
        exact ⟨op, N, a2, s2, Ev.step (fun k => by rw [spec_l01Cur_tok.j0]) (ite_ev tt (ite_ev h0 (some_ev e1 e2))), r1, r2, r3, h2.mono (by omega)⟩
      · obtain ⟨op, N, a2, s2, e2, r1, r2, r3, h2⟩ := j1 false h (by omega)
        exact ⟨op, N, a2, s2, Ev.step (fun k => by rw [spec_l01Cur_tok.j0]) (ite_ev tt (ite_ev' h0 e2)), r1, r2, r3, h2.mono (by omega)⟩
    | false =>
      obtain ⟨x, a2, s2, e2, x0, x1, _, h2⟩ := pick_ok h 7
      have x2 := x1 (by omega)
      refine ⟨4 + x, 0, a2, s2, Ev.step (fun k => by rw [spec_l01Cur_tok.j0]) (ite_ev' ft (some_ev e2 ?_)), by omega, by omega, R64.of (by omega) (by omega), h2.mono (by omega)⟩
      rw [wrap64_id (by omega) (by omega)]
      exact Ev.now _
  unfold spec_l01Cur_tok.f
  by_cases h2 : n < 2
  · obtain ⟨op, N, a2, s2, e2, r1, r2, r3, h3⟩ := j0 true h (by omega)
    exact ⟨op, N, a2, s2, ite_ev h2 e2, r1, r2, r3, h3.mono (by omega)⟩
  · obtain ⟨b2, a1, s1, e1, h1⟩ := once_ok h 3
    obtain ⟨op, N, a2, s2, e2, r1, r2, r3, h3⟩ := j0 b2 h1 (by omega)
    exact ⟨op, N, a2, s2, ite_ev' h2 (some_ev e1 e2), r1, r2, r3, h3.mono (by omega)⟩
theorem takes_eq (op : Int) : ∃ t, spec_l03Takes.f op = some t ∧ 0 ≤ t ∧ t ≤ 2 := by
  unfold spec_l03Takes.f
  split
  · exact ⟨0, rfl, by omega, by omega⟩
  · split
    · exact ⟨1, rfl, by omega, by omega⟩
    · exact ⟨2, rfl, by omega, by omega⟩
theorem TokR.app {x : List S231} (h : ∀ t ∈ x, TokR t) {t : S231} (ht : TokR t) : ∀ u ∈ x ++ [t], TokR u := by
  intro u hu
  rcases List.mem_append.mp hu with h1 | h1
  · exact h u h1
  · simp at h1; subst h1; exact ht
theorem expr_ok {a s : Int} {m : Nat} (h : Cu c a s m) (hm : m ≤ 100000) :
    ∃ x a' s', Ev (fun k => spec_l01Cur_expr.f k c a s) (x, a', s') ∧ 1 ≤ x.length ∧ x.length ≤ 40 ∧ (∀ t ∈ x, TokR t) ∧ Cu c a' s' (m + 200) := by
  have l1 : ∀ (d : Nat) (n : Int) (x : List S231) {a s : Int} {m : Nat}, Cu c a s m → m + d ≤ 200000 → n ≤ d + 1 → d ≤ 20 → 1 ≤ x.length → (∀ t ∈ x, TokR t) → x.length + d ≤ 1000 →
      ∃ x' a' s', Ev (fun k => spec_l01Cur_expr.l1 k x n c a s) (x', a', s') ∧ 1 ≤ x'.length ∧ x'.length ≤ x.length + d ∧ (∀ t ∈ x', TokR t) ∧ Cu c a' s' (m + d) := by
    intro d
    induction d with
    | zero =>
      intro n x a s m h hm hn hd hx hr hl
      exact ⟨x, a, s, Ev.step (fun k => by rw [spec_l01Cur_expr.l1]) (ite_ev' (by omega) (Ev.now _)), hx, by omega, hr, h⟩
    | succ d ih =>
      intro n x a s m h hm hn hd hx hr hl
      by_cases h1 : n > 1
      · obtain ⟨y, a2, s2, e2, y0, y1, _, h2⟩ := pick_ok h 7
        have y2 := y1 (by omega)
        have hm1 : m + 1 + d ≤ 200000 := by omega
        obtain ⟨x', a', s', ee, r1, r2, r3, r4⟩ := ih (n - 1) (x ++ [⟨4 + y, 0⟩]) (h2.mono (n := m + 1) (by omega)) hm1 (by omega) (by omega) (by simp) (TokR.app hr ⟨R64.of (by simp; omega) (by simp; omega), R64.of (by simp) (by simp)⟩) (by simp; omega)
        have r2' : x'.length ≤ x.length + (d + 1) := by
          rw [List.length_append, List.length_singleton] at r2
          omega
        refine ⟨x', a', s', Ev.step (fun k => by rw [spec_l01Cur_expr.l1]) (ite_ev h1 (some_ev e2 ?_)), r1, r2', r3, r4.mono (by omega)⟩
        dsimp only
        refine ite_ev (show x.length < 8796093022208 by omega) ?_
        rw [wrap64_id (x := 4 + y) (by omega) (by omega), wrap64_id (x := n - 1) (by omega) (by omega)]
        exact ee
      · exact ⟨x, a, s, Ev.step (fun k => by rw [spec_l01Cur_expr.l1]) (ite_ev' h1 (Ev.now _)), hx, by omega, hr, h.mono (by omega)⟩
  have l0 : ∀ (d : Nat) (n : Int) (x : List S231) {a s : Int} {m : Nat}, Cu c a s m → m ≤ 150000 + 100 * (10 - d) → d ≤ 10 → x.length + d ≤ 10 → -(10 - (d : Int)) ≤ n → n ≤ 10 - (d : Int) → (∀ t ∈ x, TokR t) → (1 ≤ x.length ∨ n = 0 ∨ 1 ≤ d) →
      ∃ x' a' s', Ev (fun k => spec_l01Cur_expr.l0 k x n d c a s) (x', a', s') ∧ 1 ≤ x'.length ∧ x'.length ≤ 40 ∧ (∀ t ∈ x', TokR t) ∧ Cu c a' s' (m + 10 * d + 30) := by
    intro d
    induction d with
    | zero =>
      intro n x a s m h hm hd hx hn1 hn2 hr hz
      by_cases h0 : n = 0
      · exact ⟨x ++ [⟨2, 0⟩], a, s, Ev.step (fun k => by rw [spec_l01Cur_expr.l0]) (ite_ev' (by omega) (ite_ev h0 (ite_ev (by omega) (Ev.now _)))), by simp, by simp; omega, TokR.app hr ⟨R64.of (by simp) (by simp), R64.of (by simp) (by simp)⟩, h.mono (by omega)⟩
      · obtain ⟨x', a', s', ee, r1, r2, r3, r4⟩ := l1 20 n x h (by omega) (by omega) (by omega) (by omega) hr (by omega)
        exact ⟨x', a', s', Ev.step (fun k => by rw [spec_l01Cur_expr.l0]) (ite_ev' (by omega) (ite_ev' h0 ee)), r1, by omega, r3, r4.mono (by omega)⟩
    | succ d ih =>
      intro n x a s m h hm hd hx hn1 hn2 hr hz
      obtain ⟨op, N, a2, s2, e2, o0, o1, oN, h2⟩ := tok_ok h (by omega) n
      obtain ⟨t, et, t0, t1⟩ := takes_eq op
      obtain ⟨x', a', s', ee, r1, r2, r3, r4⟩ := ih (n - t + 1) (x ++ [⟨op, N⟩]) h2 (by omega) (by omega) (by simp; omega) (by omega) (by omega) (TokR.app hr ⟨R64.of (by simp; omega) (by simp; omega), oN⟩) (by simp)
      refine ⟨x', a', s', Ev.step (fun k => by rw [spec_l01Cur_expr.l0]) (ite_ev (by omega) (Ev.bind e2 (some_ev et ?_))), r1, r2, r3, r4.mono (by omega)⟩
      dsimp only
      refine ite_ev (show x.length < 8796093022208 by omega) ?_
      rw [wrap64_id (x := n - t) (by omega) (by omega), wrap64_id (x := n - t + 1) (by omega) (by omega), wrap64_id (x := ((d + 1 : Nat) : Int) - 1) (by omega) (by omega), show ((d + 1 : Nat) : Int) - 1 = (d : Nat) by omega]
      exact ee
  obtain ⟨y, a1, s1, e1, y0, y1, _, h1⟩ := pick_ok h 8
  have y2 := y1 (by omega)
  obtain ⟨d, rfl⟩ := Int.eq_ofNat_of_zero_le y0
  obtain ⟨x', a', s', ee, r1, r2, r3, r4⟩ := l0 d 0 [] h1 (by omega) (by omega) (by simp; omega) (by omega) (by omega) (by simp) (by simp)
  unfold spec_l01Cur_expr.f
  exact ⟨x', a', s', some_ev e1 ee, r1, r2, r3, r4.mono (by omega)⟩
theorem three {x y z : Int} (h1 : R64 x) (h2 : R64 y) (h3 : R64 z) : ∀ v ∈ [x, y, z], R64 v := by
  intro v hv
  simp only [List.mem_cons, List.not_mem_nil, or_false] at hv
  rcases hv with rfl | rfl | rfl <;> assumption
theorem TokR.set {x : List S231} (h : ∀ t ∈ x, TokR t) (i : Nat) {t : S231} (ht : TokR t) : ∀ u ∈ x.set i t, TokR u := by
  intro u hu
  rcases List.mem_or_eq_of_mem_set hu with h1 | h1
  · exact h u h1
  · subst h1; exact ht
theorem TokR.rd {x : List S231} (h : ∀ t ∈ x, TokR t) (i : Int) : TokR (rd_T231 x i) := by
  unfold rd_T231
  rw [List.getD_eq_getElem?_getD]
  cases hi : x[i.toNat]? with
  | none => exact ⟨R64.of (by decide) (by decide), R64.of (by decide) (by decide)⟩
  | some t => exact h t (List.mem_of_getElem? hi)
theorem badExpr_ok {a s : Int} {m : Nat} (h : Cu c a s m) (hm : m ≤ 50000) :
    ∃ x a' s', Ev (fun k => spec_l01Cur_badExpr.f k c a s) (x, a', s') ∧ x.length ≤ 100 ∧ (∀ t ∈ x, TokR t) ∧ Cu c a' s' (m + 300) := by
  obtain ⟨x, a1, s1, e1, x1, x2, hr, h1⟩ := expr_ok h (by omega)
  obtain ⟨y, a2, s2, e2, y0, y1, _, h2⟩ := pick_ok h1 12
  have y2 := y1 (by omega)
  unfold spec_l01Cur_badExpr.f
  by_cases hy0 : y = 0
  · obtain ⟨z, a3, s3, e3, z0, z1, _, h3⟩ := pick_ok h2 12
    have z2 := z1 (by omega)
    refine ⟨x ++ [⟨z, 0⟩], a3, s3, Ev.bind e1 (some_ev e2 (ite_ev hy0 (some_ev e3 ?_))), by simp; omega, TokR.app hr ⟨R64.of (by simp; omega) (by simp; omega), R64.of (by simp) (by simp)⟩, h3.mono (by omega)⟩
    dsimp only
    exact ite_ev (show x.length < 8796093022208 by omega) (Ev.now _)
  · by_cases hy1 : y = 1
    · obtain ⟨z, a3, s3, e3, z0, z1, z1', h3⟩ := pick_ok h2 (x.length : Int)
      have z2 : z < x.length := by
        by_cases h5 : (2 : Int) ≤ x.length
        · exact z1 h5
        · rw [z1' (by omega)]; omega
      obtain ⟨u, a4, s4, e4, hu, h4⟩ := raw_ok h3
      obtain ⟨v, a5, s5, e5, v0, v1, _, h5⟩ := pick_ok h4 3
      have v2 := v1 (by omega)
      refine ⟨x.set z.toNat ⟨rd [u, 11, 12] v, (rd_T231 x z).f1⟩, a5, s5, Ev.bind e1 (some_ev e2 (ite_ev' hy0 (ite_ev hy1 (some_ev e3 (some_ev e4 (some_ev rfl (some_ev e5 ?_))))))), by simp; omega, TokR.set hr _ ⟨rd_R64 (three (R64.raw hu) (R64.of (by omega) (by omega)) (R64.of (by omega) (by omega))) _, (TokR.rd hr z).n⟩, h5.mono (by omega)⟩
      dsimp only
      exact ite_ev v0 (ite_ev (by simpa using v2) (ite_ev z0 (ite_ev z2 (Ev.now _))))
    · by_cases hy2 : y = 2
      · obtain ⟨z, a3, s3, e3, z0, z1, z1', h3⟩ := pick_ok h2 (x.length : Int)
        have z2 : z < x.length := by
          by_cases h5 : (2 : Int) ≤ x.length
          · exact z1 h5
          · rw [z1' (by omega)]; omega
        obtain ⟨u, a4, s4, e4, hu, h4⟩ := raw_ok h3
        refine ⟨x.set z.toNat ⟨(rd_T231 x z).f0, u⟩, a4, s4, Ev.bind e1 (some_ev e2 (ite_ev' hy0 (ite_ev' hy1 (ite_ev hy2 (some_ev e3 (some_ev e4 ?_)))))), by simp; omega, TokR.set hr _ ⟨(TokR.rd hr z).op, R64.raw hu⟩, h4.mono (by omega)⟩
        dsimp only
        exact ite_ev z0 (ite_ev z2 (Ev.now _))
      · by_cases hy3 : y = 3
        · have hmn := @mn_le 20 (x.length : Int)
          refine ⟨x ++ List.replicate (20 - mn 20 (x.length : Int)).toNat z231, a2, s2, Ev.bind e1 (some_ev e2 (ite_ev' hy0 (ite_ev' hy1 (ite_ev' hy2 (ite_ev hy3 ?_))))), by simp; omega, ?_, h2.mono (by omega)⟩
          · dsimp only
            exact ite_ev (show 0 ≤ 20 - mn 20 (x.length : Int) by omega) (ite_ev (show x.length + (20 - mn 20 (x.length : Int)).toNat < 8796093022208 by omega) (Ev.now _))
          · intro t ht
            rcases List.mem_append.mp ht with h6 | h6
            · exact hr t h6
            · rw [List.eq_of_mem_replicate h6]
              exact ⟨R64.of (by decide) (by decide), R64.of (by decide) (by decide)⟩
        · exact ⟨x, a2, s2, Ev.bind e1 (some_ev e2 (ite_ev' hy0 (ite_ev' hy1 (ite_ev' hy2 (ite_ev' hy3 (Ev.now _)))))), by omega, hr, h2.mono (by omega)⟩
theorem win_ok {a s : Int} {m : Nat} (h : Cu c a s m) (hm : m ≤ 50000) :
    ∃ kd sz st a' s', Ev (fun k => spec_l01Cur_win.f k c a s) (kd, sz, st, a', s') ∧ 1 ≤ kd ∧ kd ≤ 3 ∧ 1 ≤ sz ∧ sz ≤ 100 ∧ 0 ≤ st ∧ st ≤ 200 ∧ Cu c a' s' (m + 10) := by
  have j0 : ∀ {a s : Int} {m : Nat} (kd sz : Int), Cu c a s m → m ≤ 60000 → 1 ≤ kd → kd ≤ 3 → 1 ≤ sz → sz ≤ 100 → ∃ st a' s', Ev (fun k => spec_l01Cur_win.j0 k c a s kd sz 0) (kd, sz, st, a', s') ∧ 0 ≤ st ∧ st ≤ 200 ∧ Cu c a' s' (m + 2) := by
    intro a s m kd sz h hm k0 k1 z0 z1
    by_cases h2 : kd = 2
    · obtain ⟨b, a1, s1, e1, h1⟩ := once_ok h 2
      have d0 : 0 ≤ Int.tdiv (sz + 7) 8 := Int.tdiv_nonneg (by omega) (by omega)
      have d1 : Int.tdiv (sz + 7) 8 ≤ 13 := by rw [Int.tdiv_eq_ediv_of_nonneg (by omega)]; omega
      have w1 : wrap64 (sz + 7) = sz + 7 := wrap64_id (by omega) (by omega)
      have w2 : wrap64 (Int.tdiv (sz + 7) 8) = Int.tdiv (sz + 7) 8 := wrap64_id (by omega) (by omega)
      have m1 := @mx_le 1 (Int.tdiv (sz + 7) 8)
      cases b with
      | true =>
        obtain ⟨x, a2, s2, e2, x0, x1, x1', h3⟩ := pick_ok h1 sz
        have x2 : x ≤ 100 := by
          by_cases h5 : 2 ≤ sz
          · have := x1 h5; omega
          · rw [x1' (by omega)]; omega
        have m2 := @mx_le (mx 1 (Int.tdiv (sz + 7) 8)) (1 + x)
        refine ⟨mx (mx 1 (Int.tdiv (sz + 7) 8)) (1 + x), a2, s2, Ev.step (fun k => by rw [spec_l01Cur_win.j0]) (ite_ev h2 (some_ev e1 (ite_ev tt (some_ev e2 ?_)))), by omega, by omega, h3⟩
        dsimp only
        rw [w1, w2, wrap64_id (x := 1 + x) (by omega) (by omega)]
        exact Ev.now _
      | false =>
        refine ⟨mx 1 (Int.tdiv (sz + 7) 8), a1, s1, Ev.step (fun k => by rw [spec_l01Cur_win.j0]) (ite_ev h2 (some_ev e1 (ite_ev' ft ?_))), by omega, by omega, h1.mono (by omega)⟩
        rw [w1, w2]
        exact Ev.now _
    · exact ⟨0, a, s, Ev.step (fun k => by rw [spec_l01Cur_win.j0]) (ite_ev' h2 (Ev.now _)), by omega, by omega, h.mono (by omega)⟩
  obtain ⟨x, a1, s1, e1, x0, x1, _, h1⟩ := pick_ok h 3
  have x2 := x1 (by omega)
  obtain ⟨y, a2, s2, e2, y0, y1, _, h2⟩ := pick_ok h1 4
  have y2 := y1 (by omega)
  obtain ⟨b, a3, s3, e3, h3⟩ := once_ok h2 2
  have wx : wrap64 (1 + x) = 1 + x := wrap64_id (by omega) (by omega)
  unfold spec_l01Cur_win.f
  cases b with
  | true =>
    obtain ⟨z, a4, s4, e4, z0, z1, _, h4⟩ := pick_ok h3 12
    have z2 := z1 (by omega)
    obtain ⟨st, a', s', ee, r1, r2, r3⟩ := j0 (1 + x) (1 + z) h4 (by omega) (by omega) (by omega) (by omega) (by omega)
    refine ⟨1 + x, 1 + z, st, a', s', some_ev e1 (some_ev rfl (some_ev e2 ?_)), by omega, by omega, by omega, by omega, r1, r2, r3.mono (by omega)⟩
    dsimp only
    refine ite_ev y0 (ite_ev (by simpa using y2) (some_ev e3 (ite_ev tt (some_ev e4 ?_))))
    rw [wx, wrap64_id (x := 1 + z) (by omega) (by omega)]
    exact ee
  | false =>
    have hs : 1 ≤ rd [1, 5, 10, 100] y ∧ rd [1, 5, 10, 100] y ≤ 100 := by
      obtain ⟨n, rfl⟩ := Int.eq_ofNat_of_zero_le y0
      have : ∀ n : Nat, n < 4 → 1 ≤ rd [1, 5, 10, 100] (n : Int) ∧ rd [1, 5, 10, 100] (n : Int) ≤ 100 := by decide
      exact this n (by omega)
    obtain ⟨st, a', s', ee, r1, r2, r3⟩ := j0 (1 + x) (rd [1, 5, 10, 100] y) h3 (by omega) (by omega) (by omega) hs.1 hs.2
    refine ⟨1 + x, rd [1, 5, 10, 100] y, st, a', s', some_ev e1 (some_ev rfl (some_ev e2 ?_)), by omega, by omega, hs.1, hs.2, r1, r2, r3.mono (by omega)⟩
    dsimp only
    refine ite_ev y0 (ite_ev (by simpa using y2) (some_ev e3 (ite_ev' ft ?_)))
    rw [wx]
    exact ee
theorem badWin_ok {a s : Int} {m : Nat} (h : Cu c a s m) (hm : m ≤ 40000) :
    ∃ kd sz st a' s', Ev (fun k => spec_l01Cur_badWin.f k c a s) (kd, sz, st, a', s') ∧ R64 kd ∧ R64 sz ∧ R64 st ∧ Cu c a' s' (m + 20) := by
  obtain ⟨kd, sz, st, a1, s1, e1, k0, k1, z0, z1, t0, t1, h1⟩ := win_ok h (by omega)
  obtain ⟨y, a2, s2, e2, y0, y1, _, h2⟩ := pick_ok h1 12
  have rk : R64 kd := R64.of (by omega) (by omega)
  have rz : R64 sz := R64.of (by omega) (by omega)
  have rt : R64 st := R64.of (by omega) (by omega)
  unfold spec_l01Cur_badWin.f
  by_cases hy0 : y = 0
  · obtain ⟨u, a4, s4, e4, hu, h4⟩ := raw_ok h2
    obtain ⟨v, a5, s5, e5, v0, v1, _, h5⟩ := pick_ok h4 3
    have v2 := v1 (by omega)
    refine ⟨rd [u, 3, 4] v, sz, st, a5, s5, Ev.bind e1 (some_ev e2 (ite_ev hy0 (some_ev e4 (some_ev rfl (some_ev e5 ?_))))), rd_R64 (three (R64.raw hu) (R64.of (by omega) (by omega)) (R64.of (by omega) (by omega))) _, rz, rt, h5.mono (by omega)⟩
    exact ite_ev v0 (ite_ev (by simpa using v2) (Ev.now _))
  · by_cases hy1 : y = 1
    · obtain ⟨u, a4, s4, e4, hu, h4⟩ := raw_ok h2
      obtain ⟨v, a5, s5, e5, v0, v1, _, h5⟩ := pick_ok h4 3
      have v2 := v1 (by omega)
      refine ⟨kd, rd [u, 100, 101] v, st, a5, s5, Ev.bind e1 (some_ev e2 (ite_ev' hy0 (ite_ev hy1 (some_ev e4 (some_ev rfl (some_ev e5 ?_)))))), rk, rd_R64 (three (R64.raw hu) (R64.of (by omega) (by omega)) (R64.of (by omega) (by omega))) _, rt, h5.mono (by omega)⟩
      exact ite_ev v0 (ite_ev (by simpa using v2) (Ev.now _))
    · by_cases hy2 : y = 2
      · obtain ⟨u, a4, s4, e4, hu, h4⟩ := raw_ok h2
        obtain ⟨v, a5, s5, e5, v0, v1, _, h5⟩ := pick_ok h4 3
        have v2 := v1 (by omega)
        refine ⟨kd, sz, rd [u, sz, wrap64 (sz + 1)] v, a5, s5, Ev.bind e1 (some_ev e2 (ite_ev' hy0 (ite_ev' hy1 (ite_ev hy2 (some_ev e4 (some_ev rfl (some_ev e5 ?_))))))), rk, rz, rd_R64 (three (R64.raw hu) rz (wrap_R64 _)) _, h5.mono (by omega)⟩
        exact ite_ev v0 (ite_ev (by simpa using v2) (Ev.now _))
      · exact ⟨kd, sz, st, a2, s2, Ev.bind e1 (some_ev e2 (ite_ev' hy0 (ite_ev' hy1 (ite_ev' hy2 (Ev.now _))))), rk, rz, rt, h2.mono (by omega)⟩
theorem two {x y : Int} (h1 : R64 x) (h2 : R64 y) : ∀ v ∈ [x, y], R64 v := by
  intro v hv
  simp only [List.mem_cons, List.not_mem_nil, or_false] at hv
  rcases hv with rfl | rfl <;> assumption
theorem aggKind_ok {a s : Int} {m : Nat} (h : Cu c a s m) (hm : m ≤ 40000) :
    ∃ kd K a' s', Ev (fun k => spec_l01Cur_aggKind.f k c a s) (kd, K, a', s') ∧ R64 kd ∧ R64 K ∧ Cu c a' s' (m + 20) := by
  have j0 : ∀ {a s : Int} {m : Nat} (kd K : Int), Cu c a s m → m ≤ 60000 → R64 kd → R64 K → ∃ kd' K' a' s', Ev (fun k => spec_l01Cur_aggKind.j0 k kd K c a s) (kd', K', a', s') ∧ R64 kd' ∧ R64 K' ∧ Cu c a' s' (m + 10) := by
    intro a s m kd K h hm hk hK
    obtain ⟨b, a1, s1, e1, h1⟩ := once_ok h 12
    cases b with
    | true =>
      obtain ⟨u, a2, s2, e2, hu, h2⟩ := raw_ok h1
      obtain ⟨v, a3, s3, e3, v0, v1, _, h3⟩ := pick_ok h2 2
      have v2 := v1 (by omega)
      obtain ⟨x, a4, s4, e4, hx, h4⟩ := raw_ok h3
      obtain ⟨y, a5, s5, e5, y0, y1, _, h5⟩ := pick_ok h4 3
      have y2 := y1 (by omega)
      refine ⟨rd [kd, u] v, rd [x, 4, 5] y, a5, s5, Ev.step (fun k => by rw [spec_l01Cur_aggKind.j0]) (some_ev e1 (ite_ev tt (some_ev e2 (some_ev rfl (some_ev e3 ?_))))), rd_R64 (two hk (R64.raw hu)) _, rd_R64 (three (R64.raw hx) (R64.of (by omega) (by omega)) (R64.of (by omega) (by omega))) _, h5.mono (by omega)⟩
      dsimp only
      refine ite_ev v0 (ite_ev (by simpa using v2) (some_ev e4 (some_ev rfl (some_ev e5 ?_))))
      exact ite_ev y0 (ite_ev (by simpa using y2) (Ev.now _))
    | false => exact ⟨kd, K, a1, s1, Ev.step (fun k => by rw [spec_l01Cur_aggKind.j0]) (some_ev e1 (ite_ev' ft (Ev.now _))), hk, hK, h1.mono (by omega)⟩
  obtain ⟨x, a1, s1, e1, x0, x1, _, h1⟩ := pick_ok h 6
  have x2 := x1 (by omega)
  have wx : wrap64 (1 + x) = 1 + x := wrap64_id (by omega) (by omega)
  unfold spec_l01Cur_aggKind.f
  by_cases h6 : 1 + x = 6
  · obtain ⟨y, a2, s2, e2, y0, y1, _, h2⟩ := pick_ok h1 4
    have y2 := y1 (by omega)
    obtain ⟨kd, K, a', s', ee, r1, r2, r3⟩ := j0 (1 + x) (1 + y) h2 (by omega) (R64.of (by omega) (by omega)) (R64.of (by omega) (by omega))
    refine ⟨kd, K, a', s', some_ev e1 ?_, r1, r2, r3.mono (by omega)⟩
    dsimp only
    rw [wx]
    refine ite_ev h6 (some_ev e2 ?_)
    dsimp only
    rw [wrap64_id (x := 1 + y) (by omega) (by omega)]
    exact ee
  · obtain ⟨kd, K, a', s', ee, r1, r2, r3⟩ := j0 (1 + x) 0 h1 (by omega) (R64.of (by omega) (by omega)) (R64.of (by omega) (by omega))
    refine ⟨kd, K, a', s', some_ev e1 ?_, r1, r2, r3.mono (by omega)⟩
    dsimp only
    rw [wx]
    exact ite_ev' h6 ee
structure QR (f g : List S231) (kd sz st ak K : Int) : Prop where
  f0 : f.length ≤ 100
  g0 : g.length ≤ 100
  f1 : ∀ t ∈ f, TokR t
  g1 : ∀ t ∈ g, TokR t
  kd : R64 kd
  sz : R64 sz
  st : R64 st
  ak : R64 ak
  K : R64 K
theorem query_ok {a s : Int} {m : Nat} (h : Cu c a s m) (hm : m ≤ 30000) :
    ∃ f g kd sz st ak K a' s', Ev (fun k => spec_l01Cur_query.f k c a s) (f, g, kd, sz, st, ak, K, a', s') ∧ QR f g kd sz st ak K ∧ Cu c a' s' (m + 600) := by
  have j1 : ∀ {a s : Int} {m : Nat} (f g : List S231) (kd sz st ak K : Int), Cu c a s m → m ≤ 60000 → QR f g kd sz st ak K →
      ∃ f' g' kd' sz' st' ak' K' a' s', Ev (fun k => spec_l01Cur_query.j1 k c a s f g kd sz st ak K) (f', g', kd', sz', st', ak', K', a', s') ∧ QR f' g' kd' sz' st' ak' K' ∧ Cu c a' s' (m + 210) := by
    intro a s m f g kd sz st ak K h hm hq
    obtain ⟨b, a1, s1, e1, h1⟩ := once_ok h 3
    have q1 : ∀ g', g'.length ≤ 100 → (∀ t ∈ g', TokR t) → QR f g' 1 10 0 ak K := fun g' h0 h1 => ⟨hq.f0, h0, hq.f1, h1, R64.of (by omega) (by omega), R64.of (by omega) (by omega), R64.of (by omega) (by omega), hq.ak, hq.K⟩
    cases b with
    | true =>
      obtain ⟨x, a2, s2, e2, x1, x2, hr, h2⟩ := expr_ok h1 (by omega)
      by_cases h20 : sz > 20
      · exact ⟨f, x, 1, 10, 0, ak, K, a2, s2, Ev.step (fun k => by rw [spec_l01Cur_query.j1]) (some_ev e1 (ite_ev tt (Ev.bind e2 (ite_ev h20 (Ev.now _))))), q1 x (by omega) hr, h2.mono (by omega)⟩
      · exact ⟨f, x, kd, sz, st, ak, K, a2, s2, Ev.step (fun k => by rw [spec_l01Cur_query.j1]) (some_ev e1 (ite_ev tt (Ev.bind e2 (ite_ev' h20 (Ev.now _))))), ⟨hq.f0, by omega, hq.f1, hr, hq.kd, hq.sz, hq.st, hq.ak, hq.K⟩, h2.mono (by omega)⟩
    | false =>
      by_cases h20 : sz > 20
      · exact ⟨f, g, 1, 10, 0, ak, K, a1, s1, Ev.step (fun k => by rw [spec_l01Cur_query.j1]) (some_ev e1 (ite_ev' ft (ite_ev h20 (Ev.now _)))), q1 g hq.g0 hq.g1, h1.mono (by omega)⟩
      · exact ⟨f, g, kd, sz, st, ak, K, a1, s1, Ev.step (fun k => by rw [spec_l01Cur_query.j1]) (some_ev e1 (ite_ev' ft (ite_ev' h20 (Ev.now _)))), hq, h1.mono (by omega)⟩
  have j0 : ∀ {a s : Int} {m : Nat} (f g : List S231) (kd sz st ak K : Int), Cu c a s m → m ≤ 50000 → QR f g kd sz st ak K →
      ∃ f' g' kd' sz' st' ak' K' a' s', Ev (fun k => spec_l01Cur_query.j0 k c a s f g kd sz st ak K) (f', g', kd', sz', st', ak', K', a', s') ∧ QR f' g' kd' sz' st' ak' K' ∧ Cu c a' s' (m + 420) := by
    intro a s m f g kd sz st ak K h hm hq
    obtain ⟨b, a1, s1, e1, h1⟩ := once_ok h 3
    cases b with
    | true =>
      obtain ⟨x, a2, s2, e2, x1, x2, hr, h2⟩ := expr_ok h1 (by omega)
      obtain ⟨f', g', kd', sz', st', ak', K', a', s', ee, r1, r2⟩ := j1 x g kd sz st ak K h2 (by omega) ⟨by omega, hq.g0, hr, hq.g1, hq.kd, hq.sz, hq.st, hq.ak, hq.K⟩
      exact ⟨f', g', kd', sz', st', ak', K', a', s', Ev.step (fun k => by rw [spec_l01Cur_query.j0]) (some_ev e1 (ite_ev tt (Ev.bind e2 ee))), r1, r2.mono (by omega)⟩
    | false =>
      obtain ⟨f', g', kd', sz', st', ak', K', a', s', ee, r1, r2⟩ := j1 f g kd sz st ak K h1 (by omega) hq
      exact ⟨f', g', kd', sz', st', ak', K', a', s', Ev.step (fun k => by rw [spec_l01Cur_query.j0]) (some_ev e1 (ite_ev' ft ee)), r1, r2.mono (by omega)⟩
  obtain ⟨kd, sz, st, a1, s1, e1, k0, k1, z0, z1, t0, t1, h1⟩ := win_ok h (by omega)
  obtain ⟨x, a2, s2, e2, x0, x1, _, h2⟩ := pick_ok h1 6
  have x2 := x1 (by omega)
  have wx : wrap64 (1 + x) = 1 + x := wrap64_id (by omega) (by omega)
  have hq : ∀ K, R64 K → QR [⟨0, 1⟩] [⟨2, 0⟩] kd sz st (1 + x) K := fun K hK => ⟨by simp, by simp, by intro t ht; simp at ht; subst ht; exact ⟨R64.of (by simp) (by simp), R64.of (by simp) (by simp)⟩, by intro t ht; simp at ht; subst ht; exact ⟨R64.of (by simp) (by simp), R64.of (by simp) (by simp)⟩, R64.of (by omega) (by omega), R64.of (by omega) (by omega), R64.of (by omega) (by omega), R64.of (by omega) (by omega), hK⟩
  unfold spec_l01Cur_query.f
  by_cases h6 : 1 + x = 6
  · obtain ⟨y, a3, s3, e3, y0, y1, _, h3⟩ := pick_ok h2 4
    have y2 := y1 (by omega)
    obtain ⟨f', g', kd', sz', st', ak', K', a', s', ee, r1, r2⟩ := j0 _ _ _ _ _ _ (1 + y) h3 (by omega) (hq (1 + y) (R64.of (by omega) (by omega)))
    refine ⟨f', g', kd', sz', st', ak', K', a', s', some_ev rfl (some_ev rfl (Ev.bind e1 (some_ev e2 ?_))), r1, r2.mono (by omega)⟩
    dsimp only
    rw [wx]
    refine ite_ev h6 (some_ev e3 ?_)
    dsimp only
    rw [wrap64_id (x := 1 + y) (by omega) (by omega)]
    exact ee
  · obtain ⟨f', g', kd', sz', st', ak', K', a', s', ee, r1, r2⟩ := j0 _ _ _ _ _ _ 0 h2 (by omega) (hq 0 (R64.of (by omega) (by omega)))
    refine ⟨f', g', kd', sz', st', ak', K', a', s', some_ev rfl (some_ev rfl (Ev.bind e1 (some_ev e2 ?_))), r1, r2.mono (by omega)⟩
    dsimp only
    rw [wx]
    exact ite_ev' h6 ee
theorem badQuery_ok {a s : Int} {m : Nat} (h : Cu c a s m) (hm : m ≤ 20000) :
    ∃ f g kd sz st ak K a' s', Ev (fun k => spec_l01Cur_badQuery.f k c a s) (f, g, kd, sz, st, ak, K, a', s') ∧ QR f g kd sz st ak K ∧ Cu c a' s' (m + 1000) := by
  obtain ⟨f, g, kd, sz, st, ak, K, a1, s1, e1, hq, h1⟩ := query_ok h (by omega)
  obtain ⟨y, a2, s2, e2, y0, y1, _, h2⟩ := pick_ok h1 12
  unfold spec_l01Cur_badQuery.f
  by_cases hy0 : y = 0
  · obtain ⟨x, a3, s3, e3, x1, hr, h3⟩ := badExpr_ok h2 (by omega)
    exact ⟨x, g, kd, sz, st, ak, K, a3, s3, Ev.bind e1 (some_ev e2 (ite_ev hy0 (Ev.bind e3 (Ev.now _)))), ⟨x1, hq.g0, hr, hq.g1, hq.kd, hq.sz, hq.st, hq.ak, hq.K⟩, h3.mono (by omega)⟩
  · by_cases hy1 : y = 1
    · exact ⟨f, [], kd, sz, st, ak, K, a2, s2, Ev.bind e1 (some_ev e2 (ite_ev' hy0 (ite_ev hy1 (Ev.now _)))), ⟨hq.f0, by simp, hq.f1, by simp, hq.kd, hq.sz, hq.st, hq.ak, hq.K⟩, h2.mono (by omega)⟩
    · by_cases hy2 : y = 2
      · obtain ⟨kd', sz', st', a3, s3, e3, r1, r2, r3, h3⟩ := badWin_ok h2 (by omega)
        exact ⟨f, g, kd', sz', st', ak, K, a3, s3, Ev.bind e1 (some_ev e2 (ite_ev' hy0 (ite_ev' hy1 (ite_ev hy2 (Ev.bind e3 (Ev.now _)))))), ⟨hq.f0, hq.g0, hq.f1, hq.g1, r1, r2, r3, hq.ak, hq.K⟩, h3.mono (by omega)⟩
      · by_cases hy3 : y = 3
        · obtain ⟨ak', K', a3, s3, e3, r1, r2, h3⟩ := aggKind_ok h2 (by omega)
          exact ⟨f, g, kd, sz, st, ak', K', a3, s3, Ev.bind e1 (some_ev e2 (ite_ev' hy0 (ite_ev' hy1 (ite_ev' hy2 (ite_ev hy3 (Ev.bind e3 (Ev.now _))))))), ⟨hq.f0, hq.g0, hq.f1, hq.g1, hq.kd, hq.sz, hq.st, r1, r2⟩, h3.mono (by omega)⟩
        · exact ⟨f, g, kd, sz, st, ak, K, a2, s2, Ev.bind e1 (some_ev e2 (ite_ev' hy0 (ite_ev' hy1 (ite_ev' hy2 (ite_ev' hy3 (Ev.now _)))))), hq, h2.mono (by omega)⟩
theorem bind_eq {α β : Type} {o : Option α} {v : α} {f : α → Option β} {r : Option β} (h : o = some v) (hf : f v = r) : o.bind f = r := by rw [h]; exact hf
theorem time_ok {a s : Int} {m : Nat} (h : Cu c a s m) (hm : m ≤ 50000) : ∃ x a' s', spec_l01Cur_time.f c a s = some (x, a', s') ∧ R64 x ∧ Cu c a' s' (m + 10) := by
  obtain ⟨x, a1, s1, e1, x0, x1, _, h1⟩ := pick_ok h 60
  have x2 := x1 (by omega)
  obtain ⟨y, a2, s2, e2, y0, y1, _, h2⟩ := pick_ok h1 60
  have y2 := y1 (by omega)
  obtain ⟨u, a3, s3, e3, hu, h3⟩ := raw_ok h2
  obtain ⟨v, a4, s4, e4, v0, v1, _, h4⟩ := pick_ok h3 5
  have v2 := v1 (by omega)
  refine ⟨rd [x, y, u, 1000, 1001] v, a4, s4, ?_, rd_R64 ?_ _, h4.mono (by omega)⟩
  · unfold spec_l01Cur_time.f
    refine bind_eq e1 (bind_eq e2 (bind_eq e3 (bind_eq rfl (bind_eq e4 ?_))))
    dsimp only
    rw [if_pos v0, if_pos (by simpa using v2)]
  · intro w hw
    simp only [List.mem_cons, List.not_mem_nil, or_false] at hw
    rcases hw with rfl | rfl | rfl | rfl | rfl
    · exact R64.of (by omega) (by omega)
    · exact R64.of (by omega) (by omega)
    · exact R64.raw hu
    · exact R64.of (by omega) (by omega)
    · exact R64.of (by omega) (by omega)
structure ER (a b v t : Int) : Prop where
  a : R64 a
  b : R64 b
  v : R64 v
  t : R64 t
theorem elem_ok {a s : Int} {m : Nat} (h : Cu c a s m) (hm : m ≤ 50000) : ∃ x y z w a' s', spec_l01Cur_elem.f c a s = some (x, y, z, w, a', s') ∧ ER x y z w ∧ Cu c a' s' (m + 10) := by
  obtain ⟨x, a1, s1, e1, x0, x1, _, h1⟩ := pick_ok h 3
  have x2 := x1 (by omega)
  obtain ⟨y, a2, s2, e2, y0, y1, _, h2⟩ := pick_ok h1 4
  have y2 := y1 (by omega)
  obtain ⟨p, a3, s3, e3, p0, p1, _, h3⟩ := pick_ok h2 20
  have p2 := p1 (by omega)
  obtain ⟨q, a4, s4, e4, q0, q1, _, h4⟩ := pick_ok h3 20
  have q2 := q1 (by omega)
  obtain ⟨u, a5, s5, e5, hu, h5⟩ := raw_ok h4
  obtain ⟨v, a6, s6, e6, v0, v1, _, h6⟩ := pick_ok h5 3
  have v2 := v1 (by omega)
  obtain ⟨w, a7, s7, e7, w0, w1, _, h7⟩ := pick_ok h6 40
  have w2 := w1 (by omega)
  refine ⟨x, y, rd [wrap64 (p - 5), wrap64 (q - 5), u] v, w, a7, s7, ?_, ⟨R64.of (by omega) (by omega), R64.of (by omega) (by omega), rd_R64 (three (wrap_R64 _) (wrap_R64 _) (R64.raw hu)) _, R64.of (by omega) (by omega)⟩, h7.mono (by omega)⟩
  unfold spec_l01Cur_elem.f
  refine bind_eq e1 (bind_eq e2 (bind_eq e3 (bind_eq e4 (bind_eq e5 (bind_eq rfl (bind_eq e6 ?_))))))
  dsimp only
  rw [if_pos v0, if_pos (by simpa using v2)]
  exact bind_eq e7 rfl
theorem badElem_ok {a s : Int} {m : Nat} (h : Cu c a s m) (hm : m ≤ 40000) : ∃ x y z w a' s', spec_l01Cur_badElem.f c a s = some (x, y, z, w, a', s') ∧ ER x y z w ∧ Cu c a' s' (m + 40) := by
  obtain ⟨x, y, z, w, a1, s1, e1, hr, h1⟩ := elem_ok h (by omega)
  obtain ⟨p, a2, s2, e2, p0, p1, _, h2⟩ := pick_ok h1 12
  unfold spec_l01Cur_badElem.f
  by_cases hp0 : p = 0
  · obtain ⟨u, a4, s4, e4, hu, h4⟩ := raw_ok h2
    obtain ⟨v, a5, s5, e5, v0, v1, _, h5⟩ := pick_ok h4 3
    have v2 := v1 (by omega)
    refine ⟨rd [u, 3, 4] v, y, z, w, a5, s5, bind_eq e1 (bind_eq e2 ?_), ⟨rd_R64 (three (R64.raw hu) (R64.of (by omega) (by omega)) (R64.of (by omega) (by omega))) _, hr.b, hr.v, hr.t⟩, h5.mono (by omega)⟩
    dsimp only
    rw [if_pos hp0]
    refine bind_eq e4 (bind_eq rfl (bind_eq e5 ?_))
    dsimp only
    rw [if_pos v0, if_pos (by simpa using v2)]
  · by_cases hp1 : p = 1
    · obtain ⟨u, a4, s4, e4, hu, h4⟩ := raw_ok h2
      obtain ⟨v, a5, s5, e5, v0, v1, _, h5⟩ := pick_ok h4 3
      have v2 := v1 (by omega)
      refine ⟨x, rd [u, 15, 16] v, z, w, a5, s5, bind_eq e1 (bind_eq e2 ?_), ⟨hr.a, rd_R64 (three (R64.raw hu) (R64.of (by omega) (by omega)) (R64.of (by omega) (by omega))) _, hr.v, hr.t⟩, h5.mono (by omega)⟩
      dsimp only
      rw [if_neg hp0, if_pos hp1]
      refine bind_eq e4 (bind_eq rfl (bind_eq e5 ?_))
      dsimp only
      rw [if_pos v0, if_pos (by simpa using v2)]
    · by_cases hp2 : p = 2
      · obtain ⟨t, a3, s3, e3, ht, h3⟩ := time_ok h2 (by omega)
        refine ⟨x, y, z, t, a3, s3, bind_eq e1 (bind_eq e2 ?_), ⟨hr.a, hr.b, hr.v, ht⟩, h3.mono (by omega)⟩
        dsimp only
        rw [if_neg hp0, if_neg hp1, if_pos hp2]
        exact bind_eq e3 rfl
      · refine ⟨x, y, z, w, a2, s2, bind_eq e1 (bind_eq e2 ?_), hr, h2.mono (by omega)⟩
        dsimp only
        rw [if_neg hp0, if_neg hp1, if_neg hp2]
theorem drawQueryTake_ok (hc : Code c) : ∃ f g kd sz st ak K x y z w, Ev (fun k => spec_DrawQueryTake.f k c) (f, g, kd, sz, st, ak, K, x, y, z, w) ∧ QR f g kd sz st ak K ∧ ER x y z w := by
  obtain ⟨s, e, h0⟩ := open_ok hc
  obtain ⟨f, g, kd, sz, st, ak, K, a1, s1, e1, hq, h1⟩ := badQuery_ok h0 (by omega)
  obtain ⟨x, y, z, w, a2, s2, e2, hr, h2⟩ := badElem_ok h1 (by omega)
  refine ⟨f, g, kd, sz, st, ak, K, x, y, z, w, ?_, hq, hr⟩
  unfold spec_DrawQueryTake.f
  exact some_ev e (Ev.bind e1 (some_ev e2 (Ev.now _)))
end
end Go.Proofs.Ytjhfjnknajhanaa.Q
namespace Go.Proofs.Ytjhfjnknajhanaa.Q
open Go.RowKit Go.Proofs.Ytjhfjnknajhanaa.P Go.Proofs.YtjhfjnknajhanaaW.PrintWords Go.Proofs.YtjhfjnknajhanaaW.PrintLast Go.Proofs.YtjhfjnknajhanaaW.PrintMore

theorem u64_eq (x : Int) : IntKind.u64.wrap x = x % 18446744073709551616 := by
  unfold IntKind.wrap; simp [IntKind.bits, IntKind.signed]
structure Wd (h l v : Int) : Prop where
  h0 : -9223372036854775808 ≤ h
  h1 : h ≤ 9223372036854775807
  l0 : 0 ≤ l
  l1 : l ≤ 18446744073709551615
  eq : ∃ q : Int, h * 18446744073709551616 + l = v + q * 340282366920938463463374607431768211456
theorem wideOf_ok {x : Int} (hx : R64 x) : ∃ h l, spec_WideOf.f x = some (h, l) ∧ Wd h l x := by
  obtain ⟨x0, x1⟩ := hx
  unfold spec_WideOf.f
  by_cases c : x < 0
  · exact ⟨-1, IntKind.u64.wrap x, by rw [if_pos c], by omega, by omega, by rw [u64_eq]; omega, by rw [u64_eq]; omega, 0, by rw [u64_eq]; omega⟩
  · exact ⟨0, IntKind.u64.wrap x, by rw [if_neg c], by omega, by omega, by rw [u64_eq]; omega, by rw [u64_eq]; omega, 0, by rw [u64_eq]; omega⟩
theorem wrap_val (x : Int) : ∃ q : Int, wrap64 x = x + q * 18446744073709551616 ∧ -9223372036854775808 ≤ wrap64 x ∧ wrap64 x ≤ 9223372036854775807 :=
  ⟨-((x + 9223372036854775808) / 18446744073709551616), by unfold wrap64; omega, by unfold wrap64; omega, by unfold wrap64; omega⟩
theorem wideAdd_ok {h l v h' l' v' : Int} (a : Wd h l v) (b : Wd h' l' v') : ∃ x y, spec_WideAdd.f h l h' l' = some (x, y) ∧ Wd x y (v + v') := by
  obtain ⟨a0, a1, a2, a3, q, a4⟩ := a
  obtain ⟨b0, b1, b2, b3, r, b4⟩ := b
  unfold spec_WideAdd.f
  simp only [u64_eq]
  by_cases c : (l + l') % 18446744073709551616 < l
  · obtain ⟨s, e, e0, e1⟩ := wrap_val (((h % 18446744073709551616 + h' % 18446744073709551616) % 18446744073709551616 + 1) % 18446744073709551616)
    refine ⟨_, _, by rw [if_pos c], e0, e1, by omega, by omega, ?_⟩
    have : ∃ t : Int, wrap64 (((h % 18446744073709551616 + h' % 18446744073709551616) % 18446744073709551616 + 1) % 18446744073709551616) = h + h' + 1 + t * 18446744073709551616 :=
      ⟨(wrap64 (((h % 18446744073709551616 + h' % 18446744073709551616) % 18446744073709551616 + 1) % 18446744073709551616) - (h + h' + 1)) / 18446744073709551616, by omega⟩
    obtain ⟨t, et⟩ := this
    exact ⟨q + r + t, by rw [et]; omega⟩
  · obtain ⟨s, e, e0, e1⟩ := wrap_val ((h % 18446744073709551616 + h' % 18446744073709551616) % 18446744073709551616)
    refine ⟨_, _, by rw [if_neg c], e0, e1, by omega, by omega, ?_⟩
    have : ∃ t : Int, wrap64 ((h % 18446744073709551616 + h' % 18446744073709551616) % 18446744073709551616) = h + h' + t * 18446744073709551616 :=
      ⟨(wrap64 ((h % 18446744073709551616 + h' % 18446744073709551616) % 18446744073709551616) - (h + h')) / 18446744073709551616, by omega⟩
    obtain ⟨t, et⟩ := this
    exact ⟨q + r + t, by rw [et]; omega⟩
theorem wideNeg_ok {h l v : Int} (a : Wd h l v) : ∃ x y, spec_WideNeg.f h l = some (x, y) ∧ Wd x y (-v) := by
  obtain ⟨a0, a1, a2, a3, q, a4⟩ := a
  unfold spec_WideNeg.f
  have h1 : Wd (wrap64 ((-1) - h)) (IntKind.u64.wrap (18446744073709551615 - l)) (-v - 1) := by
    rw [wrap64_id (by omega) (by omega), u64_id (by omega) (by omega)]
    exact ⟨by omega, by omega, by omega, by omega, -q, by omega⟩
  have h2 : Wd 0 1 1 := ⟨by omega, by omega, by omega, by omega, 0, by omega⟩
  obtain ⟨x, y, e, w⟩ := wideAdd_ok h1 h2
  refine ⟨x, y, by rw [e]; rfl, ?_⟩
  rw [show -v - 1 + 1 = -v by omega] at w
  exact w
theorem wideInt_ok {h l v : Int} (a : Wd h l v) (v0 : -100000000000000000000000000000000000000 ≤ v) (v1 : v ≤ 100000000000000000000000000000000000000) :
    (R64 v → spec_WideInt.f h l = some (v, true)) ∧ (¬ R64 v → spec_WideInt.f h l = some (0, false)) := by
  obtain ⟨a0, a1, a2, a3, q, a4⟩ := a
  have hq : q = 0 := by omega
  subst hq
  unfold spec_WideInt.f
  obtain ⟨s, e, e0, e1⟩ := wrap_val l
  obtain ⟨x, y, ew, w0, w1, w2, w3, r, w4⟩ := wideOf_ok (x := wrap64 l) ⟨e0, e1⟩
  have hr : r = 0 := by omega
  subst hr
  have key : R64 v ↔ x = h ∧ y = l := by
    unfold R64
    constructor
    · intro ⟨r0, r1⟩
      have : wrap64 l = v := by unfold wrap64; omega
      omega
    · intro ⟨r0, r1⟩
      omega
  constructor
  · intro hv
    obtain ⟨r0, r1⟩ := key.1 hv
    subst r0 r1
    rw [ew]
    have : wrap64 y = v := by omega
    simp [this]
  · intro hv
    rw [ew]
    have : ¬ (x = h ∧ y = l) := fun h => hv (key.2 h)
    by_cases c : x = h
    · have c2 : y ≠ l := fun h => this ⟨c, h⟩
      simp [c2]
    · simp [c]
instance (v : Int) : Decidable (R64 v) := by unfold R64; infer_instance
def fits (v : Int) : Int × Int := if R64 v then (v, 0) else (0, 2)
theorem tmod2 {x : Int} (h : 0 ≤ x) : Int.tmod x 2 = x % 2 ∧ Int.tdiv x 2 = x / 2 := ⟨Int.tmod_eq_emod_of_nonneg h, Int.tdiv_eq_ediv_of_nonneg h⟩
theorem times_loop (d : Nat) : ∀ (n : Int) {h l v h' l' w : Int}, 0 ≤ n → n < 2 ^ d → d ≤ 64 → Wd h l v → Wd h' l' w →
    ∃ x y, Ev (fun k => spec_l03Times.l0 k n h l h' l') (x, y) ∧ Wd x y (v + n * w) := by
  induction d with
  | zero =>
    intro n h l v h' l' w n0 n1 _ a _
    have : n = 0 := by simp at n1; omega
    subst this
    exact ⟨h, l, Ev.step (fun k => by rw [spec_l03Times.l0]) (ite_ev' (by omega) (Ev.now _)), by simpa using a⟩
  | succ d ih =>
    intro n h l v h' l' w n0 n1 hd a b
    have n3 : n < 18446744073709551616 := Int.lt_of_lt_of_le n1 (by
      have : (2 : Int) ^ (d + 1) ≤ 2 ^ 64 := by exact_mod_cast Nat.pow_le_pow_right (by decide) hd
      simpa using this)
    have n2 : n / 2 < 2 ^ d := by rw [Int.pow_succ] at n1; omega
    by_cases c : n > 0
    · obtain ⟨m1, m2⟩ := tmod2 n0
      obtain ⟨x2, y2, e2, w2⟩ := wideAdd_ok b b
      have hu : IntKind.u64.wrap (Int.tdiv n 2) = n / 2 := by rw [m2, u64_id (by omega) (by omega)]
      by_cases c1 : Int.tmod n 2 = 1
      · obtain ⟨x1, y1, e1, w1⟩ := wideAdd_ok a b
        obtain ⟨x, y, e, wd⟩ := ih (n / 2) (by omega) n2 (by omega) w1 w2
        refine ⟨x, y, Ev.step (fun k => by rw [spec_l03Times.l0]) (ite_ev c (ite_ev c1 (some_ev e1 (some_ev e2 ?_)))), ?_⟩
        · dsimp only; rw [hu]; exact e
        · have : n = 2 * (n / 2) + 1 := by rw [m1] at c1; omega
          have e3 : v + n * w = v + w + n / 2 * (w + w) := by
            generalize n / 2 = z at *
            subst this
            rw [Int.add_mul, Int.mul_add, Int.mul_assoc, Int.one_mul]
            omega
          rw [e3]; exact wd
      · obtain ⟨x, y, e, wd⟩ := ih (n / 2) (by omega) n2 (by omega) a w2
        refine ⟨x, y, Ev.step (fun k => by rw [spec_l03Times.l0]) (ite_ev c (ite_ev' c1 (some_ev e2 ?_))), ?_⟩
        · dsimp only; rw [hu]; exact e
        · have : n = 2 * (n / 2) := by rw [m1] at c1; omega
          have e3 : v + n * w = v + n / 2 * (w + w) := by
            generalize n / 2 = z at *
            subst this
            rw [Int.mul_add, Int.mul_assoc]
            omega
          rw [e3]; exact wd
    · have : n = 0 := by omega
      subst this
      exact ⟨h, l, Ev.step (fun k => by rw [spec_l03Times.l0]) (ite_ev' (by omega) (Ev.now _)), by simpa using a⟩
theorem wd_zero : Wd 0 0 0 := ⟨by omega, by omega, by omega, by omega, 0, by omega⟩
theorem times_ok {a b : Int} (ha : R64 a) (hb : R64 b) : ∃ x y, Ev (fun k => spec_l03Times.f k a b) (x, y) ∧ Wd x y (a * b) := by
  obtain ⟨h, l, e, w⟩ := wideOf_ok ha
  obtain ⟨b0, b1⟩ := hb
  unfold spec_l03Times.f
  by_cases c : b < 0
  · obtain ⟨h', l', e', w'⟩ := wideNeg_ok w
    have hn : IntKind.u64.wrap (-(IntKind.u64.wrap b)) = -b := by rw [u64_eq, u64_eq]; omega
    obtain ⟨x, y, ee, wd⟩ := times_loop 64 (-b) (by omega) (by omega) (by omega) wd_zero w'
    refine ⟨x, y, some_ev e (ite_ev c (some_ev e' ?_)), by rw [Int.mul_comm a b, show b * a = 0 + -b * -a by rw [Int.neg_mul_neg]; omega]; exact wd⟩
    dsimp only
    rw [hn]
    exact Ev.step (fun k => by rw [spec_l03Times.j0]) ee
  · have hn : IntKind.u64.wrap b = b := u64_id (by omega) (by omega)
    obtain ⟨x, y, ee, wd⟩ := times_loop 64 b (by omega) (by omega) (by omega) wd_zero w
    refine ⟨x, y, some_ev e (ite_ev' c ?_), by rw [Int.mul_comm]; simpa using wd⟩
    dsimp only
    rw [hn]
    exact Ev.step (fun k => by rw [spec_l03Times.j0]) ee
theorem prod_bd {a b : Int} (ha : R64 a) (hb : R64 b) : -100000000000000000000000000000000000000 ≤ a * b ∧ a * b ≤ 100000000000000000000000000000000000000 := by
  obtain ⟨a0, a1⟩ := ha
  obtain ⟨b0, b1⟩ := hb
  have h : (a * b).natAbs ≤ 9223372036854775808 * 9223372036854775808 := by
    rw [Int.natAbs_mul]
    exact Nat.mul_le_mul (by omega) (by omega)
  omega
end Go.Proofs.Ytjhfjnknajhanaa.Q
