/- Part 6 of 9 of the proof of FnLatDown: functions on lists and numbers, contracts of Go functions, plain lemmas. -/
import Derived.Test.YtjhfjnknajhanaaCLatDown5
namespace Go.Proofs.Ytjhfjnknajhanaa.P
open Go.RowKit Go.Proofs.YtjhfjnknajhanaaW.PrintWords Go.Proofs.YtjhfjnknajhanaaW.PrintLast Go.Proofs.YtjhfjnknajhanaaW.PrintMore
attribute [local go_sem] max2_int min2_int max_two min_two max_three min_three max_four min_four   -- for this text's walks alone
set_option linter.unusedVariables false
set_option linter.unusedSimpArgs false

/-! ### impl_Lat_isOrder: function 211 -/
set_option maxHeartbeats 8000000 in
set_option maxRecDepth 100000 in
theorem impl_Lat_isOrder.calls (k : Nat) (a0_0 : Int) (A0_1 : Option Addr) (c0_1 : Nat) (l0_1 : List Int) (r : Bool) (w : World) (hr0_1 : Kd.C (Kd.int .u64) w A0_1 l0_1.length l0_1) (hc0_1 : l0_1.length ≤ c0_1) (h : impl_Lat_isOrder.f k a0_0 l0_1 = some r) :
  Calls Try.prog 211 #[.agg #[.int .i64 a0_0, .slice A0_1 l0_1.length c0_1]] w fun e w' => e = .returned (.bool r) ∧ Below w.heap.size w w' := by
 have hu47 := Try.underlying47
 have HR0_1 := Aside0.mk hr0_1
 have HC0_1 := Aside0.mk hc0_1
 clear hr0_1 hc0_1
 have HB := Aside0.mk (Below.refl w.heap.size w)
 have H : (impl_Lat_isOrder.l0 k a0_0 0 a0_0 l0_1) = some r := h
 clear h
 have H' := Aside0.mk H
 clear H
 go_enter Try.func211, Try.ntmps211
 go_wp2_with (first | ((with_reducible refine gate_dst (N := 1) rfl ?_); refine box_event ?hg (N := 1) ?hd (cs := #[.int .i64 a0_0, .slice A0_1 l0_1.length c0_1]) (t := 47) ?hr ?_; (case hd => rfl); (case hg => rfl); (case hr => exact qz5); intro gb101 hg w2 hbox hb; have n0_ := Aside0.mk (below_step qz6 hb); have n1_ := Aside0.mk (hbox); have n2_ := Aside0.mk ((qz7 : w.heap.size ≤ gb101)); have n3_ := Aside0.mk ((qz7 : w.heap.size ≤ gb101)); clear HB; have HB := n0_; have BK101 := n1_; have GW101 := n2_; have GE101 := n3_; clear n0_ n1_ n2_ n3_; clear hb hbox hg; have hcz3_0 : w2.cell? ⟨gb101, 0, none⟩ = some (.int .i64 a0_0) := (blk_cell BK101.out 0).trans rfl; have hcz3_1 : w2.cell? ⟨gb101, 1, none⟩ = some (.slice A0_1 l0_1.length c0_1) := (blk_cell BK101.out 1).trans rfl; have hfz3_0 := blk_frozen BK101.out 0; have hfz3_1 := blk_frozen BK101.out 1))
 go_loopg [8] k (fun kq v8 w' => ∃ (x8_1 : Int), v8 = .int .i64 x8_1 ∧ Aside0 (impl_Lat_isOrder.l0 kq a0_0 x8_1 a0_0 l0_1 = some r) ∧ Aside0 (kq ≤ k) ∧ Aside0 (w'.heap[gb101]? = some (.cells #[.int .i64 a0_0, (.slice A0_1 l0_1.length c0_1)] 47 (0, 0))) ∧ Aside0 (Below w.heap.size w w'))
 case atStart => exact ⟨(0), qz2, H', ⟨Nat.le_refl _⟩, ⟨qz8 BK101.out⟩, ⟨qz10 GE101.out⟩⟩
 case round =>
  clear H'
  try clear c2
  try clear p2
  try clear hcz3_0
  try clear hcz3_1
  try clear hfz3_0
  try clear hfz3_1
  obtain ⟨x8_1, rfl, HA, HK1, BK101, HB⟩ := hrel
  cases gk with
  | zero => exact absurd HA.out (by simp [impl_Lat_isOrder.l0])
  | succ k1 =>
   have H := HA.out
   clear HA
   simp only [impl_Lat_isOrder.l0] at H
   by_cases c4 : x8_1 < a0_0
   ·rw [if_pos c4] at H
    have c4b0 : decide (x8_1 < a0_0) = true := decide_eq_true c4
    clear c4
    replace H := Option.bind_eq_some_iff.mp H
    obtain ⟨t102, A50, H⟩ := H
    replace H : (if t102 = true then (impl_Lat_isOrder.l1 k1 x8_1 a0_0 x8_1 a0_0 0 a0_0 l0_1) else (some false)) = some r := H
    have A5 := Aside0.mk A50
    clear A50
    by_cases c6 : t102 = true
    ·subst c6
     have H1 : (impl_Lat_isOrder.l1 k1 x8_1 a0_0 x8_1 a0_0 0 a0_0 l0_1) = some r := by rw [if_pos rfl] at H; exact H
     clear H
     have H := H1
     clear H1
     have H' := Aside0.mk H
     clear H
     have hcz7_0 : wr.cell? ⟨gb101, 0, none⟩ = some (.int .i64 a0_0) := (blk_cell BK101.out 0).trans rfl
     have hcz7_1 : wr.cell? ⟨gb101, 1, none⟩ = some (.slice A0_1 l0_1.length c0_1) := (blk_cell BK101.out 1).trans rfl
     have hfz7_0 := blk_frozen BK101.out 0
     have hfz7_1 := blk_frozen BK101.out 1
     go_wp2_with (first | ((with_reducible refine gate_callee (f := 119) rfl ?_); refine goesL_ (some 14) rfl rfl Try.func119 (by kernel_rfl) rfl #[.agg #[.int .i64 a0_0, .slice A0_1 l0_1.length c0_1], .int .i64 x8_1, .int .i64 x8_1] rfl qz1 ?_; (with_reducible refine (impl_Lat_le.calls a0_0 _ _ l0_1 x8_1 x8_1 true _ ?side1 ?side2 A5.out).mono ?_); (case side1 => exact qz17 HR0_1.out); (case side2 => exact HC0_1.out); rintro e w8 ⟨rfl, hb⟩; refine ⟨_, rfl, ?_⟩; have n0_ := Aside0.mk (blk_below (g := gb101) (o := .cells #[.int .i64 a0_0, .slice A0_1 l0_1.length c0_1] 47 (0, 0)) (qz8 BK101.out) hb); have n1_ := Aside0.mk (below_step (qz10 GE101.out) hb); clear BK101; clear HB; have BK101 := n0_; have HB := n1_; clear n0_ n1_; (try clear hb); (try clear hb2); (try clear hk); (try clear hi); have hcz9_0 : w8.cell? ⟨gb101, 0, none⟩ = some (.int .i64 a0_0) := (blk_cell BK101.out 0).trans rfl; have hcz9_1 : w8.cell? ⟨gb101, 1, none⟩ = some (.slice A0_1 l0_1.length c0_1) := (blk_cell BK101.out 1).trans rfl; have hfz9_0 := blk_frozen BK101.out 0; have hfz9_1 := blk_frozen BK101.out 1))
     go_loopg [18] k1 (fun kq v18 w' => ∃ (x18_2 : Int), v18 = .int .i64 x18_2 ∧ Aside0 (impl_Lat_isOrder.l1 kq x8_1 a0_0 x8_1 a0_0 x18_2 a0_0 l0_1 = some r) ∧ Aside0 (kq ≤ k1) ∧ Aside0 (w'.heap[gb101]? = some (.cells #[.int .i64 a0_0, (.slice A0_1 l0_1.length c0_1)] 47 (0, 0))) ∧ Aside0 (Below w.heap.size w w'))
     case atStart => exact ⟨(0), qz2, H', ⟨Nat.le_refl _⟩, ⟨qz8 BK101.out⟩, ⟨qz10 GE101.out⟩⟩
     case round =>
      clear H'
      try clear c1
      try clear c2
      try clear p2
      try clear c4
      try clear c4b0
      try clear c6
      try clear hcz3_0
      try clear hcz3_1
      try clear hcz7_0
      try clear hcz7_1
      try clear hcz9_0
      try clear hcz9_1
      try clear hfz3_0
      try clear hfz3_1
      try clear hfz7_0
      try clear hfz7_1
      try clear hfz9_0
      try clear hfz9_1
      try clear p2
      obtain ⟨x18_2, rfl, HA, HK2, BK101, HB⟩ := hrel
      cases gk with
      | zero => exact absurd HA.out (by simp [impl_Lat_isOrder.l1])
      | succ k2 =>
       have H := HA.out
       clear HA
       simp only [impl_Lat_isOrder.l1] at H
       by_cases c10 : x18_2 < a0_0
       ·rw [if_pos c10] at H
        have c10b0 : decide (x18_2 < a0_0) = true := decide_eq_true c10
        clear c10
        have HC11 := Aside0.mk H
        clear H
        go_upto_region 9 with (fail)
        go_cut [35] (fun v35 wc => ∃ (kq : Nat) (x35_10 : Bool), v35 = .bool x35_10 ∧ Aside0 (impl_Lat_isOrder.j2 kq x8_1 x18_2 a0_0 x8_1 a0_0 x18_2 x35_10 a0_0 l0_1 = some r) ∧ Aside0 (kq ≤ k2) ∧ Aside0 (wc.heap[gb101]? = some (.cells #[.int .i64 a0_0, (.slice A0_1 l0_1.length c0_1)] 47 (0, 0))) ∧ Aside0 (Below w.heap.size w wc))
        case first =>
         have H := HC11.out
         clear HC11
         by_cases c12 : x8_1 = x18_2
         ·rw [if_pos c12] at H
          have c12b0 : (x8_1 == x18_2) = true := beq_iff_eq.mpr c12
          have c12b1 : (x8_1 != x18_2) = false := bne_eq_false_iff_eq.mpr c12
          clear c12
          (first | rw [c12b0] | (simp only [i64_w, i32_w]; rw [c12b0]) | skip)
          have H' := Aside0.mk H
          clear H
          go_wp2
          go_meet
          case rel => exact ⟨_, (false), qz2, H', ⟨qz30 HK1.out HK2.out⟩, ⟨qz8 BK101.out⟩, ⟨qz10 GE101.out⟩⟩
         ·rw [if_neg c12] at H
          have c12b0 : (x8_1 == x18_2) = false := beq_eq_false_iff_ne.mpr c12
          have c12b1 : (x8_1 != x18_2) = true := bne_iff_ne.mpr c12
          (first | rw [c12b0] | (simp only [i64_w, i32_w]; rw [c12b0]) | skip)
          replace H := Option.bind_eq_some_iff.mp H
          obtain ⟨t103, A130, H⟩ := H
          replace H : (if t103 = true then ((impl_Lat_le.f a0_0 l0_1 x18_2 x8_1).bind fun t104 => (impl_Lat_isOrder.j2 k2 x8_1 x18_2 a0_0 x8_1 a0_0 x18_2 t104 a0_0 l0_1)) else (impl_Lat_isOrder.j2 k2 x8_1 x18_2 a0_0 x8_1 a0_0 x18_2 false a0_0 l0_1)) = some r := H
          have A13 := Aside0.mk A130
          clear A130
          by_cases c14 : t103 = true
          ·subst c14
           have H1 : ((impl_Lat_le.f a0_0 l0_1 x18_2 x8_1).bind fun t104 => (impl_Lat_isOrder.j2 k2 x8_1 x18_2 a0_0 x8_1 a0_0 x18_2 t104 a0_0 l0_1)) = some r := by rw [if_pos rfl] at H; exact H
           clear H
           have H := H1
           clear H1
           replace H := Option.bind_eq_some_iff.mp H
           obtain ⟨t104, A150, H⟩ := H
           replace H : (impl_Lat_isOrder.j2 k2 x8_1 x18_2 a0_0 x8_1 a0_0 x18_2 t104 a0_0 l0_1) = some r := H
           have A15 := Aside0.mk A150
           clear A150
           have H' := Aside0.mk H
           clear H
           have hcz16_0 : wr.cell? ⟨gb101, 0, none⟩ = some (.int .i64 a0_0) := (blk_cell BK101.out 0).trans rfl
           have hcz16_1 : wr.cell? ⟨gb101, 1, none⟩ = some (.slice A0_1 l0_1.length c0_1) := (blk_cell BK101.out 1).trans rfl
           have hfz16_0 := blk_frozen BK101.out 0
           have hfz16_1 := blk_frozen BK101.out 1
           go_wp2_with (first | (go_at_call 119; (with_reducible refine (impl_Lat_le.calls a0_0 _ _ l0_1 x8_1 x18_2 true _ ?side1 ?side2 A13.out).mono ?_); (case side1 => exact qz17 HR0_1.out); (case side2 => exact HC0_1.out); rintro e w17 ⟨rfl, hb⟩; have n0_ := Aside0.mk (blk_below (g := gb101) (o := .cells #[.int .i64 a0_0, .slice A0_1 l0_1.length c0_1] 47 (0, 0)) (qz8 BK101.out) hb); have n1_ := Aside0.mk (below_step (qz10 GE101.out) hb); clear BK101; clear HB; have BK101 := n0_; have HB := n1_; clear n0_ n1_; (try clear hb); (try clear hb2); (try clear hk); (try clear hi); have hcz18_0 : w17.cell? ⟨gb101, 0, none⟩ = some (.int .i64 a0_0) := (blk_cell BK101.out 0).trans rfl; have hcz18_1 : w17.cell? ⟨gb101, 1, none⟩ = some (.slice A0_1 l0_1.length c0_1) := (blk_cell BK101.out 1).trans rfl; have hfz18_0 := blk_frozen BK101.out 0; have hfz18_1 := blk_frozen BK101.out 1) | (go_at_call 119; (with_reducible refine (impl_Lat_le.calls a0_0 _ _ l0_1 x18_2 x8_1 t104 _ ?side1 ?side2 A15.out).mono ?_); (case side1 => exact qz17 HR0_1.out); (case side2 => exact HC0_1.out); rintro e w19 ⟨rfl, hb⟩; have n0_ := Aside0.mk (blk_below (g := gb101) (o := .cells #[.int .i64 a0_0, .slice A0_1 l0_1.length c0_1] 47 (0, 0)) (qz8 BK101.out) hb); have n1_ := Aside0.mk (below_step (qz10 GE101.out) hb); clear BK101; clear HB; have BK101 := n0_; have HB := n1_; clear n0_ n1_; (try clear hb); (try clear hb2); (try clear hk); (try clear hi)))
           go_meet
           case rel => exact ⟨_, (t104), qz2, H', ⟨qz30 HK1.out HK2.out⟩, ⟨qz8 BK101.out⟩, ⟨qz10 GE101.out⟩⟩
          ·replace c14 := Bool.eq_false_iff.mpr c14
           subst c14
           have H1 : (impl_Lat_isOrder.j2 k2 x8_1 x18_2 a0_0 x8_1 a0_0 x18_2 false a0_0 l0_1) = some r := by rw [if_neg (show ¬ (false = true) by decide)] at H; exact H
           clear H
           have H := H1
           clear H1
           have H' := Aside0.mk H
           clear H
           have hcz20_0 : wr.cell? ⟨gb101, 0, none⟩ = some (.int .i64 a0_0) := (blk_cell BK101.out 0).trans rfl
           have hcz20_1 : wr.cell? ⟨gb101, 1, none⟩ = some (.slice A0_1 l0_1.length c0_1) := (blk_cell BK101.out 1).trans rfl
           have hfz20_0 := blk_frozen BK101.out 0
           have hfz20_1 := blk_frozen BK101.out 1
           go_wp2_with (first | (go_at_call 119; (with_reducible refine (impl_Lat_le.calls a0_0 _ _ l0_1 x8_1 x18_2 false _ ?side1 ?side2 A13.out).mono ?_); (case side1 => exact qz17 HR0_1.out); (case side2 => exact HC0_1.out); rintro e w21 ⟨rfl, hb⟩; have n0_ := Aside0.mk (blk_below (g := gb101) (o := .cells #[.int .i64 a0_0, .slice A0_1 l0_1.length c0_1] 47 (0, 0)) (qz8 BK101.out) hb); have n1_ := Aside0.mk (below_step (qz10 GE101.out) hb); clear BK101; clear HB; have BK101 := n0_; have HB := n1_; clear n0_ n1_; (try clear hb); (try clear hb2); (try clear hk); (try clear hi)))
           go_meet
           case rel => exact ⟨_, (false), qz2, H', ⟨qz30 HK1.out HK2.out⟩, ⟨qz8 BK101.out⟩, ⟨qz10 GE101.out⟩⟩
        case rest =>
         clear HC11
         try clear c1
         try clear c2
         try clear p2
         try clear c4
         try clear c4b0
         try clear c6
         try clear c10
         try clear c10b0
         try clear c11
         try clear c12
         try clear c12b0
         try clear c12b1
         try clear c14
         try clear c21
         try clear hcz16_0
         try clear hcz16_1
         try clear hcz18_0
         try clear hcz18_1
         try clear hcz20_0
         try clear hcz20_1
         try clear hcz3_0
         try clear hcz3_1
         try clear hcz7_0
         try clear hcz7_1
         try clear hcz9_0
         try clear hcz9_1
         try clear hfz16_0
         try clear hfz16_1
         try clear hfz18_0
         try clear hfz18_1
         try clear hfz20_0
         try clear hfz20_1
         try clear hfz3_0
         try clear hfz3_1
         try clear hfz7_0
         try clear hfz7_1
         try clear hfz9_0
         try clear hfz9_1
         try clear p2
         obtain ⟨kq, x35_10, rfl, HA, HJ10, BK101, HB⟩ := hcut
         cases kq with
         | zero => exact absurd HA.out (by simp [impl_Lat_isOrder.j2])
         | succ kj10 =>
          have H := HA.out
          clear HA
          simp only [impl_Lat_isOrder.j2] at H
          by_cases c22 : x35_10 = true
          ·subst c22
           have H1 : (some false) = some r := by rw [if_pos rfl] at H; exact H
           clear H
           have H := H1
           clear H1
           obtain rfl := Option.some.inj H
           go_wp2
           go_ret
           exact ⟨qz13, qz10 GE101.out⟩
          ·replace c22 := Bool.eq_false_iff.mpr c22
           subst c22
           have H1 : (impl_Lat_isOrder.l2 kj10 x8_1 x18_2 a0_0 x8_1 a0_0 x18_2 a0_0 0 a0_0 l0_1) = some r := by rw [if_neg (show ¬ (false = true) by decide)] at H; exact H
           clear H
           have H := H1
           clear H1
           have H' := Aside0.mk H
           clear H
           have hcz23_0 : wc.cell? ⟨gb101, 0, none⟩ = some (.int .i64 a0_0) := (blk_cell BK101.out 0).trans rfl
           have hcz23_1 : wc.cell? ⟨gb101, 1, none⟩ = some (.slice A0_1 l0_1.length c0_1) := (blk_cell BK101.out 1).trans rfl
           have hfz23_0 := blk_frozen BK101.out 0
           have hfz23_1 := blk_frozen BK101.out 1
           go_wp2
           go_loopg [38] kj10 (fun kq v38 w' => ∃ (x38_4 : Int), v38 = .int .i64 x38_4 ∧ Aside0 (impl_Lat_isOrder.l2 kq x8_1 x18_2 a0_0 x8_1 a0_0 x18_2 a0_0 x38_4 a0_0 l0_1 = some r) ∧ Aside0 (kq ≤ kj10) ∧ Aside0 (w'.heap[gb101]? = some (.cells #[.int .i64 a0_0, (.slice A0_1 l0_1.length c0_1)] 47 (0, 0))) ∧ Aside0 (Below w.heap.size w w'))
           case atStart => exact ⟨(0), qz2, H', ⟨Nat.le_refl _⟩, ⟨qz8 BK101.out⟩, ⟨qz10 GE101.out⟩⟩
           case round =>
            clear H'
            try clear c1
            try clear c2
            try clear p2
            try clear c4
            try clear c4b0
            try clear c6
            try clear c10
            try clear c10b0
            try clear c11
            try clear c12
            try clear c12b0
            try clear c12b1
            try clear c14
            try clear c21
            try clear c22
            try clear hcz16_0
            try clear hcz16_1
            try clear hcz18_0
            try clear hcz18_1
            try clear hcz20_0
            try clear hcz20_1
            try clear hcz23_0
            try clear hcz23_1
            try clear hcz3_0
            try clear hcz3_1
            try clear hcz7_0
            try clear hcz7_1
            try clear hcz9_0
            try clear hcz9_1
            try clear hfz16_0
            try clear hfz16_1
            try clear hfz18_0
            try clear hfz18_1
            try clear hfz20_0
            try clear hfz20_1
            try clear hfz23_0
            try clear hfz23_1
            try clear hfz3_0
            try clear hfz3_1
            try clear hfz7_0
            try clear hfz7_1
            try clear hfz9_0
            try clear hfz9_1
            try clear p2
            obtain ⟨x38_4, rfl, HA, HK4, BK101, HB⟩ := hrel
            cases gk with
            | zero => exact absurd HA.out (by simp [impl_Lat_isOrder.l2])
            | succ k4 =>
             have H := HA.out
             clear HA
             simp only [impl_Lat_isOrder.l2] at H
             by_cases c24 : x38_4 < a0_0
             ·rw [if_pos c24] at H
              have c24b0 : decide (x38_4 < a0_0) = true := decide_eq_true c24
              clear c24
              replace H := Option.bind_eq_some_iff.mp H
              obtain ⟨t105, A250, H⟩ := H
              replace H : (if t105 = true then ((impl_Lat_le.f a0_0 l0_1 x18_2 x38_4).bind fun t106 => (if t106 = true then ((impl_Lat_le.f a0_0 l0_1 x8_1 x38_4).bind fun t107 => (if t107 = true then (impl_Lat_isOrder.l2 k4 x8_1 x18_2 a0_0 x8_1 a0_0 x18_2 a0_0 (wrap64 (x38_4 + 1)) a0_0 l0_1) else (some false))) else (impl_Lat_isOrder.l2 k4 x8_1 x18_2 a0_0 x8_1 a0_0 x18_2 a0_0 (wrap64 (x38_4 + 1)) a0_0 l0_1))) else (impl_Lat_isOrder.l2 k4 x8_1 x18_2 a0_0 x8_1 a0_0 x18_2 a0_0 (wrap64 (x38_4 + 1)) a0_0 l0_1)) = some r := H
              have A25 := Aside0.mk A250
              clear A250
              by_cases c26 : t105 = true
              ·subst c26
               have H1 : ((impl_Lat_le.f a0_0 l0_1 x18_2 x38_4).bind fun t106 => (if t106 = true then ((impl_Lat_le.f a0_0 l0_1 x8_1 x38_4).bind fun t107 => (if t107 = true then (impl_Lat_isOrder.l2 k4 x8_1 x18_2 a0_0 x8_1 a0_0 x18_2 a0_0 (wrap64 (x38_4 + 1)) a0_0 l0_1) else (some false))) else (impl_Lat_isOrder.l2 k4 x8_1 x18_2 a0_0 x8_1 a0_0 x18_2 a0_0 (wrap64 (x38_4 + 1)) a0_0 l0_1))) = some r := by rw [if_pos rfl] at H; exact H
               clear H
               have H := H1
               clear H1
               replace H := Option.bind_eq_some_iff.mp H
               obtain ⟨t106, A270, H⟩ := H
               replace H : (if t106 = true then ((impl_Lat_le.f a0_0 l0_1 x8_1 x38_4).bind fun t107 => (if t107 = true then (impl_Lat_isOrder.l2 k4 x8_1 x18_2 a0_0 x8_1 a0_0 x18_2 a0_0 (wrap64 (x38_4 + 1)) a0_0 l0_1) else (some false))) else (impl_Lat_isOrder.l2 k4 x8_1 x18_2 a0_0 x8_1 a0_0 x18_2 a0_0 (wrap64 (x38_4 + 1)) a0_0 l0_1)) = some r := H
               have A27 := Aside0.mk A270
               clear A270
               by_cases c28 : t106 = true
               ·subst c28
                have H1 : ((impl_Lat_le.f a0_0 l0_1 x8_1 x38_4).bind fun t107 => (if t107 = true then (impl_Lat_isOrder.l2 k4 x8_1 x18_2 a0_0 x8_1 a0_0 x18_2 a0_0 (wrap64 (x38_4 + 1)) a0_0 l0_1) else (some false))) = some r := by rw [if_pos rfl] at H; exact H
                clear H
                have H := H1
                clear H1
                replace H := Option.bind_eq_some_iff.mp H
                obtain ⟨t107, A290, H⟩ := H
                replace H : (if t107 = true then (impl_Lat_isOrder.l2 k4 x8_1 x18_2 a0_0 x8_1 a0_0 x18_2 a0_0 (wrap64 (x38_4 + 1)) a0_0 l0_1) else (some false)) = some r := H
                have A29 := Aside0.mk A290
                clear A290
                by_cases c30 : t107 = true
                ·subst c30
                 have H1 : (impl_Lat_isOrder.l2 k4 x8_1 x18_2 a0_0 x8_1 a0_0 x18_2 a0_0 (wrap64 (x38_4 + 1)) a0_0 l0_1) = some r := by rw [if_pos rfl] at H; exact H
                 clear H
                 have H := H1
                 clear H1
                 have H' := Aside0.mk H
                 clear H
                 have hcz31_0 : wr.cell? ⟨gb101, 0, none⟩ = some (.int .i64 a0_0) := (blk_cell BK101.out 0).trans rfl
                 have hcz31_1 : wr.cell? ⟨gb101, 1, none⟩ = some (.slice A0_1 l0_1.length c0_1) := (blk_cell BK101.out 1).trans rfl
                 have hfz31_0 := blk_frozen BK101.out 0
                 have hfz31_1 := blk_frozen BK101.out 1
                 go_wp2_with (first | ((with_reducible refine gate_callee (f := 119) rfl ?_); refine goesL_ (some 44) rfl rfl Try.func119 (by kernel_rfl) rfl #[.agg #[.int .i64 a0_0, .slice A0_1 l0_1.length c0_1], .int .i64 x8_1, .int .i64 x18_2] rfl qz1 ?_; (with_reducible refine (impl_Lat_le.calls a0_0 _ _ l0_1 x8_1 x18_2 true _ ?side1 ?side2 A25.out).mono ?_); (case side1 => exact qz17 HR0_1.out); (case side2 => exact HC0_1.out); rintro e w32 ⟨rfl, hb⟩; refine ⟨_, rfl, ?_⟩; have n0_ := Aside0.mk (blk_below (g := gb101) (o := .cells #[.int .i64 a0_0, .slice A0_1 l0_1.length c0_1] 47 (0, 0)) (qz8 BK101.out) hb); have n1_ := Aside0.mk (below_step (qz10 GE101.out) hb); clear BK101; clear HB; have BK101 := n0_; have HB := n1_; clear n0_ n1_; (try clear hb); (try clear hb2); (try clear hk); (try clear hi); have hcz33_0 : w32.cell? ⟨gb101, 0, none⟩ = some (.int .i64 a0_0) := (blk_cell BK101.out 0).trans rfl; have hcz33_1 : w32.cell? ⟨gb101, 1, none⟩ = some (.slice A0_1 l0_1.length c0_1) := (blk_cell BK101.out 1).trans rfl; have hfz33_0 := blk_frozen BK101.out 0; have hfz33_1 := blk_frozen BK101.out 1) | (go_at_call 119; (with_reducible refine (impl_Lat_le.calls a0_0 _ _ l0_1 x18_2 x38_4 true _ ?side1 ?side2 A27.out).mono ?_); (case side1 => exact qz17 HR0_1.out); (case side2 => exact HC0_1.out); rintro e w34 ⟨rfl, hb⟩; have n0_ := Aside0.mk (blk_below (g := gb101) (o := .cells #[.int .i64 a0_0, .slice A0_1 l0_1.length c0_1] 47 (0, 0)) (qz8 BK101.out) hb); have n1_ := Aside0.mk (below_step (qz10 GE101.out) hb); clear BK101; clear HB; have BK101 := n0_; have HB := n1_; clear n0_ n1_; (try clear hb); (try clear hb2); (try clear hk); (try clear hi); have hcz35_0 : w34.cell? ⟨gb101, 0, none⟩ = some (.int .i64 a0_0) := (blk_cell BK101.out 0).trans rfl; have hcz35_1 : w34.cell? ⟨gb101, 1, none⟩ = some (.slice A0_1 l0_1.length c0_1) := (blk_cell BK101.out 1).trans rfl; have hfz35_0 := blk_frozen BK101.out 0; have hfz35_1 := blk_frozen BK101.out 1) | (go_at_call 119; (with_reducible refine (impl_Lat_le.calls a0_0 _ _ l0_1 x8_1 x38_4 true _ ?side1 ?side2 A29.out).mono ?_); (case side1 => exact qz17 HR0_1.out); (case side2 => exact HC0_1.out); rintro e w36 ⟨rfl, hb⟩; have n0_ := Aside0.mk (blk_below (g := gb101) (o := .cells #[.int .i64 a0_0, .slice A0_1 l0_1.length c0_1] 47 (0, 0)) (qz8 BK101.out) hb); have n1_ := Aside0.mk (below_step (qz10 GE101.out) hb); clear BK101; clear HB; have BK101 := n0_; have HB := n1_; clear n0_ n1_; (try clear hb); (try clear hb2); (try clear hk); (try clear hi)))
                 go_roundg k4
                 case measure => have := HK1.out; have := HK2.out; have := HJ10.out; have := HK4.out; omega
                 case rel => exact ⟨(wrap64 (x38_4 + 1)), qz2, H', ⟨qz32 HK1.out HK2.out HJ10.out HK4.out⟩, ⟨qz8 BK101.out⟩, ⟨qz10 GE101.out⟩⟩
                ·replace c30 := Bool.eq_false_iff.mpr c30
                 subst c30
                 have H1 : (some false) = some r := by rw [if_neg (show ¬ (false = true) by decide)] at H; exact H
                 clear H
                 have H := H1
                 clear H1
                 obtain rfl := Option.some.inj H
                 have hcz37_0 : wr.cell? ⟨gb101, 0, none⟩ = some (.int .i64 a0_0) := (blk_cell BK101.out 0).trans rfl
                 have hcz37_1 : wr.cell? ⟨gb101, 1, none⟩ = some (.slice A0_1 l0_1.length c0_1) := (blk_cell BK101.out 1).trans rfl
                 have hfz37_0 := blk_frozen BK101.out 0
                 have hfz37_1 := blk_frozen BK101.out 1
                 go_wp2_with (first | ((with_reducible refine gate_callee (f := 119) rfl ?_); refine goesL_ (some 44) rfl rfl Try.func119 (by kernel_rfl) rfl #[.agg #[.int .i64 a0_0, .slice A0_1 l0_1.length c0_1], .int .i64 x8_1, .int .i64 x18_2] rfl qz1 ?_; (with_reducible refine (impl_Lat_le.calls a0_0 _ _ l0_1 x8_1 x18_2 true _ ?side1 ?side2 A25.out).mono ?_); (case side1 => exact qz17 HR0_1.out); (case side2 => exact HC0_1.out); rintro e w38 ⟨rfl, hb⟩; refine ⟨_, rfl, ?_⟩; have n0_ := Aside0.mk (blk_below (g := gb101) (o := .cells #[.int .i64 a0_0, .slice A0_1 l0_1.length c0_1] 47 (0, 0)) (qz8 BK101.out) hb); have n1_ := Aside0.mk (below_step (qz10 GE101.out) hb); clear BK101; clear HB; have BK101 := n0_; have HB := n1_; clear n0_ n1_; (try clear hb); (try clear hb2); (try clear hk); (try clear hi); have hcz39_0 : w38.cell? ⟨gb101, 0, none⟩ = some (.int .i64 a0_0) := (blk_cell BK101.out 0).trans rfl; have hcz39_1 : w38.cell? ⟨gb101, 1, none⟩ = some (.slice A0_1 l0_1.length c0_1) := (blk_cell BK101.out 1).trans rfl; have hfz39_0 := blk_frozen BK101.out 0; have hfz39_1 := blk_frozen BK101.out 1) | (go_at_call 119; (with_reducible refine (impl_Lat_le.calls a0_0 _ _ l0_1 x18_2 x38_4 true _ ?side1 ?side2 A27.out).mono ?_); (case side1 => exact qz17 HR0_1.out); (case side2 => exact HC0_1.out); rintro e w40 ⟨rfl, hb⟩; have n0_ := Aside0.mk (blk_below (g := gb101) (o := .cells #[.int .i64 a0_0, .slice A0_1 l0_1.length c0_1] 47 (0, 0)) (qz8 BK101.out) hb); have n1_ := Aside0.mk (below_step (qz10 GE101.out) hb); clear BK101; clear HB; have BK101 := n0_; have HB := n1_; clear n0_ n1_; (try clear hb); (try clear hb2); (try clear hk); (try clear hi); have hcz41_0 : w40.cell? ⟨gb101, 0, none⟩ = some (.int .i64 a0_0) := (blk_cell BK101.out 0).trans rfl; have hcz41_1 : w40.cell? ⟨gb101, 1, none⟩ = some (.slice A0_1 l0_1.length c0_1) := (blk_cell BK101.out 1).trans rfl; have hfz41_0 := blk_frozen BK101.out 0; have hfz41_1 := blk_frozen BK101.out 1) | (go_at_call 119; (with_reducible refine (impl_Lat_le.calls a0_0 _ _ l0_1 x8_1 x38_4 false _ ?side1 ?side2 A29.out).mono ?_); (case side1 => exact qz17 HR0_1.out); (case side2 => exact HC0_1.out); rintro e w42 ⟨rfl, hb⟩; have n0_ := Aside0.mk (blk_below (g := gb101) (o := .cells #[.int .i64 a0_0, .slice A0_1 l0_1.length c0_1] 47 (0, 0)) (qz8 BK101.out) hb); have n1_ := Aside0.mk (below_step (qz10 GE101.out) hb); clear BK101; clear HB; have BK101 := n0_; have HB := n1_; clear n0_ n1_; (try clear hb); (try clear hb2); (try clear hk); (try clear hi)))
                 go_ret
                 exact ⟨qz13, qz10 GE101.out⟩
               ·replace c28 := Bool.eq_false_iff.mpr c28
                subst c28
                have H1 : (impl_Lat_isOrder.l2 k4 x8_1 x18_2 a0_0 x8_1 a0_0 x18_2 a0_0 (wrap64 (x38_4 + 1)) a0_0 l0_1) = some r := by rw [if_neg (show ¬ (false = true) by decide)] at H; exact H
                clear H
                have H := H1
                clear H1
                have H' := Aside0.mk H
                clear H
                have hcz43_0 : wr.cell? ⟨gb101, 0, none⟩ = some (.int .i64 a0_0) := (blk_cell BK101.out 0).trans rfl
                have hcz43_1 : wr.cell? ⟨gb101, 1, none⟩ = some (.slice A0_1 l0_1.length c0_1) := (blk_cell BK101.out 1).trans rfl
                have hfz43_0 := blk_frozen BK101.out 0
                have hfz43_1 := blk_frozen BK101.out 1
                go_wp2_with (first | ((with_reducible refine gate_callee (f := 119) rfl ?_); refine goesL_ (some 44) rfl rfl Try.func119 (by kernel_rfl) rfl #[.agg #[.int .i64 a0_0, .slice A0_1 l0_1.length c0_1], .int .i64 x8_1, .int .i64 x18_2] rfl qz1 ?_; (with_reducible refine (impl_Lat_le.calls a0_0 _ _ l0_1 x8_1 x18_2 true _ ?side1 ?side2 A25.out).mono ?_); (case side1 => exact qz17 HR0_1.out); (case side2 => exact HC0_1.out); rintro e w44 ⟨rfl, hb⟩; refine ⟨_, rfl, ?_⟩; have n0_ := Aside0.mk (blk_below (g := gb101) (o := .cells #[.int .i64 a0_0, .slice A0_1 l0_1.length c0_1] 47 (0, 0)) (qz8 BK101.out) hb); have n1_ := Aside0.mk (below_step (qz10 GE101.out) hb); clear BK101; clear HB; have BK101 := n0_; have HB := n1_; clear n0_ n1_; (try clear hb); (try clear hb2); (try clear hk); (try clear hi); have hcz45_0 : w44.cell? ⟨gb101, 0, none⟩ = some (.int .i64 a0_0) := (blk_cell BK101.out 0).trans rfl; have hcz45_1 : w44.cell? ⟨gb101, 1, none⟩ = some (.slice A0_1 l0_1.length c0_1) := (blk_cell BK101.out 1).trans rfl; have hfz45_0 := blk_frozen BK101.out 0; have hfz45_1 := blk_frozen BK101.out 1) | (go_at_call 119; (with_reducible refine (impl_Lat_le.calls a0_0 _ _ l0_1 x18_2 x38_4 false _ ?side1 ?side2 A27.out).mono ?_); (case side1 => exact qz17 HR0_1.out); (case side2 => exact HC0_1.out); rintro e w46 ⟨rfl, hb⟩; have n0_ := Aside0.mk (blk_below (g := gb101) (o := .cells #[.int .i64 a0_0, .slice A0_1 l0_1.length c0_1] 47 (0, 0)) (qz8 BK101.out) hb); have n1_ := Aside0.mk (below_step (qz10 GE101.out) hb); clear BK101; clear HB; have BK101 := n0_; have HB := n1_; clear n0_ n1_; (try clear hb); (try clear hb2); (try clear hk); (try clear hi)))
                go_roundg k4
                case measure => have := HK1.out; have := HK2.out; have := HJ10.out; have := HK4.out; omega
                case rel => exact ⟨(wrap64 (x38_4 + 1)), qz2, H', ⟨qz32 HK1.out HK2.out HJ10.out HK4.out⟩, ⟨qz8 BK101.out⟩, ⟨qz10 GE101.out⟩⟩
              ·replace c26 := Bool.eq_false_iff.mpr c26
               subst c26
               have H1 : (impl_Lat_isOrder.l2 k4 x8_1 x18_2 a0_0 x8_1 a0_0 x18_2 a0_0 (wrap64 (x38_4 + 1)) a0_0 l0_1) = some r := by rw [if_neg (show ¬ (false = true) by decide)] at H; exact H
               clear H
               have H := H1
               clear H1
               have H' := Aside0.mk H
               clear H
               have hcz47_0 : wr.cell? ⟨gb101, 0, none⟩ = some (.int .i64 a0_0) := (blk_cell BK101.out 0).trans rfl
               have hcz47_1 : wr.cell? ⟨gb101, 1, none⟩ = some (.slice A0_1 l0_1.length c0_1) := (blk_cell BK101.out 1).trans rfl
               have hfz47_0 := blk_frozen BK101.out 0
               have hfz47_1 := blk_frozen BK101.out 1
               go_wp2_with (first | ((with_reducible refine gate_callee (f := 119) rfl ?_); refine goesL_ (some 44) rfl rfl Try.func119 (by kernel_rfl) rfl #[.agg #[.int .i64 a0_0, .slice A0_1 l0_1.length c0_1], .int .i64 x8_1, .int .i64 x18_2] rfl qz1 ?_; (with_reducible refine (impl_Lat_le.calls a0_0 _ _ l0_1 x8_1 x18_2 false _ ?side1 ?side2 A25.out).mono ?_); (case side1 => exact qz17 HR0_1.out); (case side2 => exact HC0_1.out); rintro e w48 ⟨rfl, hb⟩; refine ⟨_, rfl, ?_⟩; have n0_ := Aside0.mk (blk_below (g := gb101) (o := .cells #[.int .i64 a0_0, .slice A0_1 l0_1.length c0_1] 47 (0, 0)) (qz8 BK101.out) hb); have n1_ := Aside0.mk (below_step (qz10 GE101.out) hb); clear BK101; clear HB; have BK101 := n0_; have HB := n1_; clear n0_ n1_; (try clear hb); (try clear hb2); (try clear hk); (try clear hi)))
               go_roundg k4
               case measure => have := HK1.out; have := HK2.out; have := HJ10.out; have := HK4.out; omega
               case rel => exact ⟨(wrap64 (x38_4 + 1)), qz2, H', ⟨qz32 HK1.out HK2.out HJ10.out HK4.out⟩, ⟨qz8 BK101.out⟩, ⟨qz10 GE101.out⟩⟩
             ·rw [if_neg c24] at H
              have c24b0 : decide (x38_4 < a0_0) = false := decide_eq_false c24
              clear c24
              have H' := Aside0.mk H
              clear H
              go_wp2
              go_roundg k4
              case measure => have := HK1.out; have := HK2.out; have := HJ10.out; have := HK4.out; omega
              case rel => exact ⟨(wrap64 (x18_2 + 1)), qz2, H', ⟨qz32 HK1.out HK2.out HJ10.out HK4.out⟩, ⟨qz8 BK101.out⟩, ⟨qz10 GE101.out⟩⟩
       ·rw [if_neg c10] at H
        have c10b0 : decide (x18_2 < a0_0) = false := decide_eq_false c10
        clear c10
        have H' := Aside0.mk H
        clear H
        go_wp2
        go_roundg k2
        case measure => have := HK1.out; have := HK2.out; omega
        case rel => exact ⟨(wrap64 (x8_1 + 1)), qz2, H', ⟨qz34 HK1.out HK2.out⟩, ⟨qz8 BK101.out⟩, ⟨qz10 GE101.out⟩⟩
    ·replace c6 := Bool.eq_false_iff.mpr c6
     subst c6
     have H1 : (some false) = some r := by rw [if_neg (show ¬ (false = true) by decide)] at H; exact H
     clear H
     have H := H1
     clear H1
     obtain rfl := Option.some.inj H
     have hcz49_0 : wr.cell? ⟨gb101, 0, none⟩ = some (.int .i64 a0_0) := (blk_cell BK101.out 0).trans rfl
     have hcz49_1 : wr.cell? ⟨gb101, 1, none⟩ = some (.slice A0_1 l0_1.length c0_1) := (blk_cell BK101.out 1).trans rfl
     have hfz49_0 := blk_frozen BK101.out 0
     have hfz49_1 := blk_frozen BK101.out 1
     go_wp2_with (first | ((with_reducible refine gate_callee (f := 119) rfl ?_); refine goesL_ (some 14) rfl rfl Try.func119 (by kernel_rfl) rfl #[.agg #[.int .i64 a0_0, .slice A0_1 l0_1.length c0_1], .int .i64 x8_1, .int .i64 x8_1] rfl qz1 ?_; (with_reducible refine (impl_Lat_le.calls a0_0 _ _ l0_1 x8_1 x8_1 false _ ?side1 ?side2 A5.out).mono ?_); (case side1 => exact qz17 HR0_1.out); (case side2 => exact HC0_1.out); rintro e w50 ⟨rfl, hb⟩; refine ⟨_, rfl, ?_⟩; have n0_ := Aside0.mk (blk_below (g := gb101) (o := .cells #[.int .i64 a0_0, .slice A0_1 l0_1.length c0_1] 47 (0, 0)) (qz8 BK101.out) hb); have n1_ := Aside0.mk (below_step (qz10 GE101.out) hb); clear BK101; clear HB; have BK101 := n0_; have HB := n1_; clear n0_ n1_; (try clear hb); (try clear hb2); (try clear hk); (try clear hi)))
     go_ret
     exact ⟨qz13, qz10 GE101.out⟩
   ·rw [if_neg c4] at H
    have c4b0 : decide (x8_1 < a0_0) = false := decide_eq_false c4
    clear c4
    obtain rfl := Option.some.inj H
    go_wp2
    go_ret
    exact ⟨qz13, qz10 GE101.out⟩

end Go.Proofs.Ytjhfjnknajhanaa.P

namespace Go.Proofs.Ytjhfjnknajhanaa.P
open Go.RowKit Go.Proofs.YtjhfjnknajhanaaW.PrintWords Go.Proofs.YtjhfjnknajhanaaW.PrintLast Go.Proofs.YtjhfjnknajhanaaW.PrintMore
attribute [local go_sem] max2_int min2_int max_two min_two max_three min_three max_four min_four   -- for this text's walks alone
set_option linter.unusedVariables false
set_option linter.unusedSimpArgs false

/-! ### impl_isLat: function 118 -/
set_option maxHeartbeats 8000000 in
set_option maxRecDepth 100000 in
theorem impl_isLat.calls (k : Nat) (a0_0 : Int) (A0_1 : Option Addr) (c0_1 : Nat) (l0_1 : List Int) (r : Bool) (w : World) (hr0_1 : Kd.C (Kd.int .u64) w A0_1 l0_1.length l0_1) (hc0_1 : l0_1.length ≤ c0_1) (h : impl_isLat.f k a0_0 l0_1 = some r) :
  Calls Try.prog 118 #[.agg #[.int .i64 a0_0, .slice A0_1 l0_1.length c0_1]] w fun e w' => e = .returned (.bool r) ∧ Below w.heap.size w w' := by
 have hu47 := Try.underlying47
 have HR0_1 := Aside0.mk hr0_1
 have HC0_1 := Aside0.mk hc0_1
 clear hr0_1 hc0_1
 have HB := Aside0.mk (Below.refl w.heap.size w)
 have H : ((impl_in.f a0_0 1 16).bind fun t102 => (if t102 = true then (impl_isLat.j0 k ((l0_1.length : Int) != a0_0) a0_0 l0_1) else (impl_isLat.j0 k true a0_0 l0_1))) = some r := h
 clear h
 have HC2 := Aside0.mk H
 clear H
 go_enter Try.func118, Try.ntmps118
 go_upto_region 1 with (first | ((with_reducible refine gate_dst (N := 1) rfl ?_); (try (refine gate_guard (by rfl) ?_; dsimp only)); refine box_event ?hg (N := 1) ?hd (cs := #[.int .i64 a0_0, .slice A0_1 l0_1.length c0_1]) (t := 47) ?hr ?_; (case hd => rfl); (case hg => rfl); (case hr => exact qz5); intro gb101 hg w3 hbox hb; have n0_ := Aside0.mk (below_step qz6 hb); have n1_ := Aside0.mk (hbox); have n2_ := Aside0.mk ((qz7 : w.heap.size ≤ gb101)); have n3_ := Aside0.mk ((qz7 : w.heap.size ≤ gb101)); clear HB; have HB := n0_; have BK101 := n1_; have GW101 := n2_; have GE101 := n3_; clear n0_ n1_ n2_ n3_; clear hb hbox hg))
 (try simp only [Act.put, List.setIfInBounds_toArray, List.set_cons_zero, List.set_cons_succ])
 go_cut [18] (fun v18 wc => ∃ (kq : Nat) (x18_1 : Bool), v18 = .bool x18_1 ∧ Aside0 (impl_isLat.j0 kq x18_1 a0_0 l0_1 = some r) ∧ Aside0 (kq ≤ k) ∧ Aside0 (wc.heap[gb101]? = some (.cells #[.int .i64 a0_0, (.slice A0_1 l0_1.length c0_1)] 47 (0, 0))) ∧ Aside0 (Below w.heap.size w wc))
 case first =>
  have H := HC2.out
  clear HC2
  replace H := Option.bind_eq_some_iff.mp H
  obtain ⟨t102, A40, H⟩ := H
  replace H : (if t102 = true then (impl_isLat.j0 k ((l0_1.length : Int) != a0_0) a0_0 l0_1) else (impl_isLat.j0 k true a0_0 l0_1)) = some r := H
  have A4 := Aside0.mk A40
  clear A40
  by_cases c5 : t102 = true
  ·subst c5
   have H1 : (impl_isLat.j0 k ((l0_1.length : Int) != a0_0) a0_0 l0_1) = some r := by rw [if_pos rfl] at H; exact H
   clear H
   have H := H1
   clear H1
   have H' := Aside0.mk H
   clear H
   have hcz6_0 : w3.cell? ⟨gb101, 0, none⟩ = some (.int .i64 a0_0) := (blk_cell BK101.out 0).trans rfl
   have hcz6_1 : w3.cell? ⟨gb101, 1, none⟩ = some (.slice A0_1 l0_1.length c0_1) := (blk_cell BK101.out 1).trans rfl
   have hfz6_0 := blk_frozen BK101.out 0
   have hfz6_1 := blk_frozen BK101.out 1
   go_wp2_with (first | ((with_reducible refine gate_callee (f := 123) rfl ?_); refine goesL_ (some 9) rfl rfl Try.func123 (by kernel_rfl) rfl #[.int .i64 a0_0, .int .i64 1, .int .i64 16] rfl qz1 ?_; (with_reducible refine (impl_in.calls a0_0 1 16 true _ A4.out).mono ?_); rintro e w' ⟨rfl, ⟨nd, rfl⟩⟩; refine ⟨_, rfl, ?_⟩))
   go_meet
   case rel => exact ⟨_, (((l0_1.length : Int) != a0_0)), qz2, H', ⟨qz36⟩, ⟨qz8 BK101.out⟩, ⟨qz10 GE101.out⟩⟩
  ·replace c5 := Bool.eq_false_iff.mpr c5
   subst c5
   have H1 : (impl_isLat.j0 k true a0_0 l0_1) = some r := by rw [if_neg (show ¬ (false = true) by decide)] at H; exact H
   clear H
   have H := H1
   clear H1
   have H' := Aside0.mk H
   clear H
   have hcz7_0 : w3.cell? ⟨gb101, 0, none⟩ = some (.int .i64 a0_0) := (blk_cell BK101.out 0).trans rfl
   have hcz7_1 : w3.cell? ⟨gb101, 1, none⟩ = some (.slice A0_1 l0_1.length c0_1) := (blk_cell BK101.out 1).trans rfl
   have hfz7_0 := blk_frozen BK101.out 0
   have hfz7_1 := blk_frozen BK101.out 1
   go_wp2_with (first | ((with_reducible refine gate_callee (f := 123) rfl ?_); refine goesL_ (some 9) rfl rfl Try.func123 (by kernel_rfl) rfl #[.int .i64 a0_0, .int .i64 1, .int .i64 16] rfl qz1 ?_; (with_reducible refine (impl_in.calls a0_0 1 16 false _ A4.out).mono ?_); rintro e w' ⟨rfl, ⟨nd, rfl⟩⟩; refine ⟨_, rfl, ?_⟩))
   go_meet
   case rel => exact ⟨_, (true), qz2, H', ⟨qz36⟩, ⟨qz8 BK101.out⟩, ⟨qz10 GE101.out⟩⟩
 case rest =>
  clear HC2
  try clear c1
  try clear p2
  try clear c5
  try clear hcz6_0
  try clear hcz6_1
  try clear hcz7_0
  try clear hcz7_1
  try clear hfz6_0
  try clear hfz6_1
  try clear hfz7_0
  try clear hfz7_1
  obtain ⟨kq, x18_1, rfl, HA, HJ1, BK101, HB⟩ := hcut
  cases kq with
  | zero => exact absurd HA.out (by simp [impl_isLat.j0])
  | succ kj1 =>
   have H := HA.out
   clear HA
   simp only [impl_isLat.j0] at H
   by_cases c8 : x18_1 = true
   ·subst c8
    have H1 : (some false) = some r := by rw [if_pos rfl] at H; exact H
    clear H
    have H := H1
    clear H1
    obtain rfl := Option.some.inj H
    go_wp2
    go_ret
    exact ⟨qz13, qz10 GE101.out⟩
   ·replace c8 := Bool.eq_false_iff.mpr c8
    subst c8
    have H1 : (impl_isLat.l0 kj1 l0_1 (l0_1.length : Int) 0 a0_0 l0_1) = some r := by rw [if_neg (show ¬ (false = true) by decide)] at H; exact H
    clear H
    have H := H1
    clear H1
    have H' := Aside0.mk H
    clear H
    have hcz9_0 : wc.cell? ⟨gb101, 0, none⟩ = some (.int .i64 a0_0) := (blk_cell BK101.out 0).trans rfl
    have hcz9_1 : wc.cell? ⟨gb101, 1, none⟩ = some (.slice A0_1 l0_1.length c0_1) := (blk_cell BK101.out 1).trans rfl
    have hfz9_0 := blk_frozen BK101.out 0
    have hfz9_1 := blk_frozen BK101.out 1
    go_wp2
    go_loopg [22] kj1 (fun kq v22 w' => ∃ (x22_2 : Int), v22 = .int .i64 x22_2 ∧ Aside0 (impl_isLat.l0 kq l0_1 (l0_1.length : Int) x22_2 a0_0 l0_1 = some r) ∧ Aside0 (kq ≤ kj1) ∧ Aside0 (w'.heap[gb101]? = some (.cells #[.int .i64 a0_0, (.slice A0_1 l0_1.length c0_1)] 47 (0, 0))) ∧ Aside0 (Below w.heap.size w w'))
    case atStart => exact ⟨(0), qz2, H', ⟨Nat.le_refl _⟩, ⟨qz8 BK101.out⟩, ⟨qz10 GE101.out⟩⟩
    case round =>
     clear H'
     try clear c1
     try clear p2
     try clear c5
     try clear c8
     try clear hcz6_0
     try clear hcz6_1
     try clear hcz7_0
     try clear hcz7_1
     try clear hcz9_0
     try clear hcz9_1
     try clear hfz6_0
     try clear hfz6_1
     try clear hfz7_0
     try clear hfz7_1
     try clear hfz9_0
     try clear hfz9_1
     try clear p2
     obtain ⟨x22_2, rfl, HA, HK2, BK101, HB⟩ := hrel
     cases gk with
     | zero => exact absurd HA.out (by simp [impl_isLat.l0])
     | succ k2 =>
      have H := HA.out
      clear HA
      simp only [impl_isLat.l0] at H
      by_cases c10 : x22_2 < (l0_1.length : Int)
      ·rw [if_pos c10] at H
       have c10b0 : decide (x22_2 < (l0_1.length : Int)) = true := decide_eq_true c10
       clear c10
       by_cases c11 : 0 ≤ x22_2
       ·rw [if_pos c11] at H
        have c11b0 : decide (0 ≤ x22_2) = true := decide_eq_true c11
        clear c11
        by_cases c12 : x22_2 < (l0_1.length : Int)
        ·rw [if_pos c12] at H
         have c12b0 : decide (x22_2 < (l0_1.length : Int)) = true := decide_eq_true c12
         clear c12
         by_cases c13 : 0 ≤ a0_0
         ·rw [if_pos c13] at H
          have c13b0 := eq_true c13
          have c13b1 : decide (0 ≤ a0_0) = true := decide_eq_true c13
          clear c13
          obtain ⟨ji14, hji14⟩ : ∃ j_ : Int, (shr .u64 (rd l0_1 x22_2) a0_0) = j_ := ⟨_, rfl⟩
          replace H : (if (ji14) = 0 then (impl_isLat.l0 k2 l0_1 (l0_1.length : Int) (wrap64 (x22_2 + 1)) a0_0 l0_1) else (some false)) = some r := by first | (rw [hji14] at H; exact H) | (simp only [hji14] at H ⊢; exact H)
          have hji14_ : ((rd l0_1 x22_2) / 2 ^ min a0_0.toNat 64) = ji14 := hji14
          have hji14z : a0_0 ≤ 64 → ((rd l0_1 x22_2) / 2 ^ a0_0.toNat) = ji14 := shr_small hji14
          by_cases c15 : (ji14) = 0
          ·rw [if_pos c15] at H
           have c15b0 : ((ji14) == 0) = true := beq_iff_eq.mpr c15
           have c15b1 : ((ji14) != 0) = false := bne_eq_false_iff_eq.mpr c15
           clear c15
           have H' := Aside0.mk H
           clear H
           have p103 : 0 ≤ (x22_2 : Int) := of_decide_eq_true qz4
           have q103 : x22_2 < (l0_1.length : Int) := of_decide_eq_true qz4
           obtain ⟨ad103, e103, hx103_0⟩ := Kd.at_int HR0_1.out x22_2 p103 q103
           cases e103
           replace hx103_0 := qcb HB hx103_0
           replace p103 := eq_true p103
           replace q103 := eq_true q103
           have hcz16_0 : wr.cell? ⟨gb101, 0, none⟩ = some (.int .i64 a0_0) := (blk_cell BK101.out 0).trans rfl
           have hcz16_1 : wr.cell? ⟨gb101, 1, none⟩ = some (.slice (some ad103) l0_1.length c0_1) := (blk_cell BK101.out 1).trans rfl
           have hfz16_0 := blk_frozen BK101.out 0
           have hfz16_1 := blk_frozen BK101.out 1
           go_wp2
           go_roundg k2
           case measure => have := HJ1.out; have := HK2.out; omega
           case rel => exact ⟨(wrap64 (x22_2 + 1)), qz2, H', ⟨qz34 HJ1.out HK2.out⟩, ⟨qz8 BK101.out⟩, ⟨qz10 GE101.out⟩⟩
          ·rw [if_neg c15] at H
           have c15b0 : ((ji14) == 0) = false := beq_eq_false_iff_ne.mpr c15
           have c15b1 : ((ji14) != 0) = true := bne_iff_ne.mpr c15
           obtain rfl := Option.some.inj H
           have p103 : 0 ≤ (x22_2 : Int) := of_decide_eq_true qz4
           have q103 : x22_2 < (l0_1.length : Int) := of_decide_eq_true qz4
           obtain ⟨ad103, e103, hx103_0⟩ := Kd.at_int HR0_1.out x22_2 p103 q103
           cases e103
           replace hx103_0 := qcb HB hx103_0
           replace p103 := eq_true p103
           replace q103 := eq_true q103
           have hcz17_0 : wr.cell? ⟨gb101, 0, none⟩ = some (.int .i64 a0_0) := (blk_cell BK101.out 0).trans rfl
           have hcz17_1 : wr.cell? ⟨gb101, 1, none⟩ = some (.slice (some ad103) l0_1.length c0_1) := (blk_cell BK101.out 1).trans rfl
           have hfz17_0 := blk_frozen BK101.out 0
           have hfz17_1 := blk_frozen BK101.out 1
           go_wp2
           go_ret
           exact ⟨qz112, qz10 GE101.out⟩
         ·rw [if_neg c13] at H
          exact absurd H (by simp)
        ·rw [if_neg c12] at H
         exact absurd H (by simp)
       ·rw [if_neg c11] at H
        exact absurd H (by simp)
      ·rw [if_neg c10] at H
       have c10b0 : decide (x22_2 < (l0_1.length : Int)) = false := decide_eq_false c10
       clear c10
       replace H := Option.bind_eq_some_iff.mp H
       obtain ⟨t104, A180, H⟩ := H
       replace H : (if t104 = true then (impl_isLat.l1 k2 a0_0 0 a0_0 l0_1) else (some false)) = some r := H
       have A18 := Aside0.mk A180
       clear A180
       by_cases c19 : t104 = true
       ·subst c19
        have H1 : (impl_isLat.l1 k2 a0_0 0 a0_0 l0_1) = some r := by rw [if_pos rfl] at H; exact H
        clear H
        have H := H1
        clear H1
        have H' := Aside0.mk H
        clear H
        have hcz20_0 : wr.cell? ⟨gb101, 0, none⟩ = some (.int .i64 a0_0) := (blk_cell BK101.out 0).trans rfl
        have hcz20_1 : wr.cell? ⟨gb101, 1, none⟩ = some (.slice A0_1 l0_1.length c0_1) := (blk_cell BK101.out 1).trans rfl
        have hfz20_0 := blk_frozen BK101.out 0
        have hfz20_1 := blk_frozen BK101.out 1
        go_wp2_with (first | ((with_reducible refine gate_callee (f := 211) rfl ?_); refine goesL_ (some 33) rfl rfl Try.func211 (by kernel_rfl) rfl #[.agg #[.int .i64 a0_0, .slice A0_1 l0_1.length c0_1]] rfl qz1 ?_; (with_reducible refine (impl_Lat_isOrder.calls k2 a0_0 _ _ l0_1 true _ ?side1 ?side2 A18.out).mono ?_); (case side1 => exact qz17 HR0_1.out); (case side2 => exact HC0_1.out); rintro e w21 ⟨rfl, hb⟩; refine ⟨_, rfl, ?_⟩; have n0_ := Aside0.mk (blk_below (g := gb101) (o := .cells #[.int .i64 a0_0, .slice A0_1 l0_1.length c0_1] 47 (0, 0)) (qz8 BK101.out) hb); have n1_ := Aside0.mk (below_step (qz10 GE101.out) hb); clear BK101; clear HB; have BK101 := n0_; have HB := n1_; clear n0_ n1_; (try clear hb); (try clear hb2); (try clear hk); (try clear hi); have hcz22_0 : w21.cell? ⟨gb101, 0, none⟩ = some (.int .i64 a0_0) := (blk_cell BK101.out 0).trans rfl; have hcz22_1 : w21.cell? ⟨gb101, 1, none⟩ = some (.slice A0_1 l0_1.length c0_1) := (blk_cell BK101.out 1).trans rfl; have hfz22_0 := blk_frozen BK101.out 0; have hfz22_1 := blk_frozen BK101.out 1))
        go_loopg [37] k2 (fun kq v37 w' => ∃ (x37_3 : Int), v37 = .int .i64 x37_3 ∧ Aside0 (impl_isLat.l1 kq a0_0 x37_3 a0_0 l0_1 = some r) ∧ Aside0 (kq ≤ k2) ∧ Aside0 (w'.heap[gb101]? = some (.cells #[.int .i64 a0_0, (.slice A0_1 l0_1.length c0_1)] 47 (0, 0))) ∧ Aside0 (Below w.heap.size w w'))
        case atStart => exact ⟨(0), qz2, H', ⟨Nat.le_refl _⟩, ⟨qz8 BK101.out⟩, ⟨qz10 GE101.out⟩⟩
        case round =>
         clear H'
         try clear c1
         try clear p1
         try clear q1
         try clear hx1
         try clear c2
         try clear p2
         try clear c5
         try clear p6
         try clear c8
         try clear c10
         try clear c10b0
         try clear p10
         try clear q10
         try clear hx10
         try clear c11
         try clear c11b0
         try clear c12
         try clear c12b0
         try clear c13
         try clear c13b0
         try clear c13b1
         try clear c15
         try clear c15b0
         try clear c15b1
         try clear c19
         try clear c21
         try clear hcz16_0
         try clear hcz16_1
         try clear hcz17_0
         try clear hcz17_1
         try clear hcz20_0
         try clear hcz20_1
         try clear hcz22_0
         try clear hcz22_1
         try clear hcz6_0
         try clear hcz6_1
         try clear hcz7_0
         try clear hcz7_1
         try clear hcz9_0
         try clear hcz9_1
         try clear hfz16_0
         try clear hfz16_1
         try clear hfz17_0
         try clear hfz17_1
         try clear hfz20_0
         try clear hfz20_1
         try clear hfz22_0
         try clear hfz22_1
         try clear hfz6_0
         try clear hfz6_1
         try clear hfz7_0
         try clear hfz7_1
         try clear hfz9_0
         try clear hfz9_1
         try clear hx103_0
         try clear p103
         try clear p2
         try clear q103
         obtain ⟨x37_3, rfl, HA, HK3, BK101, HB⟩ := hrel
         cases gk with
         | zero => exact absurd HA.out (by simp [impl_isLat.l1])
         | succ k3 =>
          have H := HA.out
          clear HA
          simp only [impl_isLat.l1] at H
          by_cases c23 : x37_3 < a0_0
          ·rw [if_pos c23] at H
           have c23b0 : decide (x37_3 < a0_0) = true := decide_eq_true c23
           clear c23
           have H' := Aside0.mk H
           clear H
           have hcz24_0 : wr.cell? ⟨gb101, 0, none⟩ = some (.int .i64 a0_0) := (blk_cell BK101.out 0).trans rfl
           have hcz24_1 : wr.cell? ⟨gb101, 1, none⟩ = some (.slice A0_1 l0_1.length c0_1) := (blk_cell BK101.out 1).trans rfl
           have hfz24_0 := blk_frozen BK101.out 0
           have hfz24_1 := blk_frozen BK101.out 1
           go_wp2
           go_loopg [42] k3 (fun kq v42 w' => ∃ (x42_4 : Int), v42 = .int .i64 x42_4 ∧ Aside0 (impl_isLat.l2 kq x37_3 a0_0 x37_3 a0_0 x42_4 a0_0 l0_1 = some r) ∧ Aside0 (kq ≤ k3) ∧ Aside0 (w'.heap[gb101]? = some (.cells #[.int .i64 a0_0, (.slice A0_1 l0_1.length c0_1)] 47 (0, 0))) ∧ Aside0 (Below w.heap.size w w'))
           case atStart => exact ⟨(0), qz2, H', ⟨Nat.le_refl _⟩, ⟨qz8 BK101.out⟩, ⟨qz10 GE101.out⟩⟩
           case round =>
            clear H'
            try clear c1
            try clear p1
            try clear q1
            try clear hx1
            try clear c2
            try clear p2
            try clear c5
            try clear p6
            try clear c8
            try clear c10
            try clear c10b0
            try clear p10
            try clear q10
            try clear hx10
            try clear c11
            try clear c11b0
            try clear c12
            try clear c12b0
            try clear c13
            try clear c13b0
            try clear c13b1
            try clear c15
            try clear c15b0
            try clear c15b1
            try clear c19
            try clear c21
            try clear c23
            try clear c23b0
            try clear hcz16_0
            try clear hcz16_1
            try clear hcz17_0
            try clear hcz17_1
            try clear hcz20_0
            try clear hcz20_1
            try clear hcz22_0
            try clear hcz22_1
            try clear hcz24_0
            try clear hcz24_1
            try clear hcz6_0
            try clear hcz6_1
            try clear hcz7_0
            try clear hcz7_1
            try clear hcz9_0
            try clear hcz9_1
            try clear hfz16_0
            try clear hfz16_1
            try clear hfz17_0
            try clear hfz17_1
            try clear hfz20_0
            try clear hfz20_1
            try clear hfz22_0
            try clear hfz22_1
            try clear hfz24_0
            try clear hfz24_1
            try clear hfz6_0
            try clear hfz6_1
            try clear hfz7_0
            try clear hfz7_1
            try clear hfz9_0
            try clear hfz9_1
            try clear hx103_0
            try clear p1
            try clear p10
            try clear p103
            try clear p2
            try clear p6
            try clear q1
            try clear q10
            try clear q103
            obtain ⟨x42_4, rfl, HA, HK4, BK101, HB⟩ := hrel
            cases gk with
            | zero => exact absurd HA.out (by simp [impl_isLat.l2])
            | succ k4 =>
             have H := HA.out
             clear HA
             simp only [impl_isLat.l2] at H
             by_cases c25 : x42_4 < a0_0
             ·rw [if_pos c25] at H
              have c25b0 : decide (x42_4 < a0_0) = true := decide_eq_true c25
              clear c25
              replace H := Option.bind_eq_some_iff.mp H
              obtain ⟨t105, A260, H⟩ := H
              replace H : (if t105 < 0 then (some false) else ((impl_Lat_bound.f k4 a0_0 l0_1 x37_3 x42_4 false).bind fun t106 => (if t106 < 0 then (some false) else (impl_isLat.l2 k4 x37_3 a0_0 x37_3 a0_0 (wrap64 (x42_4 + 1)) a0_0 l0_1)))) = some r := H
              have A26 := Aside0.mk A260
              clear A260
              by_cases c27 : t105 < 0
              ·rw [if_pos c27] at H
               have c27b0 : decide (t105 < 0) = true := decide_eq_true c27
               clear c27
               obtain rfl := Option.some.inj H
               have hcz28_0 : wr.cell? ⟨gb101, 0, none⟩ = some (.int .i64 a0_0) := (blk_cell BK101.out 0).trans rfl
               have hcz28_1 : wr.cell? ⟨gb101, 1, none⟩ = some (.slice A0_1 l0_1.length c0_1) := (blk_cell BK101.out 1).trans rfl
               have hfz28_0 := blk_frozen BK101.out 0
               have hfz28_1 := blk_frozen BK101.out 1
               go_wp2_with (first | ((with_reducible refine gate_callee (f := 128) rfl ?_); refine goesL_ (some 48) rfl rfl Try.func128 (by kernel_rfl) rfl #[.agg #[.int .i64 a0_0, .slice A0_1 l0_1.length c0_1], .int .i64 x37_3, .int .i64 x42_4, .bool true] rfl qz1 ?_; (with_reducible refine (impl_Lat_bound.calls k4 a0_0 _ _ l0_1 x37_3 x42_4 true t105 _ ?side1 ?side2 A26.out).mono ?_); (case side1 => exact qz17 HR0_1.out); (case side2 => exact HC0_1.out); rintro e w29 ⟨rfl, hb⟩; refine ⟨_, rfl, ?_⟩; have n0_ := Aside0.mk (blk_below (g := gb101) (o := .cells #[.int .i64 a0_0, .slice A0_1 l0_1.length c0_1] 47 (0, 0)) (qz8 BK101.out) hb); have n1_ := Aside0.mk (below_step (qz10 GE101.out) hb); clear BK101; clear HB; have BK101 := n0_; have HB := n1_; clear n0_ n1_; (try clear hb); (try clear hb2); (try clear hk); (try clear hi)))
               go_ret
               exact ⟨qz13, qz10 GE101.out⟩
              ·rw [if_neg c27] at H
               have c27b0 : decide (t105 < 0) = false := decide_eq_false c27
               clear c27
               replace H := Option.bind_eq_some_iff.mp H
               obtain ⟨t106, A300, H⟩ := H
               replace H : (if t106 < 0 then (some false) else (impl_isLat.l2 k4 x37_3 a0_0 x37_3 a0_0 (wrap64 (x42_4 + 1)) a0_0 l0_1)) = some r := H
               have A30 := Aside0.mk A300
               clear A300
               by_cases c31 : t106 < 0
               ·rw [if_pos c31] at H
                have c31b0 : decide (t106 < 0) = true := decide_eq_true c31
                clear c31
                obtain rfl := Option.some.inj H
                have hcz32_0 : wr.cell? ⟨gb101, 0, none⟩ = some (.int .i64 a0_0) := (blk_cell BK101.out 0).trans rfl
                have hcz32_1 : wr.cell? ⟨gb101, 1, none⟩ = some (.slice A0_1 l0_1.length c0_1) := (blk_cell BK101.out 1).trans rfl
                have hfz32_0 := blk_frozen BK101.out 0
                have hfz32_1 := blk_frozen BK101.out 1
                go_wp2_with (first | ((with_reducible refine gate_callee (f := 128) rfl ?_); refine goesL_ (some 48) rfl rfl Try.func128 (by kernel_rfl) rfl #[.agg #[.int .i64 a0_0, .slice A0_1 l0_1.length c0_1], .int .i64 x37_3, .int .i64 x42_4, .bool true] rfl qz1 ?_; (with_reducible refine (impl_Lat_bound.calls k4 a0_0 _ _ l0_1 x37_3 x42_4 true t105 _ ?side1 ?side2 A26.out).mono ?_); (case side1 => exact qz17 HR0_1.out); (case side2 => exact HC0_1.out); rintro e w33 ⟨rfl, hb⟩; refine ⟨_, rfl, ?_⟩; have n0_ := Aside0.mk (blk_below (g := gb101) (o := .cells #[.int .i64 a0_0, .slice A0_1 l0_1.length c0_1] 47 (0, 0)) (qz8 BK101.out) hb); have n1_ := Aside0.mk (below_step (qz10 GE101.out) hb); clear BK101; clear HB; have BK101 := n0_; have HB := n1_; clear n0_ n1_; (try clear hb); (try clear hb2); (try clear hk); (try clear hi); have hcz34_0 : w33.cell? ⟨gb101, 0, none⟩ = some (.int .i64 a0_0) := (blk_cell BK101.out 0).trans rfl; have hcz34_1 : w33.cell? ⟨gb101, 1, none⟩ = some (.slice A0_1 l0_1.length c0_1) := (blk_cell BK101.out 1).trans rfl; have hfz34_0 := blk_frozen BK101.out 0; have hfz34_1 := blk_frozen BK101.out 1) | (go_at_call 128; (with_reducible refine (impl_Lat_bound.calls k4 a0_0 _ _ l0_1 x37_3 x42_4 false t106 _ ?side1 ?side2 A30.out).mono ?_); (case side1 => exact qz17 HR0_1.out); (case side2 => exact HC0_1.out); rintro e w35 ⟨rfl, hb⟩; have n0_ := Aside0.mk (blk_below (g := gb101) (o := .cells #[.int .i64 a0_0, .slice A0_1 l0_1.length c0_1] 47 (0, 0)) (qz8 BK101.out) hb); have n1_ := Aside0.mk (below_step (qz10 GE101.out) hb); clear BK101; clear HB; have BK101 := n0_; have HB := n1_; clear n0_ n1_; (try clear hb); (try clear hb2); (try clear hk); (try clear hi)))
                go_ret
                exact ⟨qz13, qz10 GE101.out⟩
               ·rw [if_neg c31] at H
                have c31b0 : decide (t106 < 0) = false := decide_eq_false c31
                clear c31
                have H' := Aside0.mk H
                clear H
                have hcz36_0 : wr.cell? ⟨gb101, 0, none⟩ = some (.int .i64 a0_0) := (blk_cell BK101.out 0).trans rfl
                have hcz36_1 : wr.cell? ⟨gb101, 1, none⟩ = some (.slice A0_1 l0_1.length c0_1) := (blk_cell BK101.out 1).trans rfl
                have hfz36_0 := blk_frozen BK101.out 0
                have hfz36_1 := blk_frozen BK101.out 1
                go_wp2_with (first | ((with_reducible refine gate_callee (f := 128) rfl ?_); refine goesL_ (some 48) rfl rfl Try.func128 (by kernel_rfl) rfl #[.agg #[.int .i64 a0_0, .slice A0_1 l0_1.length c0_1], .int .i64 x37_3, .int .i64 x42_4, .bool true] rfl qz1 ?_; (with_reducible refine (impl_Lat_bound.calls k4 a0_0 _ _ l0_1 x37_3 x42_4 true t105 _ ?side1 ?side2 A26.out).mono ?_); (case side1 => exact qz17 HR0_1.out); (case side2 => exact HC0_1.out); rintro e w37 ⟨rfl, hb⟩; refine ⟨_, rfl, ?_⟩; have n0_ := Aside0.mk (blk_below (g := gb101) (o := .cells #[.int .i64 a0_0, .slice A0_1 l0_1.length c0_1] 47 (0, 0)) (qz8 BK101.out) hb); have n1_ := Aside0.mk (below_step (qz10 GE101.out) hb); clear BK101; clear HB; have BK101 := n0_; have HB := n1_; clear n0_ n1_; (try clear hb); (try clear hb2); (try clear hk); (try clear hi); have hcz38_0 : w37.cell? ⟨gb101, 0, none⟩ = some (.int .i64 a0_0) := (blk_cell BK101.out 0).trans rfl; have hcz38_1 : w37.cell? ⟨gb101, 1, none⟩ = some (.slice A0_1 l0_1.length c0_1) := (blk_cell BK101.out 1).trans rfl; have hfz38_0 := blk_frozen BK101.out 0; have hfz38_1 := blk_frozen BK101.out 1) | (go_at_call 128; (with_reducible refine (impl_Lat_bound.calls k4 a0_0 _ _ l0_1 x37_3 x42_4 false t106 _ ?side1 ?side2 A30.out).mono ?_); (case side1 => exact qz17 HR0_1.out); (case side2 => exact HC0_1.out); rintro e w39 ⟨rfl, hb⟩; have n0_ := Aside0.mk (blk_below (g := gb101) (o := .cells #[.int .i64 a0_0, .slice A0_1 l0_1.length c0_1] 47 (0, 0)) (qz8 BK101.out) hb); have n1_ := Aside0.mk (below_step (qz10 GE101.out) hb); clear BK101; clear HB; have BK101 := n0_; have HB := n1_; clear n0_ n1_; (try clear hb); (try clear hb2); (try clear hk); (try clear hi)))
                go_roundg k4
                case measure => have := HJ1.out; have := HK2.out; have := HK3.out; have := HK4.out; omega
                case rel => exact ⟨(wrap64 (x42_4 + 1)), qz2, H', ⟨qz32 HJ1.out HK2.out HK3.out HK4.out⟩, ⟨qz8 BK101.out⟩, ⟨qz10 GE101.out⟩⟩
             ·rw [if_neg c25] at H
              have c25b0 : decide (x42_4 < a0_0) = false := decide_eq_false c25
              clear c25
              have H' := Aside0.mk H
              clear H
              go_wp2
              go_roundg k4
              case measure => have := HJ1.out; have := HK2.out; have := HK3.out; have := HK4.out; omega
              case rel => exact ⟨(wrap64 (x37_3 + 1)), qz2, H', ⟨qz32 HJ1.out HK2.out HK3.out HK4.out⟩, ⟨qz8 BK101.out⟩, ⟨qz10 GE101.out⟩⟩
          ·rw [if_neg c23] at H
           have c23b0 : decide (x37_3 < a0_0) = false := decide_eq_false c23
           clear c23
           obtain rfl := Option.some.inj H
           go_wp2
           go_ret
           exact ⟨qz13, qz10 GE101.out⟩
       ·replace c19 := Bool.eq_false_iff.mpr c19
        subst c19
        have H1 : (some false) = some r := by rw [if_neg (show ¬ (false = true) by decide)] at H; exact H
        clear H
        have H := H1
        clear H1
        obtain rfl := Option.some.inj H
        have hcz40_0 : wr.cell? ⟨gb101, 0, none⟩ = some (.int .i64 a0_0) := (blk_cell BK101.out 0).trans rfl
        have hcz40_1 : wr.cell? ⟨gb101, 1, none⟩ = some (.slice A0_1 l0_1.length c0_1) := (blk_cell BK101.out 1).trans rfl
        have hfz40_0 := blk_frozen BK101.out 0
        have hfz40_1 := blk_frozen BK101.out 1
        go_wp2_with (first | ((with_reducible refine gate_callee (f := 211) rfl ?_); refine goesL_ (some 33) rfl rfl Try.func211 (by kernel_rfl) rfl #[.agg #[.int .i64 a0_0, .slice A0_1 l0_1.length c0_1]] rfl qz1 ?_; (with_reducible refine (impl_Lat_isOrder.calls k2 a0_0 _ _ l0_1 false _ ?side1 ?side2 A18.out).mono ?_); (case side1 => exact qz17 HR0_1.out); (case side2 => exact HC0_1.out); rintro e w41 ⟨rfl, hb⟩; refine ⟨_, rfl, ?_⟩; have n0_ := Aside0.mk (blk_below (g := gb101) (o := .cells #[.int .i64 a0_0, .slice A0_1 l0_1.length c0_1] 47 (0, 0)) (qz8 BK101.out) hb); have n1_ := Aside0.mk (below_step (qz10 GE101.out) hb); clear BK101; clear HB; have BK101 := n0_; have HB := n1_; clear n0_ n1_; (try clear hb); (try clear hb2); (try clear hk); (try clear hi)))
        go_ret
        exact ⟨qz13, qz10 GE101.out⟩

end Go.Proofs.Ytjhfjnknajhanaa.P

namespace Go.Proofs.Ytjhfjnknajhanaa.P
open Go.RowKit Go.Proofs.YtjhfjnknajhanaaW.PrintWords Go.Proofs.YtjhfjnknajhanaaW.PrintLast Go.Proofs.YtjhfjnknajhanaaW.PrintMore
attribute [local go_sem] max2_int min2_int max_two min_two max_three min_three max_four min_four   -- for this text's walks alone
set_option linter.unusedVariables false
set_option linter.unusedSimpArgs false

/-! ### impl_areLabels: function 126 -/
set_option maxHeartbeats 8000000 in
set_option maxRecDepth 100000 in
theorem impl_areLabels.calls (k : Nat) (a0_0 : Int) (A0_1 : Option Addr) (c0_1 : Nat) (l0_1 : List Int) (A1 : Option Addr) (c1 : Nat) (l1 : List Int) (r : Bool) (w : World) (hr0_1 : Kd.C (Kd.int .u64) w A0_1 l0_1.length l0_1) (hc0_1 : l0_1.length ≤ c0_1) (hr1 : Kd.C (Kd.int .i64) w A1 l1.length l1) (hc1 : l1.length ≤ c1) (h : impl_areLabels.f k a0_0 l0_1 l1 = some r) :
  Calls Try.prog 126 #[.agg #[.int .i64 a0_0, .slice A0_1 l0_1.length c0_1], .slice A1 l1.length c1] w fun e w' => e = .returned (.bool r) ∧ Below w.heap.size w w' := by
 have hu47 := Try.underlying47
 have HR0_1 := Aside0.mk hr0_1
 have HC0_1 := Aside0.mk hc0_1
 clear hr0_1 hc0_1
 have HR1 := Aside0.mk hr1
 have HC1 := Aside0.mk hc1
 clear hr1 hc1
 have HB := Aside0.mk (Below.refl w.heap.size w)
 have H : ((impl_isLat.f k a0_0 l0_1).bind fun t102 => (if t102 = true then (impl_areLabels.l0 k l1 (l1.length : Int) 0 a0_0 l0_1) else (some false))) = some r := h
 clear h
 replace H := Option.bind_eq_some_iff.mp H
 obtain ⟨t102, A30, H⟩ := H
 replace H : (if t102 = true then (impl_areLabels.l0 k l1 (l1.length : Int) 0 a0_0 l0_1) else (some false)) = some r := H
 have A3 := Aside0.mk A30
 clear A30
 by_cases c4 : t102 = true
 ·subst c4
  have H1 : (impl_areLabels.l0 k l1 (l1.length : Int) 0 a0_0 l0_1) = some r := by rw [if_pos rfl] at H; exact H
  clear H
  have H := H1
  clear H1
  have H' := Aside0.mk H
  clear H
  go_enter Try.func126, Try.ntmps126
  go_wp2_with (first | ((with_reducible refine gate_dst (N := 2) rfl ?_); refine box_event ?hg (N := 2) ?hd (cs := #[.int .i64 a0_0, .slice A0_1 l0_1.length c0_1]) (t := 47) ?hr ?_; (case hd => rfl); (case hg => rfl); (case hr => exact qz5); intro gb101 hg w5 hbox hb; have n0_ := Aside0.mk (below_step qz6 hb); have n1_ := Aside0.mk (hbox); have n2_ := Aside0.mk ((qz7 : w.heap.size ≤ gb101)); have n3_ := Aside0.mk ((qz7 : w.heap.size ≤ gb101)); clear HB; have HB := n0_; have BK101 := n1_; have GW101 := n2_; have GE101 := n3_; clear n0_ n1_ n2_ n3_; clear hb hbox hg; have hcz6_0 : w5.cell? ⟨gb101, 0, none⟩ = some (.int .i64 a0_0) := (blk_cell BK101.out 0).trans rfl; have hcz6_1 : w5.cell? ⟨gb101, 1, none⟩ = some (.slice A0_1 l0_1.length c0_1) := (blk_cell BK101.out 1).trans rfl; have hfz6_0 := blk_frozen BK101.out 0; have hfz6_1 := blk_frozen BK101.out 1) | ((with_reducible refine gate_callee (f := 118) rfl ?_); refine goesL_ (some 8) rfl rfl Try.func118 (by kernel_rfl) rfl #[.agg #[.int .i64 a0_0, .slice A0_1 l0_1.length c0_1]] rfl qz1 ?_; (with_reducible refine (impl_isLat.calls k a0_0 _ _ l0_1 true _ ?side1 ?side2 A3.out).mono ?_); (case side1 => exact qz17 HR0_1.out); (case side2 => exact HC0_1.out); rintro e w7 ⟨rfl, hb⟩; refine ⟨_, rfl, ?_⟩; have n0_ := Aside0.mk (blk_below (g := gb101) (o := .cells #[.int .i64 a0_0, .slice A0_1 l0_1.length c0_1] 47 (0, 0)) (qz8 BK101.out) hb); have n1_ := Aside0.mk (below_step (qz10 GE101.out) hb); clear BK101; clear HB; have BK101 := n0_; have HB := n1_; clear n0_ n1_; (try clear hb); (try clear hb2); (try clear hk); (try clear hi)))
  go_loopg [12] k (fun kq v12 w' => ∃ (x12_1 : Int), v12 = .int .i64 x12_1 ∧ Aside0 (impl_areLabels.l0 kq l1 (l1.length : Int) x12_1 a0_0 l0_1 = some r) ∧ Aside0 (kq ≤ k) ∧ Aside0 (w'.heap[gb101]? = some (.cells #[.int .i64 a0_0, (.slice A0_1 l0_1.length c0_1)] 47 (0, 0))) ∧ Aside0 (Below w.heap.size w w'))
  case atStart => exact ⟨(0), qz2, H', ⟨Nat.le_refl _⟩, ⟨qz8 BK101.out⟩, ⟨qz10 GE101.out⟩⟩
  case round =>
   clear H'
   try clear c1
   try clear p2
   try clear c4
   try clear hcz6_0
   try clear hcz6_1
   try clear hfz6_0
   try clear hfz6_1
   obtain ⟨x12_1, rfl, HA, HK1, BK101, HB⟩ := hrel
   cases gk with
   | zero => exact absurd HA.out (by simp [impl_areLabels.l0])
   | succ k1 =>
    have H := HA.out
    clear HA
    simp only [impl_areLabels.l0] at H
    by_cases c8 : x12_1 < (l1.length : Int)
    ·rw [if_pos c8] at H
     have c8b0 : decide (x12_1 < (l1.length : Int)) = true := decide_eq_true c8
     clear c8
     by_cases c9 : 0 ≤ x12_1
     ·rw [if_pos c9] at H
      have c9b0 : decide (0 ≤ x12_1) = true := decide_eq_true c9
      clear c9
      by_cases c10 : x12_1 < (l1.length : Int)
      ·rw [if_pos c10] at H
       have c10b0 : decide (x12_1 < (l1.length : Int)) = true := decide_eq_true c10
       clear c10
       replace H := Option.bind_eq_some_iff.mp H
       obtain ⟨t104, A110, H⟩ := H
       replace H : (if t104 = true then (impl_areLabels.l0 k1 l1 (l1.length : Int) (wrap64 (x12_1 + 1)) a0_0 l0_1) else (some false)) = some r := H
       have A11 := Aside0.mk A110
       clear A110
       by_cases c12 : t104 = true
       ·subst c12
        have H1 : (impl_areLabels.l0 k1 l1 (l1.length : Int) (wrap64 (x12_1 + 1)) a0_0 l0_1) = some r := by rw [if_pos rfl] at H; exact H
        clear H
        have H := H1
        clear H1
        have H' := Aside0.mk H
        clear H
        have p103 : 0 ≤ (x12_1 : Int) := of_decide_eq_true qz4
        have q103 : x12_1 < (l1.length : Int) := of_decide_eq_true qz4
        obtain ⟨ad103, e103, hx103_0⟩ := Kd.at_int HR1.out x12_1 p103 q103
        cases e103
        replace hx103_0 := qcb HB hx103_0
        replace p103 := eq_true p103
        replace q103 := eq_true q103
        have hcz13_0 : wr.cell? ⟨gb101, 0, none⟩ = some (.int .i64 a0_0) := (blk_cell BK101.out 0).trans rfl
        have hcz13_1 : wr.cell? ⟨gb101, 1, none⟩ = some (.slice A0_1 l0_1.length c0_1) := (blk_cell BK101.out 1).trans rfl
        have hfz13_0 := blk_frozen BK101.out 0
        have hfz13_1 := blk_frozen BK101.out 1
        go_wp2_with (first | ((with_reducible refine gate_callee (f := 124) rfl ?_); refine goesL_ (some 18) rfl rfl Try.func124 (by kernel_rfl) rfl #[.agg #[.int .i64 a0_0, .slice A0_1 l0_1.length c0_1], .int .i64 (rd l1 x12_1)] rfl qz1 ?_; (with_reducible refine (impl_Lat_has.calls a0_0 _ _ l0_1 (rd l1 x12_1) true _ ?side1 ?side2 A11.out).mono ?_); (case side1 => exact qz17 HR0_1.out); (case side2 => exact HC0_1.out); rintro e w14 ⟨rfl, hb⟩; refine ⟨_, rfl, ?_⟩; have n0_ := Aside0.mk (blk_below (g := gb101) (o := .cells #[.int .i64 a0_0, .slice A0_1 l0_1.length c0_1] 47 (0, 0)) (qz8 BK101.out) hb); have n1_ := Aside0.mk (below_step (qz10 GE101.out) hb); clear BK101; clear HB; have BK101 := n0_; have HB := n1_; clear n0_ n1_; (try clear hb); (try clear hb2); (try clear hk); (try clear hi)))
        go_roundg k1
        case measure => have := HK1.out; omega
        case rel => exact ⟨(wrap64 (x12_1 + 1)), qz2, H', ⟨by have := HK1.out; omega⟩, ⟨qz8 BK101.out⟩, ⟨qz10 GE101.out⟩⟩
       ·replace c12 := Bool.eq_false_iff.mpr c12
        subst c12
        have H1 : (some false) = some r := by rw [if_neg (show ¬ (false = true) by decide)] at H; exact H
        clear H
        have H := H1
        clear H1
        obtain rfl := Option.some.inj H
        have p103 : 0 ≤ (x12_1 : Int) := of_decide_eq_true qz4
        have q103 : x12_1 < (l1.length : Int) := of_decide_eq_true qz4
        obtain ⟨ad103, e103, hx103_0⟩ := Kd.at_int HR1.out x12_1 p103 q103
        cases e103
        replace hx103_0 := qcb HB hx103_0
        replace p103 := eq_true p103
        replace q103 := eq_true q103
        have hcz15_0 : wr.cell? ⟨gb101, 0, none⟩ = some (.int .i64 a0_0) := (blk_cell BK101.out 0).trans rfl
        have hcz15_1 : wr.cell? ⟨gb101, 1, none⟩ = some (.slice A0_1 l0_1.length c0_1) := (blk_cell BK101.out 1).trans rfl
        have hfz15_0 := blk_frozen BK101.out 0
        have hfz15_1 := blk_frozen BK101.out 1
        go_wp2_with (first | ((with_reducible refine gate_callee (f := 124) rfl ?_); refine goesL_ (some 18) rfl rfl Try.func124 (by kernel_rfl) rfl #[.agg #[.int .i64 a0_0, .slice A0_1 l0_1.length c0_1], .int .i64 (rd l1 x12_1)] rfl qz1 ?_; (with_reducible refine (impl_Lat_has.calls a0_0 _ _ l0_1 (rd l1 x12_1) false _ ?side1 ?side2 A11.out).mono ?_); (case side1 => exact qz17 HR0_1.out); (case side2 => exact HC0_1.out); rintro e w16 ⟨rfl, hb⟩; refine ⟨_, rfl, ?_⟩; have n0_ := Aside0.mk (blk_below (g := gb101) (o := .cells #[.int .i64 a0_0, .slice A0_1 l0_1.length c0_1] 47 (0, 0)) (qz8 BK101.out) hb); have n1_ := Aside0.mk (below_step (qz10 GE101.out) hb); clear BK101; clear HB; have BK101 := n0_; have HB := n1_; clear n0_ n1_; (try clear hb); (try clear hb2); (try clear hk); (try clear hi)))
        go_ret
        exact ⟨qz13, qz10 GE101.out⟩
      ·rw [if_neg c10] at H
       exact absurd H (by simp)
     ·rw [if_neg c9] at H
      exact absurd H (by simp)
    ·rw [if_neg c8] at H
     have c8b0 : decide (x12_1 < (l1.length : Int)) = false := decide_eq_false c8
     clear c8
     obtain rfl := Option.some.inj H
     go_wp2
     go_ret
     exact ⟨qz13, qz10 GE101.out⟩
 ·replace c4 := Bool.eq_false_iff.mpr c4
  subst c4
  have H1 : (some false) = some r := by rw [if_neg (show ¬ (false = true) by decide)] at H; exact H
  clear H
  have H := H1
  clear H1
  obtain rfl := Option.some.inj H
  go_enter Try.func126, Try.ntmps126
  go_wp2_with (first | ((with_reducible refine gate_dst (N := 2) rfl ?_); refine box_event ?hg (N := 2) ?hd (cs := #[.int .i64 a0_0, .slice A0_1 l0_1.length c0_1]) (t := 47) ?hr ?_; (case hd => rfl); (case hg => rfl); (case hr => exact qz5); intro gb101 hg w17 hbox hb; have n0_ := Aside0.mk (below_step qz6 hb); have n1_ := Aside0.mk (hbox); have n2_ := Aside0.mk ((qz7 : w.heap.size ≤ gb101)); have n3_ := Aside0.mk ((qz7 : w.heap.size ≤ gb101)); clear HB; have HB := n0_; have BK101 := n1_; have GW101 := n2_; have GE101 := n3_; clear n0_ n1_ n2_ n3_; clear hb hbox hg; have hcz18_0 : w17.cell? ⟨gb101, 0, none⟩ = some (.int .i64 a0_0) := (blk_cell BK101.out 0).trans rfl; have hcz18_1 : w17.cell? ⟨gb101, 1, none⟩ = some (.slice A0_1 l0_1.length c0_1) := (blk_cell BK101.out 1).trans rfl; have hfz18_0 := blk_frozen BK101.out 0; have hfz18_1 := blk_frozen BK101.out 1) | ((with_reducible refine gate_callee (f := 118) rfl ?_); refine goesL_ (some 8) rfl rfl Try.func118 (by kernel_rfl) rfl #[.agg #[.int .i64 a0_0, .slice A0_1 l0_1.length c0_1]] rfl qz1 ?_; (with_reducible refine (impl_isLat.calls k a0_0 _ _ l0_1 false _ ?side1 ?side2 A3.out).mono ?_); (case side1 => exact qz17 HR0_1.out); (case side2 => exact HC0_1.out); rintro e w19 ⟨rfl, hb⟩; refine ⟨_, rfl, ?_⟩; have n0_ := Aside0.mk (blk_below (g := gb101) (o := .cells #[.int .i64 a0_0, .slice A0_1 l0_1.length c0_1] 47 (0, 0)) (qz8 BK101.out) hb); have n1_ := Aside0.mk (below_step (qz10 GE101.out) hb); clear BK101; clear HB; have BK101 := n0_; have HB := n1_; clear n0_ n1_; (try clear hb); (try clear hb2); (try clear hk); (try clear hi)))
  go_ret
  exact ⟨qz13, qz10 GE101.out⟩

end Go.Proofs.Ytjhfjnknajhanaa.P

namespace Go.Proofs.Ytjhfjnknajhanaa.P
open Go.RowKit Go.Proofs.YtjhfjnknajhanaaW.PrintWords Go.Proofs.YtjhfjnknajhanaaW.PrintLast Go.Proofs.YtjhfjnknajhanaaW.PrintMore
attribute [local go_sem] max2_int min2_int max_two min_two max_three min_three max_four min_four   -- for this text's walks alone
set_option linter.unusedVariables false
set_option linter.unusedSimpArgs false

/-! ### impl_LatDown: function 42 -/
set_option maxHeartbeats 8000000 in
set_option maxRecDepth 100000 in
theorem impl_LatDown.calls (k : Nat) (a0_0 : Int) (A0_1 : Option Addr) (c0_1 : Nat) (l0_1 : List Int) (a1 : Int) (r : List Int) (w : World) (hr0_1 : Kd.C (Kd.int .u64) w A0_1 l0_1.length l0_1) (hc0_1 : l0_1.length ≤ c0_1) (h : impl_LatDown.f k a0_0 l0_1 a1 = some r) :
  Calls Try.prog 42 #[.agg #[.int .i64 a0_0, .slice A0_1 l0_1.length c0_1], .int .i64 a1] w fun e w' => ∃ v0_ : Value, e = .returned (v0_) ∧ Kd.R (Kd.int .i64) 3 w' w.heap.size (fun _ => True) v0_ r ∧ Below w.heap.size w w' := by
 have hu47 := Try.underlying47
 have HR0_1 := Aside0.mk hr0_1
 have HC0_1 := Aside0.mk hc0_1
 clear hr0_1 hc0_1
 have HB := Aside0.mk (Below.refl w.heap.size w)
 have H : ((impl_areLabels.f k a0_0 l0_1 (([a1] : List Int))).bind fun t105 => (if t105 = true then (impl_LatDown.l0 k a1 (([] : List Int)) a0_0 0 a0_0 l0_1) else (some ([] : List Int)))) = some r := h
 clear h
 obtain ⟨y102, hy102⟩ : ∃ y_ : List Int, y_ = (([a1] : List Int)) := ⟨_, rfl⟩
 replace H : ((impl_areLabels.f k a0_0 l0_1 y102).bind fun t105 => (if t105 = true then (impl_LatDown.l0 k a1 (([] : List Int)) a0_0 0 a0_0 l0_1) else (some ([] : List Int)))) = some r := by first | (rw [hy102]; with_reducible exact H) | (have H2_ := (Option.bind_some _ _).symm.trans H; rw [hy102]; with_reducible exact H2_) | (have H2_ := (Option.bind_some _ _).symm.trans H; with_reducible exact H2_) | with_reducible exact H | (rw [hy102]; exact H) | exact H
 have Ny102 := Aside0.mk hy102
 clear hy102
 replace H := Option.bind_eq_some_iff.mp H
 obtain ⟨t105, A30, H⟩ := H
 replace H : (if t105 = true then (impl_LatDown.l0 k a1 (([] : List Int)) a0_0 0 a0_0 l0_1) else (some ([] : List Int))) = some r := H
 have A3 := Aside0.mk A30
 clear A30
 by_cases c4 : t105 = true
 ·subst c4
  have H1 : (impl_LatDown.l0 k a1 (([] : List Int)) a0_0 0 a0_0 l0_1) = some r := by rw [if_pos rfl] at H; exact H
  clear H
  have H := H1
  clear H1
  obtain ⟨y106, hy106⟩ : ∃ y_ : List Int, y_ = (([] : List Int)) := ⟨_, rfl⟩
  replace H : (impl_LatDown.l0 k a1 y106 a0_0 0 a0_0 l0_1) = some r := by first | (rw [hy106]; with_reducible exact H) | (have H2_ := (Option.bind_some _ _).symm.trans H; rw [hy106]; with_reducible exact H2_) | (have H2_ := (Option.bind_some _ _).symm.trans H; with_reducible exact H2_) | with_reducible exact H | (rw [hy106]; exact H) | exact H
  have Ny106 := Aside0.mk hy106
  clear hy106
  have H' := Aside0.mk H
  clear H
  go_enter Try.func42, Try.ntmps42
  go_wp2_with (first | ((with_reducible refine gate_dst (N := 2) rfl ?_); refine box_event ?hg (N := 2) ?hd (cs := #[.int .i64 a0_0, .slice A0_1 l0_1.length c0_1]) (t := 47) ?hr ?_; (case hd => rfl); (case hg => rfl); (case hr => exact qz5); intro gb101 hg w5 hbox hb; have n0_ := Aside0.mk (below_step qz6 hb); have n1_ := Aside0.mk (hbox); have n2_ := Aside0.mk ((qz7 : w.heap.size ≤ gb101)); have n3_ := Aside0.mk ((qz7 : w.heap.size ≤ gb101)); clear HB; have HB := n0_; have BK101 := n1_; have GW101 := n2_; have GE101 := n3_; clear n0_ n1_ n2_ n3_; clear hb hbox hg; have hcz6_0 : w5.cell? ⟨gb101, 0, none⟩ = some (.int .i64 a0_0) := (blk_cell BK101.out 0).trans rfl; have hcz6_1 : w5.cell? ⟨gb101, 1, none⟩ = some (.slice A0_1 l0_1.length c0_1) := (blk_cell BK101.out 1).trans rfl; have hfz6_0 := blk_frozen BK101.out 0; have hfz6_1 := blk_frozen BK101.out 1) | ((with_reducible refine gate_dst (N := 9) rfl ?_); refine Kd.R_lit (Kd.int .i64) _ 3 ?hg (N := 9) ?hd (xs := ([a1] : List Int)) (inner := [.int .i64 a1]) (ok := fun _ => True) (okp := fun _ => True) ?hr ?hp (fun _ hk => hk) trivial (Below.refl _ _) (Nat.le_refl _) (by simp) ?_; (case hd => rfl); (case hg => rfl); (case hr => exact qz5); (case hp => exact qz18); intro v103 w7 ho8 hb hg_ hnew_; clear hg_ hnew_; (first | rw [← Ny102.out] at ho8 | (simp only [Int.reduceToNat] at ho8; rw [← Ny102.out] at ho8)); have n0_ := Aside0.mk (Kd.R_lower ho8 (below_size (qz10 GE101.out))); have n1_ := Aside0.mk (blk_below (g := gb101) (o := .cells #[.int .i64 a0_0, .slice A0_1 l0_1.length c0_1] 47 (0, 0)) (qz8 BK101.out) hb); have n2_ := Aside0.mk (below_step (qz10 GE101.out) hb); clear BK101; clear HB; have HO104 := n0_; have BK101 := n1_; have HB := n2_; clear n0_ n1_ n2_; clear hb ho8; obtain ⟨Ao9, co9, eo9⟩ := Kd.R_slice HO104.out; subst eo9) | ((with_reducible refine gate_callee (f := 126) rfl ?_); refine goesL_ (some 10) rfl rfl Try.func126 (by kernel_rfl) rfl #[.agg #[.int .i64 a0_0, .slice A0_1 l0_1.length c0_1], .slice Ao9 y102.length co9] rfl qz1 ?_; (with_reducible refine (impl_areLabels.calls k a0_0 _ _ l0_1 _ _ y102 true _ ?side1 ?side2 ?side3 ?side4 A3.out).mono ?_); (case side1 => exact qz17 HR0_1.out); (case side2 => exact HC0_1.out); (case side3 => exact qz19 HO104.out); (case side4 => exact qz20 HO104.out); rintro e w10 ⟨rfl, hb⟩; refine ⟨_, rfl, ?_⟩; have n0_ := Aside0.mk (Kd.R_below (qz21 HO104.out) hb); have n1_ := Aside0.mk (blk_below (g := gb101) (o := .cells #[.int .i64 a0_0, .slice A0_1 l0_1.length c0_1] 47 (0, 0)) (qz8 BK101.out) hb); have n2_ := Aside0.mk (below_step (qz10 GE101.out) hb); clear HO104; clear BK101; clear HB; have HO104 := n0_; have BK101 := n1_; have HB := n2_; clear n0_ n1_ n2_; (try clear hb); (try clear hb2); (try clear hk); (try clear hi)) | ((with_reducible refine gate_dst (N := 12) rfl ?_); refine Kd.R_lit (Kd.int .i64) _ 3 ?hg (N := 12) ?hd (xs := ([] : List Int)) (inner := []) (ok := fun _ => True) (okp := fun _ => True) ?hr ?hp (fun _ hk => hk) trivial (Below.refl _ _) (Nat.le_refl _) (by simp) ?_; (case hd => rfl); (case hg => rfl); (case hr => exact qz5); (case hp => exact qz22); intro v107 w11 ho12 hb hg_ hnew_; clear hg_ hnew_; (first | rw [← Ny106.out] at ho12 | (simp only [Int.reduceToNat] at ho12; rw [← Ny106.out] at ho12)); have n0_ := Aside0.mk (Kd.R_elder' (qz21 HO104.out) (Kd.R_base ho12) hb); have n1_ := Aside0.mk (Kd.R_lower (Kd.R_new' ho12 (Kd.R_lt (qz21 HO104.out))) (below_size (qz10 GE101.out))); have n2_ := Aside0.mk (blk_below (g := gb101) (o := .cells #[.int .i64 a0_0, .slice A0_1 l0_1.length c0_1] 47 (0, 0)) (qz8 BK101.out) hb); have n3_ := Aside0.mk (below_step (qz10 GE101.out) hb); clear HO104; clear BK101; clear HB; have HO104 := n0_; have HO108 := n1_; have BK101 := n2_; have HB := n3_; clear n0_ n1_ n2_ n3_; clear hb ho12; have hcz13_0 : w11.cell? ⟨gb101, 0, none⟩ = some (.int .i64 a0_0) := (blk_cell BK101.out 0).trans rfl; have hcz13_1 : w11.cell? ⟨gb101, 1, none⟩ = some (.slice A0_1 l0_1.length c0_1) := (blk_cell BK101.out 1).trans rfl; have hfz13_0 := blk_frozen BK101.out 0; have hfz13_1 := blk_frozen BK101.out 1))
  go_loopg [5, 15] k (fun kq v5 v15 w' => ∃ (x5_1 : List Int) (x15_1 : Int), v15 = .int .i64 x15_1 ∧ Aside0 (impl_LatDown.l0 kq a1 x5_1 a0_0 x15_1 a0_0 l0_1 = some r) ∧ Aside0 (kq ≤ k) ∧ Aside0 (Kd.R (Kd.int .i64) 3 w' w.heap.size (fun _ => True) v5 x5_1) ∧ Aside0 (w'.heap[gb101]? = some (.cells #[.int .i64 a0_0, (.slice A0_1 l0_1.length c0_1)] 47 (0, 0))) ∧ Aside0 (Below w.heap.size w w'))
  case atStart => exact ⟨(y106), (0), qz2, H', ⟨Nat.le_refl _⟩, ⟨qz23 HO108.out⟩, ⟨qz8 BK101.out⟩, ⟨qz10 GE101.out⟩⟩
  case round =>
   clear H'
   try clear c1
   try clear p2
   try clear c4
   try clear c12
   try clear hcz13_0
   try clear hcz13_1
   try clear hcz6_0
   try clear hcz6_1
   try clear hfz13_0
   try clear hfz13_1
   try clear hfz6_0
   try clear hfz6_1
   obtain ⟨x5_1, x15_1, rfl, HA, HK1, HO_5, BK101, HB⟩ := hrel
   cases gk with
   | zero => exact absurd HA.out (by simp [impl_LatDown.l0])
   | succ k1 =>
    have H := HA.out
    clear HA
    simp only [impl_LatDown.l0] at H
    by_cases c14 : x15_1 < a0_0
    ·rw [if_pos c14] at H
     have c14b0 : decide (x15_1 < a0_0) = true := decide_eq_true c14
     clear c14
     replace H := Option.bind_eq_some_iff.mp H
     obtain ⟨t109, A150, H⟩ := H
     replace H : (if t109 = true then (if x5_1.length < 17592186044416 then (impl_LatDown.l0 k1 a1 (x5_1 ++ [x15_1]) a0_0 (wrap64 (x15_1 + 1)) a0_0 l0_1) else (none)) else (impl_LatDown.l0 k1 a1 x5_1 a0_0 (wrap64 (x15_1 + 1)) a0_0 l0_1)) = some r := H
     have A15 := Aside0.mk A150
     clear A150
     by_cases c16 : t109 = true
     ·subst c16
      have H1 : (if x5_1.length < 17592186044416 then (impl_LatDown.l0 k1 a1 (x5_1 ++ [x15_1]) a0_0 (wrap64 (x15_1 + 1)) a0_0 l0_1) else (none)) = some r := by rw [if_pos rfl] at H; exact H
      clear H
      have H := H1
      clear H1
      by_cases c17 : x5_1.length < 17592186044416
      ·rw [if_pos c17] at H
       have LMc17 := Aside0.mk c17
       clear c17
       obtain ⟨y110, hy110⟩ : ∃ y_ : List Int, y_ = (x5_1 ++ [x15_1]) := ⟨_, rfl⟩
       replace H : (impl_LatDown.l0 k1 a1 y110 a0_0 (wrap64 (x15_1 + 1)) a0_0 l0_1) = some r := by first | (rw [hy110]; with_reducible exact H) | (have H2_ := (Option.bind_some _ _).symm.trans H; rw [hy110]; with_reducible exact H2_) | (have H2_ := (Option.bind_some _ _).symm.trans H; with_reducible exact H2_) | with_reducible exact H | (rw [hy110]; exact H) | exact H
       have Ny110 := Aside0.mk hy110
       clear hy110
       have H' := Aside0.mk H
       clear H
       have hcz18_0 : wr.cell? ⟨gb101, 0, none⟩ = some (.int .i64 a0_0) := (blk_cell BK101.out 0).trans rfl
       have hcz18_1 : wr.cell? ⟨gb101, 1, none⟩ = some (.slice A0_1 l0_1.length c0_1) := (blk_cell BK101.out 1).trans rfl
       have hfz18_0 := blk_frozen BK101.out 0
       have hfz18_1 := blk_frozen BK101.out 1
       go_wp2_with (first | ((with_reducible refine gate_callee (f := 119) rfl ?_); refine goesL_ (some 21) rfl rfl Try.func119 (by kernel_rfl) rfl #[.agg #[.int .i64 a0_0, .slice A0_1 l0_1.length c0_1], .int .i64 x15_1, .int .i64 a1] rfl qz1 ?_; (with_reducible refine (impl_Lat_le.calls a0_0 _ _ l0_1 x15_1 a1 true _ ?side1 ?side2 A15.out).mono ?_); (case side1 => exact qz17 HR0_1.out); (case side2 => exact HC0_1.out); rintro e w19 ⟨rfl, hb⟩; refine ⟨_, rfl, ?_⟩; have n0_ := Aside0.mk (Kd.R_below qz24 hb); have n1_ := Aside0.mk (blk_below (g := gb101) (o := .cells #[.int .i64 a0_0, .slice A0_1 l0_1.length c0_1] 47 (0, 0)) (qz8 BK101.out) hb); have n2_ := Aside0.mk (below_step (qz10 GE101.out) hb); clear HO_5; clear BK101; clear HB; have HO_5 := n0_; have BK101 := n1_; have HB := n2_; clear n0_ n1_ n2_; (try clear hb); (try clear hb2); (try clear hk); (try clear hi)) | ((with_reducible refine gate_builtin (b := .append) (xs := #[.tmp 22, .tmp 24]) rfl ?_); at_builtin; refine Kd.R_append (Kd.int .i64) (w0 := w) w.heap.size rfl (.tmp 22) (.tmp 24) 32 3 (.int .i64 0) 8 rfl Try.underlying32 info3 rfl (by decide) (by omega) u5 x5_1 x15_1 [.int .i64 x15_1] (fun _ => True) (fun _ => False) rfl rfl ?aP (fun _ hk => hk.elim) ?aF ?aO ?aB ?aS ?aL ?_; (case aP => exact rfl); (case aB => exact qz25 GE101.out); (case aF => exact qz26); (case aO => exact qz27); (case aS => exact qz28 GE101.out); (case aL => have := LMc17.out; omega); intro v111 w20 ho hb hg hat; rw [← Ny110.out] at ho; have n0_ := Aside0.mk (blk_grown (g := gb101) (o := .cells #[.int .i64 a0_0, .slice A0_1 l0_1.length c0_1] 47 (0, 0)) (qz8 BK101.out) hg (Kd.R_ne HO_5.out BK101.out (by decide))); have n1_ := Aside0.mk (hb); have n2_ := Aside0.mk (ho); clear BK101; clear HB; clear HO_5; have BK101 := n0_; have HB := n1_; have HO112 := n2_; clear n0_ n1_ n2_; clear ho hb hg hat))
       go_roundg k1
       case measure => have := HK1.out; omega
       case rel => exact ⟨(y110), (wrap64 (x15_1 + 1)), qz2, H', ⟨by have := HK1.out; omega⟩, ⟨qz21 HO112.out⟩, ⟨qz8 BK101.out⟩, ⟨qz10 GE101.out⟩⟩
      ·rw [if_neg c17] at H
       exact absurd H (by simp)
     ·replace c16 := Bool.eq_false_iff.mpr c16
      subst c16
      have H1 : (impl_LatDown.l0 k1 a1 x5_1 a0_0 (wrap64 (x15_1 + 1)) a0_0 l0_1) = some r := by rw [if_neg (show ¬ (false = true) by decide)] at H; exact H
      clear H
      have H := H1
      clear H1
      have H' := Aside0.mk H
      clear H
      have hcz21_0 : wr.cell? ⟨gb101, 0, none⟩ = some (.int .i64 a0_0) := (blk_cell BK101.out 0).trans rfl
      have hcz21_1 : wr.cell? ⟨gb101, 1, none⟩ = some (.slice A0_1 l0_1.length c0_1) := (blk_cell BK101.out 1).trans rfl
      have hfz21_0 := blk_frozen BK101.out 0
      have hfz21_1 := blk_frozen BK101.out 1
      go_wp2_with (first | ((with_reducible refine gate_callee (f := 119) rfl ?_); refine goesL_ (some 21) rfl rfl Try.func119 (by kernel_rfl) rfl #[.agg #[.int .i64 a0_0, .slice A0_1 l0_1.length c0_1], .int .i64 x15_1, .int .i64 a1] rfl qz1 ?_; (with_reducible refine (impl_Lat_le.calls a0_0 _ _ l0_1 x15_1 a1 false _ ?side1 ?side2 A15.out).mono ?_); (case side1 => exact qz17 HR0_1.out); (case side2 => exact HC0_1.out); rintro e w22 ⟨rfl, hb⟩; refine ⟨_, rfl, ?_⟩; have n0_ := Aside0.mk (Kd.R_below qz24 hb); have n1_ := Aside0.mk (blk_below (g := gb101) (o := .cells #[.int .i64 a0_0, .slice A0_1 l0_1.length c0_1] 47 (0, 0)) (qz8 BK101.out) hb); have n2_ := Aside0.mk (below_step (qz10 GE101.out) hb); clear HO_5; clear BK101; clear HB; have HO_5 := n0_; have BK101 := n1_; have HB := n2_; clear n0_ n1_ n2_; (try clear hb); (try clear hb2); (try clear hk); (try clear hi)))
      go_roundg k1
      case measure => have := HK1.out; omega
      case rel => exact ⟨(x5_1), (wrap64 (x15_1 + 1)), qz2, H', ⟨by have := HK1.out; omega⟩, ⟨qz24⟩, ⟨qz8 BK101.out⟩, ⟨qz10 GE101.out⟩⟩
    ·rw [if_neg c14] at H
     have c14b0 : decide (x15_1 < a0_0) = false := decide_eq_false c14
     clear c14
     obtain rfl := Option.some.inj H
     go_wp2
     go_ret
     exact ⟨_, qz13, qz24, qz10 GE101.out⟩
 ·replace c4 := Bool.eq_false_iff.mpr c4
  subst c4
  have H1 : (some ([] : List Int)) = some r := by rw [if_neg (show ¬ (false = true) by decide)] at H; exact H
  clear H
  have H := H1
  clear H1
  obtain rfl := Option.some.inj H
  go_enter Try.func42, Try.ntmps42
  go_wp2_with (first | ((with_reducible refine gate_dst (N := 2) rfl ?_); refine box_event ?hg (N := 2) ?hd (cs := #[.int .i64 a0_0, .slice A0_1 l0_1.length c0_1]) (t := 47) ?hr ?_; (case hd => rfl); (case hg => rfl); (case hr => exact qz5); intro gb101 hg w23 hbox hb; have n0_ := Aside0.mk (below_step qz6 hb); have n1_ := Aside0.mk (hbox); have n2_ := Aside0.mk ((qz7 : w.heap.size ≤ gb101)); have n3_ := Aside0.mk ((qz7 : w.heap.size ≤ gb101)); clear HB; have HB := n0_; have BK101 := n1_; have GW101 := n2_; have GE101 := n3_; clear n0_ n1_ n2_ n3_; clear hb hbox hg; have hcz24_0 : w23.cell? ⟨gb101, 0, none⟩ = some (.int .i64 a0_0) := (blk_cell BK101.out 0).trans rfl; have hcz24_1 : w23.cell? ⟨gb101, 1, none⟩ = some (.slice A0_1 l0_1.length c0_1) := (blk_cell BK101.out 1).trans rfl; have hfz24_0 := blk_frozen BK101.out 0; have hfz24_1 := blk_frozen BK101.out 1) | ((with_reducible refine gate_dst (N := 9) rfl ?_); refine Kd.R_lit (Kd.int .i64) _ 3 ?hg (N := 9) ?hd (xs := ([a1] : List Int)) (inner := [.int .i64 a1]) (ok := fun _ => True) (okp := fun _ => True) ?hr ?hp (fun _ hk => hk) trivial (Below.refl _ _) (Nat.le_refl _) (by simp) ?_; (case hd => rfl); (case hg => rfl); (case hr => exact qz5); (case hp => exact qz18); intro v103 w25 ho26 hb hg_ hnew_; clear hg_ hnew_; (first | rw [← Ny102.out] at ho26 | (simp only [Int.reduceToNat] at ho26; rw [← Ny102.out] at ho26)); have n0_ := Aside0.mk (Kd.R_lower ho26 (below_size (qz10 GE101.out))); have n1_ := Aside0.mk (blk_below (g := gb101) (o := .cells #[.int .i64 a0_0, .slice A0_1 l0_1.length c0_1] 47 (0, 0)) (qz8 BK101.out) hb); have n2_ := Aside0.mk (below_step (qz10 GE101.out) hb); clear BK101; clear HB; have HO104 := n0_; have BK101 := n1_; have HB := n2_; clear n0_ n1_ n2_; clear hb ho26; obtain ⟨Ao27, co27, eo27⟩ := Kd.R_slice HO104.out; subst eo27) | ((with_reducible refine gate_callee (f := 126) rfl ?_); refine goesL_ (some 10) rfl rfl Try.func126 (by kernel_rfl) rfl #[.agg #[.int .i64 a0_0, .slice A0_1 l0_1.length c0_1], .slice Ao27 y102.length co27] rfl qz1 ?_; (with_reducible refine (impl_areLabels.calls k a0_0 _ _ l0_1 _ _ y102 false _ ?side1 ?side2 ?side3 ?side4 A3.out).mono ?_); (case side1 => exact qz17 HR0_1.out); (case side2 => exact HC0_1.out); (case side3 => exact qz19 HO104.out); (case side4 => exact qz20 HO104.out); rintro e w28 ⟨rfl, hb⟩; refine ⟨_, rfl, ?_⟩; have n0_ := Aside0.mk (Kd.R_below (qz21 HO104.out) hb); have n1_ := Aside0.mk (blk_below (g := gb101) (o := .cells #[.int .i64 a0_0, .slice A0_1 l0_1.length c0_1] 47 (0, 0)) (qz8 BK101.out) hb); have n2_ := Aside0.mk (below_step (qz10 GE101.out) hb); clear HO104; clear BK101; clear HB; have HO104 := n0_; have BK101 := n1_; have HB := n2_; clear n0_ n1_ n2_; (try clear hb); (try clear hb2); (try clear hk); (try clear hi)))
  go_ret
  exact ⟨_, qz13, qz15, qz10 GE101.out⟩

end Go.Proofs.Ytjhfjnknajhanaa.P

namespace Go.Proofs.Ytjhfjnknajhanaa.P
open Go.RowKit Go.Proofs.YtjhfjnknajhanaaW.PrintWords Go.Proofs.YtjhfjnknajhanaaW.PrintLast Go.Proofs.YtjhfjnknajhanaaW.PrintMore
attribute [local go_sem] max2_int min2_int max_two min_two max_three min_three max_four min_four   -- for this text's walks alone
set_option linter.unusedVariables false
set_option linter.unusedSimpArgs false

/-! ### impl_Lat_join: function 127 -/
set_option maxHeartbeats 8000000 in
set_option maxRecDepth 100000 in
theorem impl_Lat_join.calls (k : Nat) (a0_0 : Int) (A0_1 : Option Addr) (c0_1 : Nat) (l0_1 : List Int) (a1 : Int) (a2 : Int) (r : Int) (w : World) (hr0_1 : Kd.C (Kd.int .u64) w A0_1 l0_1.length l0_1) (hc0_1 : l0_1.length ≤ c0_1) (h : impl_Lat_join.f k a0_0 l0_1 a1 a2 = some r) :
  Calls Try.prog 127 #[.agg #[.int .i64 a0_0, .slice A0_1 l0_1.length c0_1], .int .i64 a1, .int .i64 a2] w fun e w' => e = .returned (.int .i64 r) ∧ Below w.heap.size w w' := by
 have hu47 := Try.underlying47
 have HR0_1 := Aside0.mk hr0_1
 have HC0_1 := Aside0.mk hc0_1
 clear hr0_1 hc0_1
 have HB := Aside0.mk (Below.refl w.heap.size w)
 have H : ((impl_Lat_bound.f k a0_0 l0_1 a1 a2 true).bind fun t102 => (some t102)) = some r := h
 clear h
 replace H := Option.bind_eq_some_iff.mp H
 obtain ⟨t102, A40, H⟩ := H
 replace H : (some t102) = some r := H
 have A4 := Aside0.mk A40
 clear A40
 obtain rfl := Option.some.inj H
 go_enter Try.func127, Try.ntmps127
 go_wp2_with (first | ((with_reducible refine gate_dst (N := 3) rfl ?_); refine box_event ?hg (N := 3) ?hd (cs := #[.int .i64 a0_0, .slice A0_1 l0_1.length c0_1]) (t := 47) ?hr ?_; (case hd => rfl); (case hg => rfl); (case hr => exact qz5); intro gb101 hg w5 hbox hb; have n0_ := Aside0.mk (below_step qz6 hb); have n1_ := Aside0.mk (hbox); have n2_ := Aside0.mk ((qz7 : w.heap.size ≤ gb101)); have n3_ := Aside0.mk ((qz7 : w.heap.size ≤ gb101)); clear HB; have HB := n0_; have BK101 := n1_; have GW101 := n2_; have GE101 := n3_; clear n0_ n1_ n2_ n3_; clear hb hbox hg; have hcz6_0 : w5.cell? ⟨gb101, 0, none⟩ = some (.int .i64 a0_0) := (blk_cell BK101.out 0).trans rfl; have hcz6_1 : w5.cell? ⟨gb101, 1, none⟩ = some (.slice A0_1 l0_1.length c0_1) := (blk_cell BK101.out 1).trans rfl; have hfz6_0 := blk_frozen BK101.out 0; have hfz6_1 := blk_frozen BK101.out 1) | ((with_reducible refine gate_callee (f := 128) rfl ?_); refine goesL_ (some 10) rfl rfl Try.func128 (by kernel_rfl) rfl #[.agg #[.int .i64 a0_0, .slice A0_1 l0_1.length c0_1], .int .i64 a1, .int .i64 a2, .bool true] rfl qz1 ?_; (with_reducible refine (impl_Lat_bound.calls k a0_0 _ _ l0_1 a1 a2 true t102 _ ?side1 ?side2 A4.out).mono ?_); (case side1 => exact qz17 HR0_1.out); (case side2 => exact HC0_1.out); rintro e w7 ⟨rfl, hb⟩; refine ⟨_, rfl, ?_⟩; have n0_ := Aside0.mk (blk_below (g := gb101) (o := .cells #[.int .i64 a0_0, .slice A0_1 l0_1.length c0_1] 47 (0, 0)) (qz8 BK101.out) hb); have n1_ := Aside0.mk (below_step (qz10 GE101.out) hb); clear BK101; clear HB; have BK101 := n0_; have HB := n1_; clear n0_ n1_; (try clear hb); (try clear hb2); (try clear hk); (try clear hi)))
 go_ret
 exact ⟨qz13, qz10 GE101.out⟩

end Go.Proofs.Ytjhfjnknajhanaa.P

namespace Go.Proofs.Ytjhfjnknajhanaa.P
open Go.RowKit Go.Proofs.YtjhfjnknajhanaaW.PrintWords Go.Proofs.YtjhfjnknajhanaaW.PrintLast Go.Proofs.YtjhfjnknajhanaaW.PrintMore
attribute [local go_sem] max2_int min2_int max_two min_two max_three min_three max_four min_four   -- for this text's walks alone
set_option linter.unusedVariables false
set_option linter.unusedSimpArgs false

/-! ### impl_Lat_ends: function 130 -/
def impl_Lat_ends.T5 : Bool × List (List Nat × List Nat) := (true, [([], []), ([], []), ([], []), ([0, 1, 2], [0, 1, 2]), ([], []), ([], []), ([], []), ([4, 5, 6, 3], [4, 5, 6]), ([3, 7, 0, 1, 2, 3], [1, 3]), ([7, 8, 0, 1, 2, 3, 4, 5, 6, 7, 8], [5, 7])])
def impl_Lat_ends.B5 : List Nat := [0, 0, 0, 7, 0, 0, 0, 127, 255, 511]
theorem impl_Lat_ends.tab5 : rtab .any (opsOf Try.f130 5) = impl_Lat_ends.T5 := by kernel_rfl
theorem impl_Lat_ends.bits5 : waitsOk impl_Lat_ends.T5.2 impl_Lat_ends.B5 = true := by kernel_rfl
set_option maxHeartbeats 8000000 in
set_option maxRecDepth 100000 in
theorem impl_Lat_ends.calls (k : Nat) (a0_0 : Int) (A0_1 : Option Addr) (c0_1 : Nat) (l0_1 : List Int) (r1 : Int) (r2 : Int) (w : World) (hr0_1 : Kd.C (Kd.int .u64) w A0_1 l0_1.length l0_1) (hc0_1 : l0_1.length ≤ c0_1) (h : impl_Lat_ends.f k a0_0 l0_1 = some (r1, r2)) :
  Calls Try.prog 130 #[.agg #[.int .i64 a0_0, .slice A0_1 l0_1.length c0_1]] w fun e w' => e = .returned (.tuple #[.int .i64 r1, .int .i64 r2]) ∧ Below w.heap.size w w' := by
 have hu47 := Try.underlying47
 have HR0_1 := Aside0.mk hr0_1
 have HC0_1 := Aside0.mk hc0_1
 clear hr0_1 hc0_1
 have HB := Aside0.mk (Below.refl w.heap.size w)
 have H : (impl_Lat_ends.l0 k 0 0 a0_0 0 a0_0 l0_1) = some (r1, r2) := h
 clear h
 have H' := Aside0.mk H
 clear H
 go_enter Try.func130, Try.ntmps130
 go_wp2_with (first | ((with_reducible refine gate_dst (N := 1) rfl ?_); refine box_event ?hg (N := 1) ?hd (cs := #[.int .i64 a0_0, .slice A0_1 l0_1.length c0_1]) (t := 47) ?hr ?_; (case hd => rfl); (case hg => rfl); (case hr => exact qz5); intro gb101 hg w2 hbox hb; have n0_ := Aside0.mk (below_step qz6 hb); have n1_ := Aside0.mk (hbox); have n2_ := Aside0.mk ((qz7 : w.heap.size ≤ gb101)); have n3_ := Aside0.mk ((qz7 : w.heap.size ≤ gb101)); clear HB; have HB := n0_; have BK101 := n1_; have GW101 := n2_; have GE101 := n3_; clear n0_ n1_ n2_ n3_; clear hb hbox hg; have hcz3_0 : w2.cell? ⟨gb101, 0, none⟩ = some (.int .i64 a0_0) := (blk_cell BK101.out 0).trans rfl; have hcz3_1 : w2.cell? ⟨gb101, 1, none⟩ = some (.slice A0_1 l0_1.length c0_1) := (blk_cell BK101.out 1).trans rfl; have hfz3_0 := blk_frozen BK101.out 0; have hfz3_1 := blk_frozen BK101.out 1))
 go_loopg [4, 5, 9] k (fun kq v4 v5 v9 w' => ∃ (x4_1 : Int) (x5_1 : Int) (x9_1 : Int), v4 = .int .i64 x4_1 ∧ v5 = .int .i64 x5_1 ∧ v9 = .int .i64 x9_1 ∧ Aside0 (impl_Lat_ends.l0 kq x4_1 x5_1 a0_0 x9_1 a0_0 l0_1 = some (r1, r2)) ∧ Aside0 (kq ≤ k) ∧ Aside0 (w'.heap[gb101]? = some (.cells #[.int .i64 a0_0, (.slice A0_1 l0_1.length c0_1)] 47 (0, 0))) ∧ Aside0 (Below w.heap.size w w'))
 case atStart => exact ⟨(0), (0), (0), qz2, qz2, qz2, H', ⟨Nat.le_refl _⟩, ⟨qz8 BK101.out⟩, ⟨qz10 GE101.out⟩⟩
 case round =>
  clear H'
  try clear c1
  try clear p2
  try clear hcz3_0
  try clear hcz3_1
  try clear hfz3_0
  try clear hfz3_1
  obtain ⟨x4_1, x5_1, x9_1, rfl, rfl, rfl, HA, HK1, BK101, HB⟩ := hrel
  cases gk with
  | zero => exact absurd HA.out (by simp [impl_Lat_ends.l0])
  | succ k1 =>
   have H := HA.out
   clear HA
   simp only [impl_Lat_ends.l0] at H
   by_cases c4 : x9_1 < a0_0
   ·rw [if_pos c4] at H
    have c4b0 : decide (x9_1 < a0_0) = true := decide_eq_true c4
    clear c4
    replace H := Option.bind_eq_some_iff.mp H
    obtain ⟨t102, A50, H⟩ := H
    replace H : ((impl_Lat_join.f k1 a0_0 l0_1 x5_1 x9_1).bind fun t103 => (impl_Lat_ends.l0 k1 t102 t103 a0_0 (wrap64 (x9_1 + 1)) a0_0 l0_1)) = some (r1, r2) := H
    have A5 := Aside0.mk A50
    clear A50
    replace H := Option.bind_eq_some_iff.mp H
    obtain ⟨t103, A60, H⟩ := H
    replace H : (impl_Lat_ends.l0 k1 t102 t103 a0_0 (wrap64 (x9_1 + 1)) a0_0 l0_1) = some (r1, r2) := H
    have A6 := Aside0.mk A60
    clear A60
    have H' := Aside0.mk H
    clear H
    try go_wp2
    have n0_ := Aside0.mk (blk_drew BK101.out)
    have n1_ := Aside0.mk (below_drew1 HB.out)
    clear BK101
    clear HB
    have BK101 := n0_
    have HB := n1_
    clear n0_ n1_
    refine start_ (n := 10) (S := fun w' => w'.cell? ⟨gb101, 0, none⟩ = some (.int .i64 a0_0) ∧ w'.cell? ⟨gb101, 1, none⟩ = some (.slice A0_1 l0_1.length c0_1)) (ds := []) #[false, false, false, false, false, false, false, false, false, false] (by kernel_rfl) rfl rfl ⟨(blk_cell BK101.out 0).trans rfl, (blk_cell BK101.out 1).trans rfl⟩ (fun hHeld => ?_); refine with_tabW impl_Lat_ends.tab5 impl_Lat_ends.bits5 (fun HT_ HW_ => ?_)
    generalize wr.drew = w7 at BK101 HB hHeld ⊢
    refine pure_ (i := 1) (N := some 13) (v := ?_) (a' := ?_) #[false, true, false, false, false, false, false, false, false, false] rfl rfl (any_of HT_.out (by kernel_rfl)) (fun _ _ _ h => h) (Or.inl ⟨by rfl, ?_⟩) ?_ ?_
    rotate_left
    ·intro w'
     go_simp
     with_reducible rfl
    rotate_left
    ·simp only [Act.put, List.setIfInBounds_toArray, List.set_cons_zero, List.set_cons_succ, i64_w, i32_w]
     rfl
    refine pure_ (i := 2) (N := some 14) (v := ?_) (a' := ?_) #[false, true, true, false, false, false, false, false, false, false] rfl rfl (any_of HT_.out (by kernel_rfl)) (fun _ _ _ h => h) (Or.inl ⟨by rfl, ?_⟩) ?_ ?_
    rotate_left
    ·intro w'
     go_simp
     with_reducible rfl
    rotate_left
    ·simp only [Act.put, List.setIfInBounds_toArray, List.set_cons_zero, List.set_cons_succ, i64_w, i32_w]
     rfl
    refine pure_ (i := 5) (N := some 17) (v := ?_) (a' := ?_) #[false, true, true, false, false, true, false, false, false, false] rfl rfl (any_of HT_.out (by kernel_rfl)) (fun _ _ _ h => h) (Or.inl ⟨by rfl, ?_⟩) ?_ ?_
    rotate_left
    ·intro w'
     go_simp
     with_reducible rfl
    rotate_left
    ·simp only [Act.put, List.setIfInBounds_toArray, List.set_cons_zero, List.set_cons_succ, i64_w, i32_w]
     rfl
    refine pure_ (i := 6) (N := some 18) (v := ?_) (a' := ?_) #[false, true, true, false, false, true, true, false, false, false] rfl rfl (any_of HT_.out (by kernel_rfl)) (fun _ _ _ h => h) (Or.inl ⟨by rfl, ?_⟩) ?_ ?_
    rotate_left
    ·intro w'
     go_simp
     with_reducible rfl
    rotate_left
    ·simp only [Act.put, List.setIfInBounds_toArray, List.set_cons_zero, List.set_cons_succ, i64_w, i32_w]
     rfl
    refine take_ (i := 0) (N := some 12) (v := ?_) (a' := ?_) #[true, true, true, false, false, true, true, false, false, false] rfl rfl (take_ofW HT_.out HW_.out (by kernel_rfl)) (fun _ _ _ h => h) (Or.inl ⟨by rfl, ?_⟩) hHeld ?_ ?_
    rotate_left
    ·rintro w' ⟨s0, s1⟩
     go_simp
     with_reducible rfl
    rotate_left
    ·simp only [Act.put, List.setIfInBounds_toArray, List.set_cons_zero, List.set_cons_succ, i64_w, i32_w]
     rfl
    refine take_ (i := 4) (N := some 16) (v := ?_) (a' := ?_) #[true, true, true, false, true, true, true, false, false, false] rfl rfl (take_ofW HT_.out HW_.out (by kernel_rfl)) (fun _ _ _ h => h) (Or.inl ⟨by rfl, ?_⟩) hHeld ?_ ?_
    rotate_left
    ·rintro w' ⟨s0, s1⟩
     go_simp
     with_reducible rfl
    rotate_left
    ·simp only [Act.put, List.setIfInBounds_toArray, List.set_cons_zero, List.set_cons_succ, i64_w, i32_w]
     rfl
    refine one_ (i := 3) (N := some 15) #[true, true, true, true, true, true, true, false, false, false] rfl rfl (one_of HT_.out (by kernel_rfl)) (by decide) (fun K hK => ?_)
    refine goes_ Try.func128 (by kernel_rfl) rfl #[.agg #[.int .i64 a0_0, .slice A0_1 l0_1.length c0_1], .int .i64 x4_1, .int .i64 x9_1, .bool false] (by rfl) rfl rfl qz1 ?_
    with_reducible refine (impl_Lat_bound.calls k1 a0_0 _ _ l0_1 x4_1 x9_1 false t102 _ ?side1 ?side2 A5.out).mono ?_
    (case side1 => exact qz17 HR0_1.out)
    (case side2 => exact HC0_1.out)
    rintro e w8 ⟨rfl, hb⟩
    refine ⟨_, rfl, ?_⟩
    have n0_ := Aside0.mk (blk_below (g := gb101) (o := .cells #[.int .i64 a0_0, .slice A0_1 l0_1.length c0_1] 47 (0, 0)) (qz8 BK101.out) hb)
    have n1_ := Aside0.mk (below_step (qz10 GE101.out) hb)
    clear BK101
    clear HB
    have BK101 := n0_
    have HB := n1_
    clear n0_ n1_
    (try clear hb)
    (try clear hb2)
    (try clear hk)
    (try clear hi)
    refine hK.out _ _ ⟨(blk_cell BK101.out 0).trans rfl, (blk_cell BK101.out 1).trans rfl⟩ (fun hHeld => ?_)
    clear hK K
    refine norm_ (a' := ?_) ?_ ?_
    rotate_left
    ·show Act.put _ (some 15) _ = _
     simp only [Act.put, List.setIfInBounds_toArray, List.set_cons_zero, List.set_cons_succ, i64_w, i32_w]
     rfl
    refine one_ (i := 7) (N := some 19) #[true, true, true, true, true, true, true, true, false, false] rfl rfl (one_of HT_.out (by kernel_rfl)) (by decide) (fun K hK => ?_)
    refine goes_ Try.func127 (by kernel_rfl) rfl #[.agg #[.int .i64 a0_0, .slice A0_1 l0_1.length c0_1], .int .i64 x5_1, .int .i64 x9_1] (by rfl) rfl rfl qz1 ?_
    with_reducible refine (impl_Lat_join.calls k1 a0_0 _ _ l0_1 x5_1 x9_1 t103 _ ?side1 ?side2 A6.out).mono ?_
    (case side1 => exact qz17 HR0_1.out)
    (case side2 => exact HC0_1.out)
    rintro e w9 ⟨rfl, hb⟩
    refine ⟨_, rfl, ?_⟩
    have n0_ := Aside0.mk (blk_below (g := gb101) (o := .cells #[.int .i64 a0_0, .slice A0_1 l0_1.length c0_1] 47 (0, 0)) (qz8 BK101.out) hb)
    have n1_ := Aside0.mk (below_step (qz10 GE101.out) hb)
    clear BK101
    clear HB
    have BK101 := n0_
    have HB := n1_
    clear n0_ n1_
    (try clear hb)
    (try clear hb2)
    (try clear hk)
    (try clear hi)
    refine hK.out _ _ ⟨(blk_cell BK101.out 0).trans rfl, (blk_cell BK101.out 1).trans rfl⟩ (fun hHeld => ?_)
    clear hK K
    refine norm_ (a' := ?_) ?_ ?_
    rotate_left
    ·show Act.put _ (some 19) _ = _
     simp only [Act.put, List.setIfInBounds_toArray, List.set_cons_zero, List.set_cons_succ, i64_w, i32_w]
     rfl
    refine pure_ (i := 8) (N := some 4) (v := ?_) (a' := ?_) #[true, true, true, true, true, true, true, true, true, false] rfl rfl (any_of HT_.out (by kernel_rfl)) (fun _ _ _ h => h) (Or.inl ⟨by rfl, ?_⟩) ?_ ?_
    rotate_left
    ·intro w'
     go_simp
     with_reducible rfl
    rotate_left
    ·simp only [Act.put, List.setIfInBounds_toArray, List.set_cons_zero, List.set_cons_succ, i64_w, i32_w]
     rfl
    refine pure_ (i := 9) (N := some 5) (v := ?_) (a' := ?_) #[true, true, true, true, true, true, true, true, true, true] rfl rfl (any_of HT_.out (by kernel_rfl)) (fun _ _ _ h => h) (Or.inl ⟨by rfl, ?_⟩) ?_ ?_
    rotate_left
    ·intro w'
     go_simp
     with_reducible rfl
    rotate_left
    ·simp only [Act.put, List.setIfInBounds_toArray, List.set_cons_zero, List.set_cons_succ, i64_w, i32_w]
     rfl
    refine done_ (done_of HT_.out (by kernel_rfl)) ?_
    try go_wp2
    go_roundg k1
    case measure => have := HK1.out; omega
    case rel => exact ⟨(t102), (t103), (wrap64 (x9_1 + 1)), qz2, qz2, qz2, H', ⟨by have := HK1.out; omega⟩, ⟨qz8 BK101.out⟩, ⟨qz10 GE101.out⟩⟩
   ·rw [if_neg c4] at H
    have c4b0 : decide (x9_1 < a0_0) = false := decide_eq_false c4
    clear c4
    simp only [Option.some.injEq, Prod.mk.injEq] at H
    obtain ⟨rfl, rfl⟩ := H
    go_wp2
    go_ret2
    exact ⟨qz13, qz10 GE101.out⟩

end Go.Proofs.Ytjhfjnknajhanaa.P

namespace Go.Proofs.Ytjhfjnknajhanaa.P
open Go.RowKit Go.Proofs.YtjhfjnknajhanaaW.PrintWords Go.Proofs.YtjhfjnknajhanaaW.PrintLast Go.Proofs.YtjhfjnknajhanaaW.PrintMore
attribute [local go_sem] max2_int min2_int max_two min_two max_three min_three max_four min_four   -- for this text's walks alone
set_option linter.unusedVariables false
set_option linter.unusedSimpArgs false

/-! ### impl_Lat_joinAll: function 131 -/
set_option maxHeartbeats 8000000 in
set_option maxRecDepth 100000 in
theorem impl_Lat_joinAll.calls (k : Nat) (a0_0 : Int) (A0_1 : Option Addr) (c0_1 : Nat) (l0_1 : List Int) (A1 : Option Addr) (c1 : Nat) (l1 : List Int) (r : Int) (w : World) (hr0_1 : Kd.C (Kd.int .u64) w A0_1 l0_1.length l0_1) (hc0_1 : l0_1.length ≤ c0_1) (hr1 : Kd.C (Kd.int .i64) w A1 l1.length l1) (hc1 : l1.length ≤ c1) (h : impl_Lat_joinAll.f k a0_0 l0_1 l1 = some r) :
  Calls Try.prog 131 #[.agg #[.int .i64 a0_0, .slice A0_1 l0_1.length c0_1], .slice A1 l1.length c1] w fun e w' => e = .returned (.int .i64 r) ∧ Below w.heap.size w w' := by
 have hu47 := Try.underlying47
 have HR0_1 := Aside0.mk hr0_1
 have HC0_1 := Aside0.mk hc0_1
 clear hr0_1 hc0_1
 have HR1 := Aside0.mk hr1
 have HC1 := Aside0.mk hc1
 clear hr1 hc1
 have HB := Aside0.mk (Below.refl w.heap.size w)
 have H : ((impl_Lat_ends.f k a0_0 l0_1).bind fun bt102 => (impl_Lat_joinAll.l0 k bt102.1 l1 (l1.length : Int) 0 a0_0 l0_1)) = some r := h
 clear h
 replace H := Option.bind_eq_some_iff.mp H
 obtain ⟨⟨t102, t103⟩, A30, H⟩ := H
 replace H : (impl_Lat_joinAll.l0 k t102 l1 (l1.length : Int) 0 a0_0 l0_1) = some r := H
 have A3 := Aside0.mk A30
 clear A30
 have H' := Aside0.mk H
 clear H
 go_enter Try.func131, Try.ntmps131
 go_wp2_with (first | ((with_reducible refine gate_dst (N := 2) rfl ?_); refine box_event ?hg (N := 2) ?hd (cs := #[.int .i64 a0_0, .slice A0_1 l0_1.length c0_1]) (t := 47) ?hr ?_; (case hd => rfl); (case hg => rfl); (case hr => exact qz5); intro gb101 hg w4 hbox hb; have n0_ := Aside0.mk (below_step qz6 hb); have n1_ := Aside0.mk (hbox); have n2_ := Aside0.mk ((qz7 : w.heap.size ≤ gb101)); have n3_ := Aside0.mk ((qz7 : w.heap.size ≤ gb101)); clear HB; have HB := n0_; have BK101 := n1_; have GW101 := n2_; have GE101 := n3_; clear n0_ n1_ n2_ n3_; clear hb hbox hg; have hcz5_0 : w4.cell? ⟨gb101, 0, none⟩ = some (.int .i64 a0_0) := (blk_cell BK101.out 0).trans rfl; have hcz5_1 : w4.cell? ⟨gb101, 1, none⟩ = some (.slice A0_1 l0_1.length c0_1) := (blk_cell BK101.out 1).trans rfl; have hfz5_0 := blk_frozen BK101.out 0; have hfz5_1 := blk_frozen BK101.out 1) | ((with_reducible refine gate_callee (f := 130) rfl ?_); refine goesL_ (some 11) rfl rfl Try.func130 (by kernel_rfl) rfl #[.agg #[.int .i64 a0_0, .slice A0_1 l0_1.length c0_1]] rfl qz1 ?_; (with_reducible refine (impl_Lat_ends.calls k a0_0 _ _ l0_1 t102 t103 _ ?side1 ?side2 A3.out).mono ?_); (case side1 => exact qz17 HR0_1.out); (case side2 => exact HC0_1.out); rintro e w6 ⟨rfl, hb⟩; refine ⟨_, rfl, ?_⟩; have n0_ := Aside0.mk (blk_below (g := gb101) (o := .cells #[.int .i64 a0_0, .slice A0_1 l0_1.length c0_1] 47 (0, 0)) (qz8 BK101.out) hb); have n1_ := Aside0.mk (below_step (qz10 GE101.out) hb); clear BK101; clear HB; have BK101 := n0_; have HB := n1_; clear n0_ n1_; (try clear hb); (try clear hb2); (try clear hk); (try clear hi)))
 go_loopg [5, 16] k (fun kq v5 v16 w' => ∃ (x5_1 : Int) (x16_1 : Int), v5 = .int .i64 x5_1 ∧ v16 = .int .i64 x16_1 ∧ Aside0 (impl_Lat_joinAll.l0 kq x5_1 l1 (l1.length : Int) x16_1 a0_0 l0_1 = some r) ∧ Aside0 (kq ≤ k) ∧ Aside0 (w'.heap[gb101]? = some (.cells #[.int .i64 a0_0, (.slice A0_1 l0_1.length c0_1)] 47 (0, 0))) ∧ Aside0 (Below w.heap.size w w'))
 case atStart => exact ⟨(t102), (0), qz2, qz2, H', ⟨Nat.le_refl _⟩, ⟨qz8 BK101.out⟩, ⟨qz10 GE101.out⟩⟩
 case round =>
  clear H'
  try clear c1
  try clear p2
  try clear hcz5_0
  try clear hcz5_1
  try clear hfz5_0
  try clear hfz5_1
  obtain ⟨x5_1, x16_1, rfl, rfl, HA, HK1, BK101, HB⟩ := hrel
  cases gk with
  | zero => exact absurd HA.out (by simp [impl_Lat_joinAll.l0])
  | succ k1 =>
   have H := HA.out
   clear HA
   simp only [impl_Lat_joinAll.l0] at H
   by_cases c7 : x16_1 < (l1.length : Int)
   ·rw [if_pos c7] at H
    have c7b0 : decide (x16_1 < (l1.length : Int)) = true := decide_eq_true c7
    clear c7
    by_cases c8 : 0 ≤ x16_1
    ·rw [if_pos c8] at H
     have c8b0 : decide (0 ≤ x16_1) = true := decide_eq_true c8
     clear c8
     by_cases c9 : x16_1 < (l1.length : Int)
     ·rw [if_pos c9] at H
      have c9b0 : decide (x16_1 < (l1.length : Int)) = true := decide_eq_true c9
      clear c9
      replace H := Option.bind_eq_some_iff.mp H
      obtain ⟨t105, A100, H⟩ := H
      replace H : (impl_Lat_joinAll.l0 k1 t105 l1 (l1.length : Int) (wrap64 (x16_1 + 1)) a0_0 l0_1) = some r := H
      have A10 := Aside0.mk A100
      clear A100
      have H' := Aside0.mk H
      clear H
      have p104 : 0 ≤ (x16_1 : Int) := of_decide_eq_true qz4
      have q104 : x16_1 < (l1.length : Int) := of_decide_eq_true qz4
      obtain ⟨ad104, e104, hx104_0⟩ := Kd.at_int HR1.out x16_1 p104 q104
      cases e104
      replace hx104_0 := qcb HB hx104_0
      replace p104 := eq_true p104
      replace q104 := eq_true q104
      have hcz11_0 : wr.cell? ⟨gb101, 0, none⟩ = some (.int .i64 a0_0) := (blk_cell BK101.out 0).trans rfl
      have hcz11_1 : wr.cell? ⟨gb101, 1, none⟩ = some (.slice A0_1 l0_1.length c0_1) := (blk_cell BK101.out 1).trans rfl
      have hfz11_0 := blk_frozen BK101.out 0
      have hfz11_1 := blk_frozen BK101.out 1
      go_wp2_with (first | ((with_reducible refine gate_callee (f := 127) rfl ?_); refine goesL_ (some 23) rfl rfl Try.func127 (by kernel_rfl) rfl #[.agg #[.int .i64 a0_0, .slice A0_1 l0_1.length c0_1], .int .i64 x5_1, .int .i64 (rd l1 x16_1)] rfl qz1 ?_; (with_reducible refine (impl_Lat_join.calls k1 a0_0 _ _ l0_1 x5_1 (rd l1 x16_1) t105 _ ?side1 ?side2 A10.out).mono ?_); (case side1 => exact qz17 HR0_1.out); (case side2 => exact HC0_1.out); rintro e w12 ⟨rfl, hb⟩; refine ⟨_, rfl, ?_⟩; have n0_ := Aside0.mk (blk_below (g := gb101) (o := .cells #[.int .i64 a0_0, .slice A0_1 l0_1.length c0_1] 47 (0, 0)) (qz8 BK101.out) hb); have n1_ := Aside0.mk (below_step (qz10 GE101.out) hb); clear BK101; clear HB; have BK101 := n0_; have HB := n1_; clear n0_ n1_; (try clear hb); (try clear hb2); (try clear hk); (try clear hi)))
      go_roundg k1
      case measure => have := HK1.out; omega
      case rel => exact ⟨(t105), (wrap64 (x16_1 + 1)), qz2, qz2, H', ⟨by have := HK1.out; omega⟩, ⟨qz8 BK101.out⟩, ⟨qz10 GE101.out⟩⟩
     ·rw [if_neg c9] at H
      exact absurd H (by simp)
    ·rw [if_neg c8] at H
     exact absurd H (by simp)
   ·rw [if_neg c7] at H
    have c7b0 : decide (x16_1 < (l1.length : Int)) = false := decide_eq_false c7
    clear c7
    obtain rfl := Option.some.inj H
    go_wp2
    go_ret
    exact ⟨qz13, qz10 GE101.out⟩

end Go.Proofs.Ytjhfjnknajhanaa.P

namespace Go.Proofs.Ytjhfjnknajhanaa.P
open Go.RowKit Go.Proofs.YtjhfjnknajhanaaW.PrintWords Go.Proofs.YtjhfjnknajhanaaW.PrintLast Go.Proofs.YtjhfjnknajhanaaW.PrintMore
attribute [local go_sem] max2_int min2_int max_two min_two max_three min_three max_four min_four   -- for this text's walks alone
set_option linter.unusedVariables false
set_option linter.unusedSimpArgs false

/-! ### impl_LatJoinAll: function 45 -/
set_option maxHeartbeats 8000000 in
set_option maxRecDepth 100000 in
theorem impl_LatJoinAll.calls (k : Nat) (a0_0 : Int) (A0_1 : Option Addr) (c0_1 : Nat) (l0_1 : List Int) (A1 : Option Addr) (c1 : Nat) (l1 : List Int) (r : Int) (w : World) (hr0_1 : Kd.C (Kd.int .u64) w A0_1 l0_1.length l0_1) (hc0_1 : l0_1.length ≤ c0_1) (hr1 : Kd.C (Kd.int .i64) w A1 l1.length l1) (hc1 : l1.length ≤ c1) (h : impl_LatJoinAll.f k a0_0 l0_1 l1 = some r) :
  Calls Try.prog 45 #[.agg #[.int .i64 a0_0, .slice A0_1 l0_1.length c0_1], .slice A1 l1.length c1] w fun e w' => e = .returned (.int .i64 r) ∧ Below w.heap.size w w' := by
 have hu47 := Try.underlying47
 have HR0_1 := Aside0.mk hr0_1
 have HC0_1 := Aside0.mk hc0_1
 clear hr0_1 hc0_1
 have HR1 := Aside0.mk hr1
 have HC1 := Aside0.mk hc1
 clear hr1 hc1
 have HB := Aside0.mk (Below.refl w.heap.size w)
 have H : ((impl_areLabels.f k a0_0 l0_1 l1).bind fun t102 => (if t102 = true then ((impl_Lat_joinAll.f k a0_0 l0_1 l1).bind fun t103 => (some t103)) else (some (-1)))) = some r := h
 clear h
 replace H := Option.bind_eq_some_iff.mp H
 obtain ⟨t102, A30, H⟩ := H
 replace H : (if t102 = true then ((impl_Lat_joinAll.f k a0_0 l0_1 l1).bind fun t103 => (some t103)) else (some (-1))) = some r := H
 have A3 := Aside0.mk A30
 clear A30
 by_cases c4 : t102 = true
 ·subst c4
  have H1 : ((impl_Lat_joinAll.f k a0_0 l0_1 l1).bind fun t103 => (some t103)) = some r := by rw [if_pos rfl] at H; exact H
  clear H
  have H := H1
  clear H1
  replace H := Option.bind_eq_some_iff.mp H
  obtain ⟨t103, A50, H⟩ := H
  replace H : (some t103) = some r := H
  have A5 := Aside0.mk A50
  clear A50
  obtain rfl := Option.some.inj H
  go_enter Try.func45, Try.ntmps45
  go_wp2_with (first | ((with_reducible refine gate_dst (N := 2) rfl ?_); refine box_event ?hg (N := 2) ?hd (cs := #[.int .i64 a0_0, .slice A0_1 l0_1.length c0_1]) (t := 47) ?hr ?_; (case hd => rfl); (case hg => rfl); (case hr => exact qz5); intro gb101 hg w6 hbox hb; have n0_ := Aside0.mk (below_step qz6 hb); have n1_ := Aside0.mk (hbox); have n2_ := Aside0.mk ((qz7 : w.heap.size ≤ gb101)); have n3_ := Aside0.mk ((qz7 : w.heap.size ≤ gb101)); clear HB; have HB := n0_; have BK101 := n1_; have GW101 := n2_; have GE101 := n3_; clear n0_ n1_ n2_ n3_; clear hb hbox hg; have hcz7_0 : w6.cell? ⟨gb101, 0, none⟩ = some (.int .i64 a0_0) := (blk_cell BK101.out 0).trans rfl; have hcz7_1 : w6.cell? ⟨gb101, 1, none⟩ = some (.slice A0_1 l0_1.length c0_1) := (blk_cell BK101.out 1).trans rfl; have hfz7_0 := blk_frozen BK101.out 0; have hfz7_1 := blk_frozen BK101.out 1) | ((with_reducible refine gate_callee (f := 126) rfl ?_); refine goesL_ (some 7) rfl rfl Try.func126 (by kernel_rfl) rfl #[.agg #[.int .i64 a0_0, .slice A0_1 l0_1.length c0_1], .slice A1 l1.length c1] rfl qz1 ?_; (with_reducible refine (impl_areLabels.calls k a0_0 _ _ l0_1 _ _ l1 true _ ?side1 ?side2 ?side3 ?side4 A3.out).mono ?_); (case side1 => exact qz17 HR0_1.out); (case side2 => exact HC0_1.out); (case side3 => exact qz17 HR1.out); (case side4 => exact HC1.out); rintro e w8 ⟨rfl, hb⟩; refine ⟨_, rfl, ?_⟩; have n0_ := Aside0.mk (blk_below (g := gb101) (o := .cells #[.int .i64 a0_0, .slice A0_1 l0_1.length c0_1] 47 (0, 0)) (qz8 BK101.out) hb); have n1_ := Aside0.mk (below_step (qz10 GE101.out) hb); clear BK101; clear HB; have BK101 := n0_; have HB := n1_; clear n0_ n1_; (try clear hb); (try clear hb2); (try clear hk); (try clear hi); have hcz9_0 : w8.cell? ⟨gb101, 0, none⟩ = some (.int .i64 a0_0) := (blk_cell BK101.out 0).trans rfl; have hcz9_1 : w8.cell? ⟨gb101, 1, none⟩ = some (.slice A0_1 l0_1.length c0_1) := (blk_cell BK101.out 1).trans rfl; have hfz9_0 := blk_frozen BK101.out 0; have hfz9_1 := blk_frozen BK101.out 1) | ((with_reducible refine gate_callee (f := 131) rfl ?_); refine goesL_ (some 11) rfl rfl Try.func131 (by kernel_rfl) rfl #[.agg #[.int .i64 a0_0, .slice A0_1 l0_1.length c0_1], .slice A1 l1.length c1] rfl qz1 ?_; (with_reducible refine (impl_Lat_joinAll.calls k a0_0 _ _ l0_1 _ _ l1 t103 _ ?side1 ?side2 ?side3 ?side4 A5.out).mono ?_); (case side1 => exact qz17 HR0_1.out); (case side2 => exact HC0_1.out); (case side3 => exact qz17 HR1.out); (case side4 => exact HC1.out); rintro e w10 ⟨rfl, hb⟩; refine ⟨_, rfl, ?_⟩; have n0_ := Aside0.mk (blk_below (g := gb101) (o := .cells #[.int .i64 a0_0, .slice A0_1 l0_1.length c0_1] 47 (0, 0)) (qz8 BK101.out) hb); have n1_ := Aside0.mk (below_step (qz10 GE101.out) hb); clear BK101; clear HB; have BK101 := n0_; have HB := n1_; clear n0_ n1_; (try clear hb); (try clear hb2); (try clear hk); (try clear hi)))
  go_ret
  exact ⟨qz13, qz10 GE101.out⟩
 ·replace c4 := Bool.eq_false_iff.mpr c4
  subst c4
  have H1 : (some (-1)) = some r := by rw [if_neg (show ¬ (false = true) by decide)] at H; exact H
  clear H
  have H := H1
  clear H1
  obtain rfl := Option.some.inj H
  go_enter Try.func45, Try.ntmps45
  go_wp2_with (first | ((with_reducible refine gate_dst (N := 2) rfl ?_); refine box_event ?hg (N := 2) ?hd (cs := #[.int .i64 a0_0, .slice A0_1 l0_1.length c0_1]) (t := 47) ?hr ?_; (case hd => rfl); (case hg => rfl); (case hr => exact qz5); intro gb101 hg w11 hbox hb; have n0_ := Aside0.mk (below_step qz6 hb); have n1_ := Aside0.mk (hbox); have n2_ := Aside0.mk ((qz7 : w.heap.size ≤ gb101)); have n3_ := Aside0.mk ((qz7 : w.heap.size ≤ gb101)); clear HB; have HB := n0_; have BK101 := n1_; have GW101 := n2_; have GE101 := n3_; clear n0_ n1_ n2_ n3_; clear hb hbox hg; have hcz12_0 : w11.cell? ⟨gb101, 0, none⟩ = some (.int .i64 a0_0) := (blk_cell BK101.out 0).trans rfl; have hcz12_1 : w11.cell? ⟨gb101, 1, none⟩ = some (.slice A0_1 l0_1.length c0_1) := (blk_cell BK101.out 1).trans rfl; have hfz12_0 := blk_frozen BK101.out 0; have hfz12_1 := blk_frozen BK101.out 1) | ((with_reducible refine gate_callee (f := 126) rfl ?_); refine goesL_ (some 7) rfl rfl Try.func126 (by kernel_rfl) rfl #[.agg #[.int .i64 a0_0, .slice A0_1 l0_1.length c0_1], .slice A1 l1.length c1] rfl qz1 ?_; (with_reducible refine (impl_areLabels.calls k a0_0 _ _ l0_1 _ _ l1 false _ ?side1 ?side2 ?side3 ?side4 A3.out).mono ?_); (case side1 => exact qz17 HR0_1.out); (case side2 => exact HC0_1.out); (case side3 => exact qz17 HR1.out); (case side4 => exact HC1.out); rintro e w13 ⟨rfl, hb⟩; refine ⟨_, rfl, ?_⟩; have n0_ := Aside0.mk (blk_below (g := gb101) (o := .cells #[.int .i64 a0_0, .slice A0_1 l0_1.length c0_1] 47 (0, 0)) (qz8 BK101.out) hb); have n1_ := Aside0.mk (below_step (qz10 GE101.out) hb); clear BK101; clear HB; have BK101 := n0_; have HB := n1_; clear n0_ n1_; (try clear hb); (try clear hb2); (try clear hk); (try clear hi)))
  go_ret
  exact ⟨qz13, qz10 GE101.out⟩

end Go.Proofs.Ytjhfjnknajhanaa.P

namespace Go.Proofs.Ytjhfjnknajhanaa.P
open Go.RowKit Go.Proofs.YtjhfjnknajhanaaW.PrintWords Go.Proofs.YtjhfjnknajhanaaW.PrintLast Go.Proofs.YtjhfjnknajhanaaW.PrintMore
attribute [local go_sem] max2_int min2_int max_two min_two max_three min_three max_four min_four   -- for this text's walks alone
set_option linter.unusedVariables false
set_option linter.unusedSimpArgs false

/-! ### impl_LatLe: function 40 -/
set_option maxHeartbeats 8000000 in
set_option maxRecDepth 100000 in
theorem impl_LatLe.calls (k : Nat) (a0_0 : Int) (A0_1 : Option Addr) (c0_1 : Nat) (l0_1 : List Int) (a1 : Int) (a2 : Int) (r : Bool) (w : World) (hr0_1 : Kd.C (Kd.int .u64) w A0_1 l0_1.length l0_1) (hc0_1 : l0_1.length ≤ c0_1) (h : impl_LatLe.f k a0_0 l0_1 a1 a2 = some r) :
  Calls Try.prog 40 #[.agg #[.int .i64 a0_0, .slice A0_1 l0_1.length c0_1], .int .i64 a1, .int .i64 a2] w fun e w' => e = .returned (.bool r) ∧ Below w.heap.size w w' := by
 have hu47 := Try.underlying47
 have HR0_1 := Aside0.mk hr0_1
 have HC0_1 := Aside0.mk hc0_1
 clear hr0_1 hc0_1
 have HB := Aside0.mk (Below.refl w.heap.size w)
 have H : ((impl_areLabels.f k a0_0 l0_1 (([a1, a2] : List Int))).bind fun t105 => (if t105 = true then ((impl_Lat_le.f a0_0 l0_1 a1 a2).bind fun t106 => (some t106)) else (some false))) = some r := h
 clear h
 obtain ⟨y102, hy102⟩ : ∃ y_ : List Int, y_ = (([a1, a2] : List Int)) := ⟨_, rfl⟩
 replace H : ((impl_areLabels.f k a0_0 l0_1 y102).bind fun t105 => (if t105 = true then ((impl_Lat_le.f a0_0 l0_1 a1 a2).bind fun t106 => (some t106)) else (some false))) = some r := by first | (rw [hy102]; with_reducible exact H) | (have H2_ := (Option.bind_some _ _).symm.trans H; rw [hy102]; with_reducible exact H2_) | (have H2_ := (Option.bind_some _ _).symm.trans H; with_reducible exact H2_) | with_reducible exact H | (rw [hy102]; exact H) | exact H
 have Ny102 := Aside0.mk hy102
 clear hy102
 replace H := Option.bind_eq_some_iff.mp H
 obtain ⟨t105, A40, H⟩ := H
 replace H : (if t105 = true then ((impl_Lat_le.f a0_0 l0_1 a1 a2).bind fun t106 => (some t106)) else (some false)) = some r := H
 have A4 := Aside0.mk A40
 clear A40
 by_cases c5 : t105 = true
 ·subst c5
  have H1 : ((impl_Lat_le.f a0_0 l0_1 a1 a2).bind fun t106 => (some t106)) = some r := by rw [if_pos rfl] at H; exact H
  clear H
  have H := H1
  clear H1
  replace H := Option.bind_eq_some_iff.mp H
  obtain ⟨t106, A60, H⟩ := H
  replace H : (some t106) = some r := H
  have A6 := Aside0.mk A60
  clear A60
  obtain rfl := Option.some.inj H
  go_enter Try.func40, Try.ntmps40
  go_wp2_with (first | ((with_reducible refine gate_dst (N := 3) rfl ?_); refine box_event ?hg (N := 3) ?hd (cs := #[.int .i64 a0_0, .slice A0_1 l0_1.length c0_1]) (t := 47) ?hr ?_; (case hd => rfl); (case hg => rfl); (case hr => exact qz5); intro gb101 hg w7 hbox hb; have n0_ := Aside0.mk (below_step qz6 hb); have n1_ := Aside0.mk (hbox); have n2_ := Aside0.mk ((qz7 : w.heap.size ≤ gb101)); have n3_ := Aside0.mk ((qz7 : w.heap.size ≤ gb101)); clear HB; have HB := n0_; have BK101 := n1_; have GW101 := n2_; have GE101 := n3_; clear n0_ n1_ n2_ n3_; clear hb hbox hg; have hcz8_0 : w7.cell? ⟨gb101, 0, none⟩ = some (.int .i64 a0_0) := (blk_cell BK101.out 0).trans rfl; have hcz8_1 : w7.cell? ⟨gb101, 1, none⟩ = some (.slice A0_1 l0_1.length c0_1) := (blk_cell BK101.out 1).trans rfl; have hfz8_0 := blk_frozen BK101.out 0; have hfz8_1 := blk_frozen BK101.out 1) | ((with_reducible refine gate_dst (N := 10) rfl ?_); refine Kd.R_lit (Kd.int .i64) _ 3 ?hg (N := 10) ?hd (xs := ([a1, a2] : List Int)) (inner := [.int .i64 a1, .int .i64 a2]) (ok := fun _ => True) (okp := fun _ => True) ?hr ?hp (fun _ hk => hk) trivial (Below.refl _ _) (Nat.le_refl _) (by simp) ?_; (case hd => rfl); (case hg => rfl); (case hr => exact qz5); (case hp => exact qz35); intro v103 w9 ho10 hb hg_ hnew_; clear hg_ hnew_; (first | rw [← Ny102.out] at ho10 | (simp only [Int.reduceToNat] at ho10; rw [← Ny102.out] at ho10)); have n0_ := Aside0.mk (Kd.R_lower ho10 (below_size (qz10 GE101.out))); have n1_ := Aside0.mk (blk_below (g := gb101) (o := .cells #[.int .i64 a0_0, .slice A0_1 l0_1.length c0_1] 47 (0, 0)) (qz8 BK101.out) hb); have n2_ := Aside0.mk (below_step (qz10 GE101.out) hb); clear BK101; clear HB; have HO104 := n0_; have BK101 := n1_; have HB := n2_; clear n0_ n1_ n2_; clear hb ho10; obtain ⟨Ao11, co11, eo11⟩ := Kd.R_slice HO104.out; subst eo11) | ((with_reducible refine gate_callee (f := 126) rfl ?_); refine goesL_ (some 11) rfl rfl Try.func126 (by kernel_rfl) rfl #[.agg #[.int .i64 a0_0, .slice A0_1 l0_1.length c0_1], .slice Ao11 y102.length co11] rfl qz1 ?_; (with_reducible refine (impl_areLabels.calls k a0_0 _ _ l0_1 _ _ y102 true _ ?side1 ?side2 ?side3 ?side4 A4.out).mono ?_); (case side1 => exact qz17 HR0_1.out); (case side2 => exact HC0_1.out); (case side3 => exact qz19 HO104.out); (case side4 => exact qz20 HO104.out); rintro e w12 ⟨rfl, hb⟩; refine ⟨_, rfl, ?_⟩; have n0_ := Aside0.mk (Kd.R_below (qz21 HO104.out) hb); have n1_ := Aside0.mk (blk_below (g := gb101) (o := .cells #[.int .i64 a0_0, .slice A0_1 l0_1.length c0_1] 47 (0, 0)) (qz8 BK101.out) hb); have n2_ := Aside0.mk (below_step (qz10 GE101.out) hb); clear HO104; clear BK101; clear HB; have HO104 := n0_; have BK101 := n1_; have HB := n2_; clear n0_ n1_ n2_; (try clear hb); (try clear hb2); (try clear hk); (try clear hi); have hcz13_0 : w12.cell? ⟨gb101, 0, none⟩ = some (.int .i64 a0_0) := (blk_cell BK101.out 0).trans rfl; have hcz13_1 : w12.cell? ⟨gb101, 1, none⟩ = some (.slice A0_1 l0_1.length c0_1) := (blk_cell BK101.out 1).trans rfl; have hfz13_0 := blk_frozen BK101.out 0; have hfz13_1 := blk_frozen BK101.out 1) | (go_at_call 119; (with_reducible refine (impl_Lat_le.calls a0_0 _ _ l0_1 a1 a2 t106 _ ?side1 ?side2 A6.out).mono ?_); (case side1 => exact qz17 HR0_1.out); (case side2 => exact HC0_1.out); rintro e w14 ⟨rfl, hb⟩; have n0_ := Aside0.mk (Kd.R_below (qz21 HO104.out) hb); have n1_ := Aside0.mk (blk_below (g := gb101) (o := .cells #[.int .i64 a0_0, .slice A0_1 l0_1.length c0_1] 47 (0, 0)) (qz8 BK101.out) hb); have n2_ := Aside0.mk (below_step (qz10 GE101.out) hb); clear HO104; clear BK101; clear HB; have HO104 := n0_; have BK101 := n1_; have HB := n2_; clear n0_ n1_ n2_; (try clear hb); (try clear hb2); (try clear hk); (try clear hi)))
  go_ret
  exact ⟨qz13, qz10 GE101.out⟩
 ·replace c5 := Bool.eq_false_iff.mpr c5
  subst c5
  have H1 : (some false) = some r := by rw [if_neg (show ¬ (false = true) by decide)] at H; exact H
  clear H
  have H := H1
  clear H1
  obtain rfl := Option.some.inj H
  go_enter Try.func40, Try.ntmps40
  go_wp2_with (first | ((with_reducible refine gate_dst (N := 3) rfl ?_); refine box_event ?hg (N := 3) ?hd (cs := #[.int .i64 a0_0, .slice A0_1 l0_1.length c0_1]) (t := 47) ?hr ?_; (case hd => rfl); (case hg => rfl); (case hr => exact qz5); intro gb101 hg w15 hbox hb; have n0_ := Aside0.mk (below_step qz6 hb); have n1_ := Aside0.mk (hbox); have n2_ := Aside0.mk ((qz7 : w.heap.size ≤ gb101)); have n3_ := Aside0.mk ((qz7 : w.heap.size ≤ gb101)); clear HB; have HB := n0_; have BK101 := n1_; have GW101 := n2_; have GE101 := n3_; clear n0_ n1_ n2_ n3_; clear hb hbox hg; have hcz16_0 : w15.cell? ⟨gb101, 0, none⟩ = some (.int .i64 a0_0) := (blk_cell BK101.out 0).trans rfl; have hcz16_1 : w15.cell? ⟨gb101, 1, none⟩ = some (.slice A0_1 l0_1.length c0_1) := (blk_cell BK101.out 1).trans rfl; have hfz16_0 := blk_frozen BK101.out 0; have hfz16_1 := blk_frozen BK101.out 1) | ((with_reducible refine gate_dst (N := 10) rfl ?_); refine Kd.R_lit (Kd.int .i64) _ 3 ?hg (N := 10) ?hd (xs := ([a1, a2] : List Int)) (inner := [.int .i64 a1, .int .i64 a2]) (ok := fun _ => True) (okp := fun _ => True) ?hr ?hp (fun _ hk => hk) trivial (Below.refl _ _) (Nat.le_refl _) (by simp) ?_; (case hd => rfl); (case hg => rfl); (case hr => exact qz5); (case hp => exact qz35); intro v103 w17 ho18 hb hg_ hnew_; clear hg_ hnew_; (first | rw [← Ny102.out] at ho18 | (simp only [Int.reduceToNat] at ho18; rw [← Ny102.out] at ho18)); have n0_ := Aside0.mk (Kd.R_lower ho18 (below_size (qz10 GE101.out))); have n1_ := Aside0.mk (blk_below (g := gb101) (o := .cells #[.int .i64 a0_0, .slice A0_1 l0_1.length c0_1] 47 (0, 0)) (qz8 BK101.out) hb); have n2_ := Aside0.mk (below_step (qz10 GE101.out) hb); clear BK101; clear HB; have HO104 := n0_; have BK101 := n1_; have HB := n2_; clear n0_ n1_ n2_; clear hb ho18; obtain ⟨Ao19, co19, eo19⟩ := Kd.R_slice HO104.out; subst eo19) | ((with_reducible refine gate_callee (f := 126) rfl ?_); refine goesL_ (some 11) rfl rfl Try.func126 (by kernel_rfl) rfl #[.agg #[.int .i64 a0_0, .slice A0_1 l0_1.length c0_1], .slice Ao19 y102.length co19] rfl qz1 ?_; (with_reducible refine (impl_areLabels.calls k a0_0 _ _ l0_1 _ _ y102 false _ ?side1 ?side2 ?side3 ?side4 A4.out).mono ?_); (case side1 => exact qz17 HR0_1.out); (case side2 => exact HC0_1.out); (case side3 => exact qz19 HO104.out); (case side4 => exact qz20 HO104.out); rintro e w20 ⟨rfl, hb⟩; refine ⟨_, rfl, ?_⟩; have n0_ := Aside0.mk (Kd.R_below (qz21 HO104.out) hb); have n1_ := Aside0.mk (blk_below (g := gb101) (o := .cells #[.int .i64 a0_0, .slice A0_1 l0_1.length c0_1] 47 (0, 0)) (qz8 BK101.out) hb); have n2_ := Aside0.mk (below_step (qz10 GE101.out) hb); clear HO104; clear BK101; clear HB; have HO104 := n0_; have BK101 := n1_; have HB := n2_; clear n0_ n1_ n2_; (try clear hb); (try clear hb2); (try clear hk); (try clear hi)))
  go_ret
  exact ⟨qz13, qz10 GE101.out⟩

end Go.Proofs.Ytjhfjnknajhanaa.P

namespace Go.Proofs.Ytjhfjnknajhanaa.P
open Go.RowKit Go.Proofs.YtjhfjnknajhanaaW.PrintWords Go.Proofs.YtjhfjnknajhanaaW.PrintLast Go.Proofs.YtjhfjnknajhanaaW.PrintMore
attribute [local go_sem] max2_int min2_int max_two min_two max_three min_three max_four min_four   -- for this text's walks alone
set_option linter.unusedVariables false
set_option linter.unusedSimpArgs false

/-! ### laws_big: function 19 -/
set_option maxHeartbeats 8000000 in
set_option maxRecDepth 100000 in
theorem laws_big.calls (A0 : Option Addr) (c0 : Nat) (l0 : List Int) (r : Bool) (w : World) (hr0 : Kd.C (Kd.int .u8) w A0 l0.length l0) (hc0 : l0.length ≤ c0) (h : laws_big.f l0 = some r) :
  Calls Try.prog 19 #[.slice A0 l0.length c0] w fun e w' => e = .returned (.bool r) ∧ Drawn0 w w' := by
 have HR0 := Aside0.mk hr0
 have HC0 := Aside0.mk hc0
 clear hr0 hc0
 have H : (some (decide ((l0.length : Int) > 1048576))) = some r := h
 clear h
 obtain rfl := Option.some.inj H
 go_enter Try.func19, Try.ntmps19
 go_wp2
 go_ret
 exact ⟨qz2, qz3⟩

end Go.Proofs.Ytjhfjnknajhanaa.P

namespace Go.Proofs.Ytjhfjnknajhanaa.P
open Go.RowKit Go.Proofs.YtjhfjnknajhanaaW.PrintWords Go.Proofs.YtjhfjnknajhanaaW.PrintLast Go.Proofs.YtjhfjnknajhanaaW.PrintMore
attribute [local go_sem] max2_int min2_int max_two min_two max_three min_three max_four min_four   -- for this text's walks alone
set_option linter.unusedVariables false
set_option linter.unusedSimpArgs false

/-! ### laws_same: function 43 -/
set_option maxHeartbeats 8000000 in
set_option maxRecDepth 100000 in
theorem laws_same.calls (k : Nat) (A0 : Option Addr) (c0 : Nat) (l0 : List Int) (A1 : Option Addr) (c1 : Nat) (l1 : List Int) (r : Bool) (w : World) (hr0 : Kd.C (Kd.int .i64) w A0 l0.length l0) (hc0 : l0.length ≤ c0) (hr1 : Kd.C (Kd.int .i64) w A1 l1.length l1) (hc1 : l1.length ≤ c1) (h : laws_same.f k l0 l1 = some r) :
  Calls Try.prog 43 #[.slice A0 l0.length c0, .slice A1 l1.length c1] w fun e w' => e = .returned (.bool r) ∧ Drawn0 w w' := by
 have HR0 := Aside0.mk hr0
 have HC0 := Aside0.mk hc0
 clear hr0 hc0
 have HR1 := Aside0.mk hr1
 have HC1 := Aside0.mk hc1
 clear hr1 hc1
 have H : (if (l0.length : Int) = (l1.length : Int) then (laws_same.l0 k l0 l1 0) else (some false)) = some r := h
 clear h
 by_cases c3 : (l0.length : Int) = (l1.length : Int)
 ·rw [if_pos c3] at H
  have c3b0 : ((l0.length : Int) == (l1.length : Int)) = true := beq_iff_eq.mpr c3
  have c3b1 : ((l0.length : Int) != (l1.length : Int)) = false := bne_eq_false_iff_eq.mpr c3
  have c3b2 : (l0.length == l1.length) = true := by first | simpa using c3 | (simp at c3 ⊢; omega)
  clear c3
  have H' := Aside0.mk H
  clear H
  go_enter Try.func43, Try.ntmps43
  go_wp2
  repeat (go_quiet (fail); try go_wp2)
  go_loopg [5] k (fun kq v5 w' => ∃ (x5_1 : Int), v5 = .int .i64 x5_1 ∧ Aside0 (laws_same.l0 kq l0 l1 x5_1 = some r) ∧ Aside0 (kq ≤ k) ∧ Drawn0 w w')
  case atStart => exact ⟨(0), qz2, H', ⟨Nat.le_refl _⟩, qz3⟩
  case round =>
   clear H'
   try clear c1
   try clear p2
   try clear c3
   try clear c3b0
   try clear c3b1
   try clear c3b2
   obtain ⟨x5_1, rfl, HA, HK1, ⟨m1, rfl⟩⟩ := hrel
   cases gk with
   | zero => exact absurd HA.out (by simp [laws_same.l0])
   | succ k1 =>
    have H := HA.out
    clear HA
    simp only [laws_same.l0] at H
    by_cases c4 : x5_1 < (l0.length : Int)
    ·rw [if_pos c4] at H
     have c4b0 : decide (x5_1 < (l0.length : Int)) = true := decide_eq_true c4
     clear c4
     by_cases c5 : 0 ≤ x5_1
     ·rw [if_pos c5] at H
      have c5b0 : decide (0 ≤ x5_1) = true := decide_eq_true c5
      clear c5
      by_cases c6 : x5_1 < (l1.length : Int)
      ·rw [if_pos c6] at H
       have c6b0 : decide (x5_1 < (l1.length : Int)) = true := decide_eq_true c6
       clear c6
       by_cases c7 : (rd l0 x5_1) = (rd l1 x5_1)
       ·rw [if_pos c7] at H
        have c7b0 : ((rd l0 x5_1) == (rd l1 x5_1)) = true := beq_iff_eq.mpr c7
        have c7b1 : ((rd l0 x5_1) != (rd l1 x5_1)) = false := bne_eq_false_iff_eq.mpr c7
        clear c7
        have H' := Aside0.mk H
        clear H
        have p101 : 0 ≤ (x5_1 : Int) := of_decide_eq_true qz4
        have q101 : x5_1 < (l0.length : Int) := of_decide_eq_true qz4
        obtain ⟨ad101, e101, hx101_0⟩ := Kd.at_int HR0.out x5_1 p101 q101
        cases e101
        replace p101 := eq_true p101
        replace q101 := eq_true q101
        have p102 : 0 ≤ (x5_1 : Int) := of_decide_eq_true qz4
        have q102 : x5_1 < (l1.length : Int) := of_decide_eq_true qz4
        obtain ⟨ad102, e102, hx102_0⟩ := Kd.at_int HR1.out x5_1 p102 q102
        cases e102
        replace p102 := eq_true p102
        replace q102 := eq_true q102
        go_wp2
        repeat (go_quiet (fail); try go_wp2)
        go_roundg k1
        case measure => have := HK1.out; omega
        case rel => exact ⟨(wrap64 (x5_1 + 1)), qz2, H', ⟨by have := HK1.out; omega⟩, qz3⟩
       ·rw [if_neg c7] at H
        have c7b0 : ((rd l0 x5_1) == (rd l1 x5_1)) = false := beq_eq_false_iff_ne.mpr c7
        have c7b1 : ((rd l0 x5_1) != (rd l1 x5_1)) = true := bne_iff_ne.mpr c7
        obtain rfl := Option.some.inj H
        have p101 : 0 ≤ (x5_1 : Int) := of_decide_eq_true qz4
        have q101 : x5_1 < (l0.length : Int) := of_decide_eq_true qz4
        obtain ⟨ad101, e101, hx101_0⟩ := Kd.at_int HR0.out x5_1 p101 q101
        cases e101
        replace p101 := eq_true p101
        replace q101 := eq_true q101
        have p102 : 0 ≤ (x5_1 : Int) := of_decide_eq_true qz4
        have q102 : x5_1 < (l1.length : Int) := of_decide_eq_true qz4
        obtain ⟨ad102, e102, hx102_0⟩ := Kd.at_int HR1.out x5_1 p102 q102
        cases e102
        replace p102 := eq_true p102
        replace q102 := eq_true q102
        go_wp2
        repeat (go_quiet (fail); try go_wp2)
        go_ret
        exact ⟨qz2, qz3⟩
      ·rw [if_neg c6] at H
       exact absurd H (by simp)
     ·rw [if_neg c5] at H
      exact absurd H (by simp)
    ·rw [if_neg c4] at H
     have c4b0 : decide (x5_1 < (l0.length : Int)) = false := decide_eq_false c4
     clear c4
     obtain rfl := Option.some.inj H
     go_wp2
     repeat (go_quiet (fail); try go_wp2)
     go_ret
     exact ⟨qz2, qz3⟩
 ·rw [if_neg c3] at H
  have c3b0 : ((l0.length : Int) == (l1.length : Int)) = false := beq_eq_false_iff_ne.mpr c3
  have c3b1 : ((l0.length : Int) != (l1.length : Int)) = true := bne_iff_ne.mpr c3
  have c3b2 : (l0.length == l1.length) = false := by first | simpa using c3 | (simp at c3 ⊢; omega)
  obtain rfl := Option.some.inj H
  go_enter Try.func43, Try.ntmps43
  go_wp2
  repeat (go_quiet (fail); try go_wp2)
  go_ret
  exact ⟨qz2, qz3⟩

end Go.Proofs.Ytjhfjnknajhanaa.P

namespace Go.Proofs.Ytjhfjnknajhanaa.P
open Go.RowKit Go.Proofs.YtjhfjnknajhanaaW.PrintWords Go.Proofs.YtjhfjnknajhanaaW.PrintLast Go.Proofs.YtjhfjnknajhanaaW.PrintMore
attribute [local go_sem] max2_int min2_int max_two min_two max_three min_three max_four min_four   -- for this text's walks alone
set_option linter.unusedVariables false
set_option linter.unusedSimpArgs false

/-! ### spec_l01Bit: function 120 -/
set_option maxHeartbeats 8000000 in
set_option maxRecDepth 100000 in
theorem spec_l01Bit.calls (a0 : Int) (a1 : Int) (r : Bool) (w : World) (h : spec_l01Bit.f a0 a1 = some r) :
  Calls Try.prog 120 #[.int .u64 a0, .int .i64 a1] w fun e w' => e = .returned (.bool r) ∧ Drawn0 w w' := by
 have H : (if 0 ≤ (IntKind.u64.wrap (a1)) then (some ((Go.bits .and .u64 (shr .u64 a0 (IntKind.u64.wrap (a1))) 1) == 1)) else (none)) = some r := h
 clear h
 obtain ⟨ji3, hji3⟩ : ∃ j_ : Int, (IntKind.u64.wrap (a1)) = j_ := ⟨_, rfl⟩
 replace H : (if 0 ≤ (ji3) then (some ((Go.bits .and .u64 (shr .u64 a0 (ji3)) 1) == 1)) else (none)) = some r := by first | (rw [hji3] at H; exact H) | (simp only [hji3] at H ⊢; exact H)
 by_cases c4 : 0 ≤ (ji3)
 ·rw [if_pos c4] at H
  have c4b0 := eq_true c4
  have c4b1 : decide (0 ≤ (ji3)) = true := decide_eq_true c4
  clear c4
  obtain ⟨ji5, hji5⟩ : ∃ j_ : Int, (shr .u64 a0 (ji3)) = j_ := ⟨_, rfl⟩
  replace H : (some ((Go.bits .and .u64 (ji5) 1) == 1)) = some r := by first | (rw [hji5] at H; exact H) | (simp only [hji5] at H ⊢; exact H)
  have hji5_ : (a0 / 2 ^ min (ji3).toNat 64) = ji5 := hji5
  have hji5z : (ji3) ≤ 64 → (a0 / 2 ^ (ji3).toNat) = ji5 := shr_small hji5
  obtain rfl := Option.some.inj H
  go_enter Try.func120, Try.ntmps120
  go_wp2
  go_ret
  exact ⟨by first | rfl | (simp; done) | (simp only [← hji3, ← hji5] <;> (first | rfl | simp)) | (simp [*]; done), qz3⟩
 ·rw [if_neg c4] at H
  exact absurd H (by simp)

end Go.Proofs.Ytjhfjnknajhanaa.P

namespace Go.Proofs.Ytjhfjnknajhanaa.P
open Go.RowKit Go.Proofs.YtjhfjnknajhanaaW.PrintWords Go.Proofs.YtjhfjnknajhanaaW.PrintLast Go.Proofs.YtjhfjnknajhanaaW.PrintMore
attribute [local go_sem] max2_int min2_int max_two min_two max_three min_three max_four min_four   -- for this text's walks alone
set_option linter.unusedVariables false
set_option linter.unusedSimpArgs false

/-! ### spec_l01Side: function 212 -/
set_option maxHeartbeats 8000000 in
set_option maxRecDepth 100000 in
theorem spec_l01Side.calls (a0_0 : Int) (A0_1 : Option Addr) (c0_1 : Nat) (l0_1 : List Int) (a1 : Int) (a2 : Int) (a3 : Bool) (r : Bool) (w : World) (hr0_1 : Kd.C (Kd.int .u64) w A0_1 l0_1.length l0_1) (hc0_1 : l0_1.length ≤ c0_1) (h : spec_l01Side.f a0_0 l0_1 a1 a2 a3 = some r) :
  Calls Try.prog 212 #[.agg #[.int .i64 a0_0, .slice A0_1 l0_1.length c0_1], .int .i64 a1, .int .i64 a2, .bool a3] w fun e w' => e = .returned (.bool r) ∧ Below w.heap.size w w' := by
 have hu47 := Try.underlying47
 have HR0_1 := Aside0.mk hr0_1
 have HC0_1 := Aside0.mk hc0_1
 clear hr0_1 hc0_1
 have HB := Aside0.mk (Below.refl w.heap.size w)
 have H : (if a3 = true then (if 0 ≤ a1 then (if a1 < (l0_1.length : Int) then ((spec_l01Bit.f (rd l0_1 a1) a2).bind fun t103 => (some t103)) else (none)) else (none)) else (if 0 ≤ a2 then (if a2 < (l0_1.length : Int) then ((spec_l01Bit.f (rd l0_1 a2) a1).bind fun t105 => (some t105)) else (none)) else (none))) = some r := h
 clear h
 by_cases c5 : a3 = true
 ·subst c5
  have H1 : (if 0 ≤ a1 then (if a1 < (l0_1.length : Int) then ((spec_l01Bit.f (rd l0_1 a1) a2).bind fun t103 => (some t103)) else (none)) else (none)) = some r := by rw [if_pos rfl] at H; exact H
  clear H
  have H := H1
  clear H1
  by_cases c6 : 0 ≤ a1
  ·rw [if_pos c6] at H
   have c6b0 : decide (0 ≤ a1) = true := decide_eq_true c6
   clear c6
   by_cases c7 : a1 < (l0_1.length : Int)
   ·rw [if_pos c7] at H
    have c7b0 : decide (a1 < (l0_1.length : Int)) = true := decide_eq_true c7
    clear c7
    replace H := Option.bind_eq_some_iff.mp H
    obtain ⟨t103, A80, H⟩ := H
    replace H : (some t103) = some r := H
    have A8 := Aside0.mk A80
    clear A80
    obtain rfl := Option.some.inj H
    go_enter Try.func212, Try.ntmps212
    go_wp2_with (first | ((with_reducible refine gate_dst (N := 4) rfl ?_); refine box_event ?hg (N := 4) ?hd (cs := #[.int .i64 a0_0, .slice A0_1 l0_1.length c0_1]) (t := 47) ?hr ?_; (case hd => rfl); (case hg => rfl); (case hr => exact qz5); intro gb101 hg w9 hbox hb; have n0_ := Aside0.mk (below_step qz6 hb); have n1_ := Aside0.mk (hbox); have n2_ := Aside0.mk ((qz7 : w.heap.size ≤ gb101)); have n3_ := Aside0.mk ((qz7 : w.heap.size ≤ gb101)); clear HB; have HB := n0_; have BK101 := n1_; have GW101 := n2_; have GE101 := n3_; clear n0_ n1_ n2_ n3_; clear hb hbox hg; have hcz10_0 : w9.cell? ⟨gb101, 0, none⟩ = some (.int .i64 a0_0) := (blk_cell BK101.out 0).trans rfl; have hcz10_1 : w9.cell? ⟨gb101, 1, none⟩ = some (.slice A0_1 l0_1.length c0_1) := (blk_cell BK101.out 1).trans rfl; have hfz10_0 := blk_frozen BK101.out 0; have hfz10_1 := blk_frozen BK101.out 1; have p102 : 0 ≤ (a1 : Int) := of_decide_eq_true qz4; have q102 : a1 < (l0_1.length : Int) := of_decide_eq_true qz4; obtain ⟨ad102, e102, hx102_0⟩ := Kd.at_int HR0_1.out a1 p102 q102; cases e102; replace hx102_0 := qcb HB hx102_0; replace p102 := eq_true p102; replace q102 := eq_true q102) | ((with_reducible refine gate_callee (f := 120) rfl ?_); refine goesL_ (some 16) rfl rfl Try.func120 (by kernel_rfl) rfl #[.int .u64 (rd l0_1 a1), .int .i64 a2] rfl qz1 ?_; (with_reducible refine (spec_l01Bit.calls (rd l0_1 a1) a2 t103 _ A8.out).mono ?_); rintro e w' ⟨rfl, ⟨nd, rfl⟩⟩; refine ⟨_, rfl, ?_⟩))
    go_ret
    exact ⟨qz13, qz10 GE101.out⟩
   ·rw [if_neg c7] at H
    exact absurd H (by simp)
  ·rw [if_neg c6] at H
   exact absurd H (by simp)
 ·replace c5 := Bool.eq_false_iff.mpr c5
  subst c5
  have H1 : (if 0 ≤ a2 then (if a2 < (l0_1.length : Int) then ((spec_l01Bit.f (rd l0_1 a2) a1).bind fun t105 => (some t105)) else (none)) else (none)) = some r := by rw [if_neg (show ¬ (false = true) by decide)] at H; exact H
  clear H
  have H := H1
  clear H1
  by_cases c11 : 0 ≤ a2
  ·rw [if_pos c11] at H
   have c11b0 : decide (0 ≤ a2) = true := decide_eq_true c11
   clear c11
   by_cases c12 : a2 < (l0_1.length : Int)
   ·rw [if_pos c12] at H
    have c12b0 : decide (a2 < (l0_1.length : Int)) = true := decide_eq_true c12
    clear c12
    replace H := Option.bind_eq_some_iff.mp H
    obtain ⟨t105, A130, H⟩ := H
    replace H : (some t105) = some r := H
    have A13 := Aside0.mk A130
    clear A130
    obtain rfl := Option.some.inj H
    go_enter Try.func212, Try.ntmps212
    go_wp2_with (first | ((with_reducible refine gate_dst (N := 4) rfl ?_); refine box_event ?hg (N := 4) ?hd (cs := #[.int .i64 a0_0, .slice A0_1 l0_1.length c0_1]) (t := 47) ?hr ?_; (case hd => rfl); (case hg => rfl); (case hr => exact qz5); intro gb101 hg w14 hbox hb; have n0_ := Aside0.mk (below_step qz6 hb); have n1_ := Aside0.mk (hbox); have n2_ := Aside0.mk ((qz7 : w.heap.size ≤ gb101)); have n3_ := Aside0.mk ((qz7 : w.heap.size ≤ gb101)); clear HB; have HB := n0_; have BK101 := n1_; have GW101 := n2_; have GE101 := n3_; clear n0_ n1_ n2_ n3_; clear hb hbox hg; have hcz15_0 : w14.cell? ⟨gb101, 0, none⟩ = some (.int .i64 a0_0) := (blk_cell BK101.out 0).trans rfl; have hcz15_1 : w14.cell? ⟨gb101, 1, none⟩ = some (.slice A0_1 l0_1.length c0_1) := (blk_cell BK101.out 1).trans rfl; have hfz15_0 := blk_frozen BK101.out 0; have hfz15_1 := blk_frozen BK101.out 1; have p104 : 0 ≤ (a2 : Int) := of_decide_eq_true qz4; have q104 : a2 < (l0_1.length : Int) := of_decide_eq_true qz4; obtain ⟨ad104, e104, hx104_0⟩ := Kd.at_int HR0_1.out a2 p104 q104; cases e104; replace hx104_0 := qcb HB hx104_0; replace p104 := eq_true p104; replace q104 := eq_true q104) | ((with_reducible refine gate_callee (f := 120) rfl ?_); refine goesL_ (some 23) rfl rfl Try.func120 (by kernel_rfl) rfl #[.int .u64 (rd l0_1 a2), .int .i64 a1] rfl qz1 ?_; (with_reducible refine (spec_l01Bit.calls (rd l0_1 a2) a1 t105 _ A13.out).mono ?_); rintro e w' ⟨rfl, ⟨nd, rfl⟩⟩; refine ⟨_, rfl, ?_⟩))
    go_ret
    exact ⟨qz13, qz10 GE101.out⟩
   ·rw [if_neg c12] at H
    exact absurd H (by simp)
  ·rw [if_neg c11] at H
   exact absurd H (by simp)

end Go.Proofs.Ytjhfjnknajhanaa.P

namespace Go.Proofs.Ytjhfjnknajhanaa.P
open Go.RowKit Go.Proofs.YtjhfjnknajhanaaW.PrintWords Go.Proofs.YtjhfjnknajhanaaW.PrintLast Go.Proofs.YtjhfjnknajhanaaW.PrintMore
attribute [local go_sem] max2_int min2_int max_two min_two max_three min_three max_four min_four   -- for this text's walks alone
set_option linter.unusedVariables false
set_option linter.unusedSimpArgs false

/-! ### spec_l01Bound: function 122 -/
set_option maxHeartbeats 8000000 in
set_option maxRecDepth 100000 in
theorem spec_l01Bound.calls (k : Nat) (a0_0 : Int) (A0_1 : Option Addr) (c0_1 : Nat) (l0_1 : List Int) (a1 : Int) (a2 : Int) (a3 : Bool) (r : Int) (w : World) (hr0_1 : Kd.C (Kd.int .u64) w A0_1 l0_1.length l0_1) (hc0_1 : l0_1.length ≤ c0_1) (h : spec_l01Bound.f k a0_0 l0_1 a1 a2 a3 = some r) :
  Calls Try.prog 122 #[.agg #[.int .i64 a0_0, .slice A0_1 l0_1.length c0_1], .int .i64 a1, .int .i64 a2, .bool a3] w fun e w' => e = .returned (.int .i64 r) ∧ Below w.heap.size w w' := by
 have hu47 := Try.underlying47
 have HR0_1 := Aside0.mk hr0_1
 have HC0_1 := Aside0.mk hc0_1
 clear hr0_1 hc0_1
 have HB := Aside0.mk (Below.refl w.heap.size w)
 have H : (spec_l01Bound.l0 k a1 a2 a3 0 a0_0 l0_1) = some r := h
 clear h
 have H' := Aside0.mk H
 clear H
 go_enter Try.func122, Try.ntmps122
 go_wp2_with (first | ((with_reducible refine gate_dst (N := 4) rfl ?_); refine box_event ?hg (N := 4) ?hd (cs := #[.int .i64 a0_0, .slice A0_1 l0_1.length c0_1]) (t := 47) ?hr ?_; (case hd => rfl); (case hg => rfl); (case hr => exact qz5); intro gb101 hg w5 hbox hb; have n0_ := Aside0.mk (below_step qz6 hb); have n1_ := Aside0.mk (hbox); have n2_ := Aside0.mk ((qz7 : w.heap.size ≤ gb101)); have n3_ := Aside0.mk ((qz7 : w.heap.size ≤ gb101)); clear HB; have HB := n0_; have BK101 := n1_; have GW101 := n2_; have GE101 := n3_; clear n0_ n1_ n2_ n3_; clear hb hbox hg))
 go_loopg [9] k (fun kq v9 w' => ∃ (x9_1 : Int), v9 = .int .i64 x9_1 ∧ Aside0 (spec_l01Bound.l0 kq a1 a2 a3 x9_1 a0_0 l0_1 = some r) ∧ Aside0 (kq ≤ k) ∧ Aside0 (w'.heap[gb101]? = some (.cells #[.int .i64 a0_0, (.slice A0_1 l0_1.length c0_1)] 47 (0, 0))) ∧ Aside0 (Below w.heap.size w w'))
 case atStart => exact ⟨(0), qz2, H', ⟨Nat.le_refl _⟩, ⟨qz8 BK101.out⟩, ⟨qz10 GE101.out⟩⟩
 case round =>
  clear H'
  try clear c1
  try clear p2
  obtain ⟨x9_1, rfl, HA, HK1, BK101, HB⟩ := hrel
  cases gk with
  | zero => exact absurd HA.out (by simp [spec_l01Bound.l0])
  | succ k1 =>
   have H := HA.out
   clear HA
   simp only [spec_l01Bound.l0] at H
   by_cases c6 : x9_1 < a0_0
   ·rw [if_pos c6] at H
    have c6b0 : decide (x9_1 < a0_0) = true := decide_eq_true c6
    clear c6
    have HC7 := Aside0.mk H
    clear H
    have hcz8_0 : wr.cell? ⟨gb101, 0, none⟩ = some (.int .i64 a0_0) := (blk_cell BK101.out 0).trans rfl
    have hcz8_1 : wr.cell? ⟨gb101, 1, none⟩ = some (.slice A0_1 l0_1.length c0_1) := (blk_cell BK101.out 1).trans rfl
    have hfz8_0 := blk_frozen BK101.out 0
    have hfz8_1 := blk_frozen BK101.out 1
    go_upto_region 4 with (fail)
    go_cut [10] (fun v10 wc => ∃ (kq : Nat) (x10_6 : Bool), v10 = .bool x10_6 ∧ Aside0 (spec_l01Bound.j1 kq a1 a2 a3 x9_1 x10_6 a0_0 l0_1 = some r) ∧ Aside0 (kq ≤ k1) ∧ Aside0 (wc.heap[gb101]? = some (.cells #[.int .i64 a0_0, (.slice A0_1 l0_1.length c0_1)] 47 (0, 0))) ∧ Aside0 (Below w.heap.size w wc))
    case first =>
     have H := HC7.out
     clear HC7
     replace H := Option.bind_eq_some_iff.mp H
     obtain ⟨t102, A90, H⟩ := H
     replace H : (if t102 = true then ((spec_l01Side.f a0_0 l0_1 a2 x9_1 a3).bind fun t103 => (spec_l01Bound.j1 k1 a1 a2 a3 x9_1 t103 a0_0 l0_1)) else (spec_l01Bound.j1 k1 a1 a2 a3 x9_1 false a0_0 l0_1)) = some r := H
     have A9 := Aside0.mk A90
     clear A90
     by_cases c10 : t102 = true
     ·subst c10
      have H1 : ((spec_l01Side.f a0_0 l0_1 a2 x9_1 a3).bind fun t103 => (spec_l01Bound.j1 k1 a1 a2 a3 x9_1 t103 a0_0 l0_1)) = some r := by rw [if_pos rfl] at H; exact H
      clear H
      have H := H1
      clear H1
      replace H := Option.bind_eq_some_iff.mp H
      obtain ⟨t103, A110, H⟩ := H
      replace H : (spec_l01Bound.j1 k1 a1 a2 a3 x9_1 t103 a0_0 l0_1) = some r := H
      have A11 := Aside0.mk A110
      clear A110
      have H' := Aside0.mk H
      clear H
      have hcz12_0 : wr.cell? ⟨gb101, 0, none⟩ = some (.int .i64 a0_0) := (blk_cell BK101.out 0).trans rfl
      have hcz12_1 : wr.cell? ⟨gb101, 1, none⟩ = some (.slice A0_1 l0_1.length c0_1) := (blk_cell BK101.out 1).trans rfl
      have hfz12_0 := blk_frozen BK101.out 0
      have hfz12_1 := blk_frozen BK101.out 1
      go_wp2_with (first | ((with_reducible refine gate_callee (f := 212) rfl ?_); refine goesL_ (some 22) rfl rfl Try.func212 (by kernel_rfl) rfl #[.agg #[.int .i64 a0_0, .slice A0_1 l0_1.length c0_1], .int .i64 a1, .int .i64 x9_1, .bool a3] rfl qz1 ?_; (with_reducible refine (spec_l01Side.calls a0_0 _ _ l0_1 a1 x9_1 a3 true _ ?side1 ?side2 A9.out).mono ?_); (case side1 => exact qz17 HR0_1.out); (case side2 => exact HC0_1.out); rintro e w13 ⟨rfl, hb⟩; refine ⟨_, rfl, ?_⟩; have n0_ := Aside0.mk (blk_below (g := gb101) (o := .cells #[.int .i64 a0_0, .slice A0_1 l0_1.length c0_1] 47 (0, 0)) (qz8 BK101.out) hb); have n1_ := Aside0.mk (below_step (qz10 GE101.out) hb); clear BK101; clear HB; have BK101 := n0_; have HB := n1_; clear n0_ n1_; (try clear hb); (try clear hb2); (try clear hk); (try clear hi); have hcz14_0 : w13.cell? ⟨gb101, 0, none⟩ = some (.int .i64 a0_0) := (blk_cell BK101.out 0).trans rfl; have hcz14_1 : w13.cell? ⟨gb101, 1, none⟩ = some (.slice A0_1 l0_1.length c0_1) := (blk_cell BK101.out 1).trans rfl; have hfz14_0 := blk_frozen BK101.out 0; have hfz14_1 := blk_frozen BK101.out 1) | (go_at_call 212; (with_reducible refine (spec_l01Side.calls a0_0 _ _ l0_1 a2 x9_1 a3 t103 _ ?side1 ?side2 A11.out).mono ?_); (case side1 => exact qz17 HR0_1.out); (case side2 => exact HC0_1.out); rintro e w15 ⟨rfl, hb⟩; have n0_ := Aside0.mk (blk_below (g := gb101) (o := .cells #[.int .i64 a0_0, .slice A0_1 l0_1.length c0_1] 47 (0, 0)) (qz8 BK101.out) hb); have n1_ := Aside0.mk (below_step (qz10 GE101.out) hb); clear BK101; clear HB; have BK101 := n0_; have HB := n1_; clear n0_ n1_; (try clear hb); (try clear hb2); (try clear hk); (try clear hi)))
      go_meet
      case rel => exact ⟨_, (t103), qz2, H', ⟨qz94 HK1.out⟩, ⟨qz8 BK101.out⟩, ⟨qz10 GE101.out⟩⟩
     ·replace c10 := Bool.eq_false_iff.mpr c10
      subst c10
      have H1 : (spec_l01Bound.j1 k1 a1 a2 a3 x9_1 false a0_0 l0_1) = some r := by rw [if_neg (show ¬ (false = true) by decide)] at H; exact H
      clear H
      have H := H1
      clear H1
      have H' := Aside0.mk H
      clear H
      have hcz16_0 : wr.cell? ⟨gb101, 0, none⟩ = some (.int .i64 a0_0) := (blk_cell BK101.out 0).trans rfl
      have hcz16_1 : wr.cell? ⟨gb101, 1, none⟩ = some (.slice A0_1 l0_1.length c0_1) := (blk_cell BK101.out 1).trans rfl
      have hfz16_0 := blk_frozen BK101.out 0
      have hfz16_1 := blk_frozen BK101.out 1
      go_wp2_with (first | ((with_reducible refine gate_callee (f := 212) rfl ?_); refine goesL_ (some 22) rfl rfl Try.func212 (by kernel_rfl) rfl #[.agg #[.int .i64 a0_0, .slice A0_1 l0_1.length c0_1], .int .i64 a1, .int .i64 x9_1, .bool a3] rfl qz1 ?_; (with_reducible refine (spec_l01Side.calls a0_0 _ _ l0_1 a1 x9_1 a3 false _ ?side1 ?side2 A9.out).mono ?_); (case side1 => exact qz17 HR0_1.out); (case side2 => exact HC0_1.out); rintro e w17 ⟨rfl, hb⟩; refine ⟨_, rfl, ?_⟩; have n0_ := Aside0.mk (blk_below (g := gb101) (o := .cells #[.int .i64 a0_0, .slice A0_1 l0_1.length c0_1] 47 (0, 0)) (qz8 BK101.out) hb); have n1_ := Aside0.mk (below_step (qz10 GE101.out) hb); clear BK101; clear HB; have BK101 := n0_; have HB := n1_; clear n0_ n1_; (try clear hb); (try clear hb2); (try clear hk); (try clear hi)))
      go_meet
      case rel => exact ⟨_, (false), qz2, H', ⟨qz94 HK1.out⟩, ⟨qz8 BK101.out⟩, ⟨qz10 GE101.out⟩⟩
    case rest =>
     clear HC7
     try clear c1
     try clear c2
     try clear p2
     try clear c6
     try clear c6b0
     try clear c10
     try clear c12
     try clear hcz12_0
     try clear hcz12_1
     try clear hcz14_0
     try clear hcz14_1
     try clear hcz16_0
     try clear hcz16_1
     try clear hcz8_0
     try clear hcz8_1
     try clear hfz12_0
     try clear hfz12_1
     try clear hfz14_0
     try clear hfz14_1
     try clear hfz16_0
     try clear hfz16_1
     try clear hfz8_0
     try clear hfz8_1
     try clear p2
     obtain ⟨kq, x10_6, rfl, HA, HJ6, BK101, HB⟩ := hcut
     cases kq with
     | zero => exact absurd HA.out (by simp [spec_l01Bound.j1])
     | succ kj6 =>
      have H := HA.out
      clear HA
      simp only [spec_l01Bound.j1] at H
      have H' := Aside0.mk H
      clear H
      go_wp2
      go_loopg [10, 11] kj6 (fun kq v10 v11 w' => ∃ (x10_3 : Bool) (x11_3 : Int), v10 = .bool x10_3 ∧ v11 = .int .i64 x11_3 ∧ Aside0 (spec_l01Bound.l1 kq a1 a2 a3 x9_1 x10_3 x11_3 a0_0 l0_1 = some r) ∧ Aside0 (kq ≤ kj6) ∧ Aside0 (w'.heap[gb101]? = some (.cells #[.int .i64 a0_0, (.slice A0_1 l0_1.length c0_1)] 47 (0, 0))) ∧ Aside0 (Below w.heap.size w w'))
      case atStart => exact ⟨(x10_6), (0), qz2, qz2, H', ⟨Nat.le_refl _⟩, ⟨qz8 BK101.out⟩, ⟨qz10 GE101.out⟩⟩
      case round =>
       clear H'
       try clear c1
       try clear c2
       try clear p2
       try clear c6
       try clear c6b0
       try clear c10
       try clear c12
       try clear hcz12_0
       try clear hcz12_1
       try clear hcz14_0
       try clear hcz14_1
       try clear hcz16_0
       try clear hcz16_1
       try clear hcz8_0
       try clear hcz8_1
       try clear hfz12_0
       try clear hfz12_1
       try clear hfz14_0
       try clear hfz14_1
       try clear hfz16_0
       try clear hfz16_1
       try clear hfz8_0
       try clear hfz8_1
       try clear p2
       obtain ⟨x10_3, x11_3, rfl, rfl, HA, HK3, BK101, HB⟩ := hrel
       cases gk with
       | zero => exact absurd HA.out (by simp [spec_l01Bound.l1])
       | succ k3 =>
        have H := HA.out
        clear HA
        simp only [spec_l01Bound.l1] at H
        have HC18 := Aside0.mk H
        clear H
        go_upto_region 6 with (fail)
        go_cut [36] (fun v36 wc => ∃ (kq : Nat) (x36_17 : Bool), v36 = .bool x36_17 ∧ Aside0 (spec_l01Bound.j3 kq a1 a2 a3 x9_1 x10_3 x11_3 x36_17 a0_0 l0_1 = some r) ∧ Aside0 (kq ≤ k3) ∧ Aside0 (wc.heap[gb101]? = some (.cells #[.int .i64 a0_0, (.slice A0_1 l0_1.length c0_1)] 47 (0, 0))) ∧ Aside0 (Below w.heap.size w wc))
        case first =>
         have H := HC18.out
         clear HC18
         by_cases c19 : x11_3 < a0_0
         ·rw [if_pos c19] at H
          have c19b0 : decide (x11_3 < a0_0) = true := decide_eq_true c19
          clear c19
          (first | rw [c19b0] | (simp only [i64_w, i32_w]; rw [c19b0]) | skip)
          have H' := Aside0.mk H
          clear H
          have hcz20_0 : wr.cell? ⟨gb101, 0, none⟩ = some (.int .i64 a0_0) := (blk_cell BK101.out 0).trans rfl
          have hcz20_1 : wr.cell? ⟨gb101, 1, none⟩ = some (.slice A0_1 l0_1.length c0_1) := (blk_cell BK101.out 1).trans rfl
          have hfz20_0 := blk_frozen BK101.out 0
          have hfz20_1 := blk_frozen BK101.out 1
          go_wp2
          go_meet
          case rel => exact ⟨_, (x10_3), qz2, H', ⟨qz263 HK1.out HJ6.out HK3.out⟩, ⟨qz8 BK101.out⟩, ⟨qz10 GE101.out⟩⟩
         ·rw [if_neg c19] at H
          have c19b0 : decide (x11_3 < a0_0) = false := decide_eq_false c19
          clear c19
          (first | rw [c19b0] | (simp only [i64_w, i32_w]; rw [c19b0]) | skip)
          have H' := Aside0.mk H
          clear H
          have hcz21_0 : wr.cell? ⟨gb101, 0, none⟩ = some (.int .i64 a0_0) := (blk_cell BK101.out 0).trans rfl
          have hcz21_1 : wr.cell? ⟨gb101, 1, none⟩ = some (.slice A0_1 l0_1.length c0_1) := (blk_cell BK101.out 1).trans rfl
          have hfz21_0 := blk_frozen BK101.out 0
          have hfz21_1 := blk_frozen BK101.out 1
          go_wp2
          go_meet
          case rel => exact ⟨_, (false), qz2, H', ⟨qz263 HK1.out HJ6.out HK3.out⟩, ⟨qz8 BK101.out⟩, ⟨qz10 GE101.out⟩⟩
        case rest =>
         clear HC18
         try clear c1
         try clear c2
         try clear p2
         try clear c6
         try clear c6b0
         try clear c10
         try clear c12
         try clear c19
         try clear c19b0
         try clear c21
         try clear hcz12_0
         try clear hcz12_1
         try clear hcz14_0
         try clear hcz14_1
         try clear hcz16_0
         try clear hcz16_1
         try clear hcz20_0
         try clear hcz20_1
         try clear hcz21_0
         try clear hcz21_1
         try clear hcz8_0
         try clear hcz8_1
         try clear hfz12_0
         try clear hfz12_1
         try clear hfz14_0
         try clear hfz14_1
         try clear hfz16_0
         try clear hfz16_1
         try clear hfz20_0
         try clear hfz20_1
         try clear hfz21_0
         try clear hfz21_1
         try clear hfz8_0
         try clear hfz8_1
         try clear p2
         obtain ⟨kq, x36_17, rfl, HA, HJ17, BK101, HB⟩ := hcut
         cases kq with
         | zero => exact absurd HA.out (by simp [spec_l01Bound.j3])
         | succ kj17 =>
          have H := HA.out
          clear HA
          simp only [spec_l01Bound.j3] at H
          by_cases c22 : x36_17 = true
          ·subst c22
           have H1 : ((spec_l01Side.f a0_0 l0_1 a1 x11_3 a3).bind fun t104 => (if t104 = true then ((spec_l01Side.f a0_0 l0_1 a2 x11_3 a3).bind fun t105 => (if t105 = true then ((spec_l01Side.f a0_0 l0_1 x9_1 x11_3 a3).bind fun t106 => (if t106 = true then (spec_l01Bound.l1 kj17 a1 a2 a3 x9_1 x10_3 (wrap64 (x11_3 + 1)) a0_0 l0_1) else (spec_l01Bound.l1 kj17 a1 a2 a3 x9_1 false (wrap64 (x11_3 + 1)) a0_0 l0_1))) else (spec_l01Bound.l1 kj17 a1 a2 a3 x9_1 x10_3 (wrap64 (x11_3 + 1)) a0_0 l0_1))) else (spec_l01Bound.l1 kj17 a1 a2 a3 x9_1 x10_3 (wrap64 (x11_3 + 1)) a0_0 l0_1))) = some r := by rw [if_pos rfl] at H; exact H
           clear H
           have H := H1
           clear H1
           replace H := Option.bind_eq_some_iff.mp H
           obtain ⟨t104, A230, H⟩ := H
           replace H : (if t104 = true then ((spec_l01Side.f a0_0 l0_1 a2 x11_3 a3).bind fun t105 => (if t105 = true then ((spec_l01Side.f a0_0 l0_1 x9_1 x11_3 a3).bind fun t106 => (if t106 = true then (spec_l01Bound.l1 kj17 a1 a2 a3 x9_1 x10_3 (wrap64 (x11_3 + 1)) a0_0 l0_1) else (spec_l01Bound.l1 kj17 a1 a2 a3 x9_1 false (wrap64 (x11_3 + 1)) a0_0 l0_1))) else (spec_l01Bound.l1 kj17 a1 a2 a3 x9_1 x10_3 (wrap64 (x11_3 + 1)) a0_0 l0_1))) else (spec_l01Bound.l1 kj17 a1 a2 a3 x9_1 x10_3 (wrap64 (x11_3 + 1)) a0_0 l0_1)) = some r := H
           have A23 := Aside0.mk A230
           clear A230
           by_cases c24 : t104 = true
           ·subst c24
            have H1 : ((spec_l01Side.f a0_0 l0_1 a2 x11_3 a3).bind fun t105 => (if t105 = true then ((spec_l01Side.f a0_0 l0_1 x9_1 x11_3 a3).bind fun t106 => (if t106 = true then (spec_l01Bound.l1 kj17 a1 a2 a3 x9_1 x10_3 (wrap64 (x11_3 + 1)) a0_0 l0_1) else (spec_l01Bound.l1 kj17 a1 a2 a3 x9_1 false (wrap64 (x11_3 + 1)) a0_0 l0_1))) else (spec_l01Bound.l1 kj17 a1 a2 a3 x9_1 x10_3 (wrap64 (x11_3 + 1)) a0_0 l0_1))) = some r := by rw [if_pos rfl] at H; exact H
            clear H
            have H := H1
            clear H1
            replace H := Option.bind_eq_some_iff.mp H
            obtain ⟨t105, A250, H⟩ := H
            replace H : (if t105 = true then ((spec_l01Side.f a0_0 l0_1 x9_1 x11_3 a3).bind fun t106 => (if t106 = true then (spec_l01Bound.l1 kj17 a1 a2 a3 x9_1 x10_3 (wrap64 (x11_3 + 1)) a0_0 l0_1) else (spec_l01Bound.l1 kj17 a1 a2 a3 x9_1 false (wrap64 (x11_3 + 1)) a0_0 l0_1))) else (spec_l01Bound.l1 kj17 a1 a2 a3 x9_1 x10_3 (wrap64 (x11_3 + 1)) a0_0 l0_1)) = some r := H
            have A25 := Aside0.mk A250
            clear A250
            by_cases c26 : t105 = true
            ·subst c26
             have H1 : ((spec_l01Side.f a0_0 l0_1 x9_1 x11_3 a3).bind fun t106 => (if t106 = true then (spec_l01Bound.l1 kj17 a1 a2 a3 x9_1 x10_3 (wrap64 (x11_3 + 1)) a0_0 l0_1) else (spec_l01Bound.l1 kj17 a1 a2 a3 x9_1 false (wrap64 (x11_3 + 1)) a0_0 l0_1))) = some r := by rw [if_pos rfl] at H; exact H
             clear H
             have H := H1
             clear H1
             replace H := Option.bind_eq_some_iff.mp H
             obtain ⟨t106, A270, H⟩ := H
             replace H : (if t106 = true then (spec_l01Bound.l1 kj17 a1 a2 a3 x9_1 x10_3 (wrap64 (x11_3 + 1)) a0_0 l0_1) else (spec_l01Bound.l1 kj17 a1 a2 a3 x9_1 false (wrap64 (x11_3 + 1)) a0_0 l0_1)) = some r := H
             have A27 := Aside0.mk A270
             clear A270
             by_cases c28 : t106 = true
             ·subst c28
              have H1 : (spec_l01Bound.l1 kj17 a1 a2 a3 x9_1 x10_3 (wrap64 (x11_3 + 1)) a0_0 l0_1) = some r := by rw [if_pos rfl] at H; exact H
              clear H
              have H := H1
              clear H1
              have H' := Aside0.mk H
              clear H
              have hcz29_0 : wc.cell? ⟨gb101, 0, none⟩ = some (.int .i64 a0_0) := (blk_cell BK101.out 0).trans rfl
              have hcz29_1 : wc.cell? ⟨gb101, 1, none⟩ = some (.slice A0_1 l0_1.length c0_1) := (blk_cell BK101.out 1).trans rfl
              have hfz29_0 := blk_frozen BK101.out 0
              have hfz29_1 := blk_frozen BK101.out 1
              go_wp2_with (first | ((with_reducible refine gate_callee (f := 212) rfl ?_); refine goesL_ (some 43) rfl rfl Try.func212 (by kernel_rfl) rfl #[.agg #[.int .i64 a0_0, .slice A0_1 l0_1.length c0_1], .int .i64 a1, .int .i64 x11_3, .bool a3] rfl qz1 ?_; (with_reducible refine (spec_l01Side.calls a0_0 _ _ l0_1 a1 x11_3 a3 true _ ?side1 ?side2 A23.out).mono ?_); (case side1 => exact qz17 HR0_1.out); (case side2 => exact HC0_1.out); rintro e w30 ⟨rfl, hb⟩; refine ⟨_, rfl, ?_⟩; have n0_ := Aside0.mk (blk_below (g := gb101) (o := .cells #[.int .i64 a0_0, .slice A0_1 l0_1.length c0_1] 47 (0, 0)) (qz8 BK101.out) hb); have n1_ := Aside0.mk (below_step (qz10 GE101.out) hb); clear BK101; clear HB; have BK101 := n0_; have HB := n1_; clear n0_ n1_; (try clear hb); (try clear hb2); (try clear hk); (try clear hi); have hcz31_0 : w30.cell? ⟨gb101, 0, none⟩ = some (.int .i64 a0_0) := (blk_cell BK101.out 0).trans rfl; have hcz31_1 : w30.cell? ⟨gb101, 1, none⟩ = some (.slice A0_1 l0_1.length c0_1) := (blk_cell BK101.out 1).trans rfl; have hfz31_0 := blk_frozen BK101.out 0; have hfz31_1 := blk_frozen BK101.out 1) | (go_at_call 212; (with_reducible refine (spec_l01Side.calls a0_0 _ _ l0_1 a2 x11_3 a3 true _ ?side1 ?side2 A25.out).mono ?_); (case side1 => exact qz17 HR0_1.out); (case side2 => exact HC0_1.out); rintro e w32 ⟨rfl, hb⟩; have n0_ := Aside0.mk (blk_below (g := gb101) (o := .cells #[.int .i64 a0_0, .slice A0_1 l0_1.length c0_1] 47 (0, 0)) (qz8 BK101.out) hb); have n1_ := Aside0.mk (below_step (qz10 GE101.out) hb); clear BK101; clear HB; have BK101 := n0_; have HB := n1_; clear n0_ n1_; (try clear hb); (try clear hb2); (try clear hk); (try clear hi); have hcz33_0 : w32.cell? ⟨gb101, 0, none⟩ = some (.int .i64 a0_0) := (blk_cell BK101.out 0).trans rfl; have hcz33_1 : w32.cell? ⟨gb101, 1, none⟩ = some (.slice A0_1 l0_1.length c0_1) := (blk_cell BK101.out 1).trans rfl; have hfz33_0 := blk_frozen BK101.out 0; have hfz33_1 := blk_frozen BK101.out 1) | (go_at_call 212; (with_reducible refine (spec_l01Side.calls a0_0 _ _ l0_1 x9_1 x11_3 a3 true _ ?side1 ?side2 A27.out).mono ?_); (case side1 => exact qz17 HR0_1.out); (case side2 => exact HC0_1.out); rintro e w34 ⟨rfl, hb⟩; have n0_ := Aside0.mk (blk_below (g := gb101) (o := .cells #[.int .i64 a0_0, .slice A0_1 l0_1.length c0_1] 47 (0, 0)) (qz8 BK101.out) hb); have n1_ := Aside0.mk (below_step (qz10 GE101.out) hb); clear BK101; clear HB; have BK101 := n0_; have HB := n1_; clear n0_ n1_; (try clear hb); (try clear hb2); (try clear hk); (try clear hi)))
              go_roundg kj17
              case measure => have := HK1.out; have := HJ6.out; have := HK3.out; have := HJ17.out; omega
              case rel => exact ⟨(x10_3), (wrap64 (x11_3 + 1)), qz2, qz2, H', ⟨qz32 HK1.out HJ6.out HK3.out HJ17.out⟩, ⟨qz8 BK101.out⟩, ⟨qz10 GE101.out⟩⟩
             ·replace c28 := Bool.eq_false_iff.mpr c28
              subst c28
              have H1 : (spec_l01Bound.l1 kj17 a1 a2 a3 x9_1 false (wrap64 (x11_3 + 1)) a0_0 l0_1) = some r := by rw [if_neg (show ¬ (false = true) by decide)] at H; exact H
              clear H
              have H := H1
              clear H1
              have H' := Aside0.mk H
              clear H
              have hcz35_0 : wc.cell? ⟨gb101, 0, none⟩ = some (.int .i64 a0_0) := (blk_cell BK101.out 0).trans rfl
              have hcz35_1 : wc.cell? ⟨gb101, 1, none⟩ = some (.slice A0_1 l0_1.length c0_1) := (blk_cell BK101.out 1).trans rfl
              have hfz35_0 := blk_frozen BK101.out 0
              have hfz35_1 := blk_frozen BK101.out 1
              go_wp2_with (first | ((with_reducible refine gate_callee (f := 212) rfl ?_); refine goesL_ (some 43) rfl rfl Try.func212 (by kernel_rfl) rfl #[.agg #[.int .i64 a0_0, .slice A0_1 l0_1.length c0_1], .int .i64 a1, .int .i64 x11_3, .bool a3] rfl qz1 ?_; (with_reducible refine (spec_l01Side.calls a0_0 _ _ l0_1 a1 x11_3 a3 true _ ?side1 ?side2 A23.out).mono ?_); (case side1 => exact qz17 HR0_1.out); (case side2 => exact HC0_1.out); rintro e w36 ⟨rfl, hb⟩; refine ⟨_, rfl, ?_⟩; have n0_ := Aside0.mk (blk_below (g := gb101) (o := .cells #[.int .i64 a0_0, .slice A0_1 l0_1.length c0_1] 47 (0, 0)) (qz8 BK101.out) hb); have n1_ := Aside0.mk (below_step (qz10 GE101.out) hb); clear BK101; clear HB; have BK101 := n0_; have HB := n1_; clear n0_ n1_; (try clear hb); (try clear hb2); (try clear hk); (try clear hi); have hcz37_0 : w36.cell? ⟨gb101, 0, none⟩ = some (.int .i64 a0_0) := (blk_cell BK101.out 0).trans rfl; have hcz37_1 : w36.cell? ⟨gb101, 1, none⟩ = some (.slice A0_1 l0_1.length c0_1) := (blk_cell BK101.out 1).trans rfl; have hfz37_0 := blk_frozen BK101.out 0; have hfz37_1 := blk_frozen BK101.out 1) | (go_at_call 212; (with_reducible refine (spec_l01Side.calls a0_0 _ _ l0_1 a2 x11_3 a3 true _ ?side1 ?side2 A25.out).mono ?_); (case side1 => exact qz17 HR0_1.out); (case side2 => exact HC0_1.out); rintro e w38 ⟨rfl, hb⟩; have n0_ := Aside0.mk (blk_below (g := gb101) (o := .cells #[.int .i64 a0_0, .slice A0_1 l0_1.length c0_1] 47 (0, 0)) (qz8 BK101.out) hb); have n1_ := Aside0.mk (below_step (qz10 GE101.out) hb); clear BK101; clear HB; have BK101 := n0_; have HB := n1_; clear n0_ n1_; (try clear hb); (try clear hb2); (try clear hk); (try clear hi); have hcz39_0 : w38.cell? ⟨gb101, 0, none⟩ = some (.int .i64 a0_0) := (blk_cell BK101.out 0).trans rfl; have hcz39_1 : w38.cell? ⟨gb101, 1, none⟩ = some (.slice A0_1 l0_1.length c0_1) := (blk_cell BK101.out 1).trans rfl; have hfz39_0 := blk_frozen BK101.out 0; have hfz39_1 := blk_frozen BK101.out 1) | (go_at_call 212; (with_reducible refine (spec_l01Side.calls a0_0 _ _ l0_1 x9_1 x11_3 a3 false _ ?side1 ?side2 A27.out).mono ?_); (case side1 => exact qz17 HR0_1.out); (case side2 => exact HC0_1.out); rintro e w40 ⟨rfl, hb⟩; have n0_ := Aside0.mk (blk_below (g := gb101) (o := .cells #[.int .i64 a0_0, .slice A0_1 l0_1.length c0_1] 47 (0, 0)) (qz8 BK101.out) hb); have n1_ := Aside0.mk (below_step (qz10 GE101.out) hb); clear BK101; clear HB; have BK101 := n0_; have HB := n1_; clear n0_ n1_; (try clear hb); (try clear hb2); (try clear hk); (try clear hi)))
              go_roundg kj17
              case measure => have := HK1.out; have := HJ6.out; have := HK3.out; have := HJ17.out; omega
              case rel => exact ⟨(false), (wrap64 (x11_3 + 1)), qz2, qz2, H', ⟨qz32 HK1.out HJ6.out HK3.out HJ17.out⟩, ⟨qz8 BK101.out⟩, ⟨qz10 GE101.out⟩⟩
            ·replace c26 := Bool.eq_false_iff.mpr c26
             subst c26
             have H1 : (spec_l01Bound.l1 kj17 a1 a2 a3 x9_1 x10_3 (wrap64 (x11_3 + 1)) a0_0 l0_1) = some r := by rw [if_neg (show ¬ (false = true) by decide)] at H; exact H
             clear H
             have H := H1
             clear H1
             have H' := Aside0.mk H
             clear H
             have hcz41_0 : wc.cell? ⟨gb101, 0, none⟩ = some (.int .i64 a0_0) := (blk_cell BK101.out 0).trans rfl
             have hcz41_1 : wc.cell? ⟨gb101, 1, none⟩ = some (.slice A0_1 l0_1.length c0_1) := (blk_cell BK101.out 1).trans rfl
             have hfz41_0 := blk_frozen BK101.out 0
             have hfz41_1 := blk_frozen BK101.out 1
             go_wp2_with (first | ((with_reducible refine gate_callee (f := 212) rfl ?_); refine goesL_ (some 43) rfl rfl Try.func212 (by kernel_rfl) rfl #[.agg #[.int .i64 a0_0, .slice A0_1 l0_1.length c0_1], .int .i64 a1, .int .i64 x11_3, .bool a3] rfl qz1 ?_; (with_reducible refine (spec_l01Side.calls a0_0 _ _ l0_1 a1 x11_3 a3 true _ ?side1 ?side2 A23.out).mono ?_); (case side1 => exact qz17 HR0_1.out); (case side2 => exact HC0_1.out); rintro e w42 ⟨rfl, hb⟩; refine ⟨_, rfl, ?_⟩; have n0_ := Aside0.mk (blk_below (g := gb101) (o := .cells #[.int .i64 a0_0, .slice A0_1 l0_1.length c0_1] 47 (0, 0)) (qz8 BK101.out) hb); have n1_ := Aside0.mk (below_step (qz10 GE101.out) hb); clear BK101; clear HB; have BK101 := n0_; have HB := n1_; clear n0_ n1_; (try clear hb); (try clear hb2); (try clear hk); (try clear hi); have hcz43_0 : w42.cell? ⟨gb101, 0, none⟩ = some (.int .i64 a0_0) := (blk_cell BK101.out 0).trans rfl; have hcz43_1 : w42.cell? ⟨gb101, 1, none⟩ = some (.slice A0_1 l0_1.length c0_1) := (blk_cell BK101.out 1).trans rfl; have hfz43_0 := blk_frozen BK101.out 0; have hfz43_1 := blk_frozen BK101.out 1) | (go_at_call 212; (with_reducible refine (spec_l01Side.calls a0_0 _ _ l0_1 a2 x11_3 a3 false _ ?side1 ?side2 A25.out).mono ?_); (case side1 => exact qz17 HR0_1.out); (case side2 => exact HC0_1.out); rintro e w44 ⟨rfl, hb⟩; have n0_ := Aside0.mk (blk_below (g := gb101) (o := .cells #[.int .i64 a0_0, .slice A0_1 l0_1.length c0_1] 47 (0, 0)) (qz8 BK101.out) hb); have n1_ := Aside0.mk (below_step (qz10 GE101.out) hb); clear BK101; clear HB; have BK101 := n0_; have HB := n1_; clear n0_ n1_; (try clear hb); (try clear hb2); (try clear hk); (try clear hi)))
             go_roundg kj17
             case measure => have := HK1.out; have := HJ6.out; have := HK3.out; have := HJ17.out; omega
             case rel => exact ⟨(x10_3), (wrap64 (x11_3 + 1)), qz2, qz2, H', ⟨qz32 HK1.out HJ6.out HK3.out HJ17.out⟩, ⟨qz8 BK101.out⟩, ⟨qz10 GE101.out⟩⟩
           ·replace c24 := Bool.eq_false_iff.mpr c24
            subst c24
            have H1 : (spec_l01Bound.l1 kj17 a1 a2 a3 x9_1 x10_3 (wrap64 (x11_3 + 1)) a0_0 l0_1) = some r := by rw [if_neg (show ¬ (false = true) by decide)] at H; exact H
            clear H
            have H := H1
            clear H1
            have H' := Aside0.mk H
            clear H
            have hcz45_0 : wc.cell? ⟨gb101, 0, none⟩ = some (.int .i64 a0_0) := (blk_cell BK101.out 0).trans rfl
            have hcz45_1 : wc.cell? ⟨gb101, 1, none⟩ = some (.slice A0_1 l0_1.length c0_1) := (blk_cell BK101.out 1).trans rfl
            have hfz45_0 := blk_frozen BK101.out 0
            have hfz45_1 := blk_frozen BK101.out 1
            go_wp2_with (first | ((with_reducible refine gate_callee (f := 212) rfl ?_); refine goesL_ (some 43) rfl rfl Try.func212 (by kernel_rfl) rfl #[.agg #[.int .i64 a0_0, .slice A0_1 l0_1.length c0_1], .int .i64 a1, .int .i64 x11_3, .bool a3] rfl qz1 ?_; (with_reducible refine (spec_l01Side.calls a0_0 _ _ l0_1 a1 x11_3 a3 false _ ?side1 ?side2 A23.out).mono ?_); (case side1 => exact qz17 HR0_1.out); (case side2 => exact HC0_1.out); rintro e w46 ⟨rfl, hb⟩; refine ⟨_, rfl, ?_⟩; have n0_ := Aside0.mk (blk_below (g := gb101) (o := .cells #[.int .i64 a0_0, .slice A0_1 l0_1.length c0_1] 47 (0, 0)) (qz8 BK101.out) hb); have n1_ := Aside0.mk (below_step (qz10 GE101.out) hb); clear BK101; clear HB; have BK101 := n0_; have HB := n1_; clear n0_ n1_; (try clear hb); (try clear hb2); (try clear hk); (try clear hi)))
            go_roundg kj17
            case measure => have := HK1.out; have := HJ6.out; have := HK3.out; have := HJ17.out; omega
            case rel => exact ⟨(x10_3), (wrap64 (x11_3 + 1)), qz2, qz2, H', ⟨qz32 HK1.out HJ6.out HK3.out HJ17.out⟩, ⟨qz8 BK101.out⟩, ⟨qz10 GE101.out⟩⟩
          ·replace c22 := Bool.eq_false_iff.mpr c22
           subst c22
           have H1 : (if x10_3 = true then (some x9_1) else (spec_l01Bound.l0 kj17 a1 a2 a3 (wrap64 (x9_1 + 1)) a0_0 l0_1)) = some r := by rw [if_neg (show ¬ (false = true) by decide)] at H; exact H
           clear H
           have H := H1
           clear H1
           by_cases c47 : x10_3 = true
           ·subst c47
            have H1 : (some x9_1) = some r := by rw [if_pos rfl] at H; exact H
            clear H
            have H := H1
            clear H1
            obtain rfl := Option.some.inj H
            go_wp2
            go_ret
            exact ⟨qz13, qz10 GE101.out⟩
           ·replace c47 := Bool.eq_false_iff.mpr c47
            subst c47
            have H1 : (spec_l01Bound.l0 kj17 a1 a2 a3 (wrap64 (x9_1 + 1)) a0_0 l0_1) = some r := by rw [if_neg (show ¬ (false = true) by decide)] at H; exact H
            clear H
            have H := H1
            clear H1
            have H' := Aside0.mk H
            clear H
            go_wp2
            go_roundg kj17
            case measure => have := HK1.out; have := HJ6.out; have := HK3.out; have := HJ17.out; omega
            case rel => exact ⟨(wrap64 (x9_1 + 1)), qz2, H', ⟨qz32 HK1.out HJ6.out HK3.out HJ17.out⟩, ⟨qz8 BK101.out⟩, ⟨qz10 GE101.out⟩⟩
   ·rw [if_neg c6] at H
    have c6b0 : decide (x9_1 < a0_0) = false := decide_eq_false c6
    clear c6
    obtain rfl := Option.some.inj H
    have hcz48_0 : wr.cell? ⟨gb101, 0, none⟩ = some (.int .i64 a0_0) := (blk_cell BK101.out 0).trans rfl
    have hcz48_1 : wr.cell? ⟨gb101, 1, none⟩ = some (.slice A0_1 l0_1.length c0_1) := (blk_cell BK101.out 1).trans rfl
    have hfz48_0 := blk_frozen BK101.out 0
    have hfz48_1 := blk_frozen BK101.out 1
    go_wp2
    go_ret
    exact ⟨qz13, qz10 GE101.out⟩

end Go.Proofs.Ytjhfjnknajhanaa.P

namespace Go.Proofs.Ytjhfjnknajhanaa.P
open Go.RowKit Go.Proofs.YtjhfjnknajhanaaW.PrintWords Go.Proofs.YtjhfjnknajhanaaW.PrintLast Go.Proofs.YtjhfjnknajhanaaW.PrintMore
attribute [local go_sem] max2_int min2_int max_two min_two max_three min_three max_four min_four   -- for this text's walks alone
set_option linter.unusedVariables false
set_option linter.unusedSimpArgs false

/-! ### spec_l01Power: function 121 -/
set_option maxHeartbeats 8000000 in
set_option maxRecDepth 100000 in
theorem spec_l01Power.calls (k : Nat) (a0 : Int) (r : Int) (w : World) (h : spec_l01Power.f k a0 = some r) :
  Calls Try.prog 121 #[.int .i64 a0] w fun e w' => e = .returned (.int .u64 r) ∧ Drawn0 w w' := by
 have H : (spec_l01Power.l0 k a0 1) = some r := h
 clear h
 have H' := Aside0.mk H
 clear H
 go_enter Try.func121, Try.ntmps121
 go_wp2
 go_loopg [0, 3] k (fun kq v0 v3 w' => ∃ (x0_1 : Int) (x3_1 : Int), v0 = .int .i64 x0_1 ∧ v3 = .int .u64 x3_1 ∧ Aside0 (spec_l01Power.l0 kq x0_1 x3_1 = some r) ∧ Aside0 (kq ≤ k) ∧ Drawn0 w w')
 case atStart => exact ⟨(a0), (1), qz2, qz2, H', ⟨Nat.le_refl _⟩, qz3⟩
 case round =>
  clear H'
  try clear c1
  obtain ⟨x0_1, x3_1, rfl, rfl, HA, HK1, ⟨m1, rfl⟩⟩ := hrel
  cases gk with
  | zero => exact absurd HA.out (by simp [spec_l01Power.l0])
  | succ k1 =>
   have H := HA.out
   clear HA
   simp only [spec_l01Power.l0] at H
   by_cases c2 : x0_1 > 0
   ·rw [if_pos c2] at H
    have c2b0 : decide (0 < x0_1) = true := decide_eq_true c2
    clear c2
    have H' := Aside0.mk H
    clear H
    go_wp2
    go_roundg k1
    case measure => have := HK1.out; omega
    case rel => exact ⟨(wrap64 (x0_1 - 1)), (IntKind.u64.wrap (2 * x3_1)), qz2, qz2, H', ⟨by have := HK1.out; omega⟩, qz3⟩
   ·rw [if_neg c2] at H
    have c2b0 : decide (0 < x0_1) = false := decide_eq_false c2
    clear c2
    obtain rfl := Option.some.inj H
    go_wp2
    go_ret
    exact ⟨qz2, qz3⟩

end Go.Proofs.Ytjhfjnknajhanaa.P

namespace Go.Proofs.Ytjhfjnknajhanaa.P
open Go.RowKit Go.Proofs.YtjhfjnknajhanaaW.PrintWords Go.Proofs.YtjhfjnknajhanaaW.PrintLast Go.Proofs.YtjhfjnknajhanaaW.PrintMore
attribute [local go_sem] max2_int min2_int max_two min_two max_three min_three max_four min_four   -- for this text's walks alone
set_option linter.unusedVariables false
set_option linter.unusedSimpArgs false

/-! ### spec_LatOk: function 30 -/
set_option maxHeartbeats 8000000 in
set_option maxRecDepth 100000 in
theorem spec_LatOk.calls (k : Nat) (a0_0 : Int) (A0_1 : Option Addr) (c0_1 : Nat) (l0_1 : List Int) (r : Bool) (w : World) (hr0_1 : Kd.C (Kd.int .u64) w A0_1 l0_1.length l0_1) (hc0_1 : l0_1.length ≤ c0_1) (h : spec_LatOk.f k a0_0 l0_1 = some r) :
  Calls Try.prog 30 #[.agg #[.int .i64 a0_0, .slice A0_1 l0_1.length c0_1]] w fun e w' => e = .returned (.bool r) ∧ Below w.heap.size w w' := by
 have hu47 := Try.underlying47
 have HR0_1 := Aside0.mk hr0_1
 have HC0_1 := Aside0.mk hc0_1
 clear hr0_1 hc0_1
 have HB := Aside0.mk (Below.refl w.heap.size w)
 have H : (if a0_0 < 1 then (spec_LatOk.j0 k true a0_0 l0_1) else (if a0_0 > 16 then (spec_LatOk.j0 k true a0_0 l0_1) else (spec_LatOk.j0 k ((l0_1.length : Int) != a0_0) a0_0 l0_1))) = some r := h
 clear h
 have HC2 := Aside0.mk H
 clear H
 go_enter Try.func30, Try.ntmps30
 go_upto_region 1 with (first | ((with_reducible refine gate_dst (N := 1) rfl ?_); (try (refine gate_guard (by rfl) ?_; dsimp only)); refine box_event ?hg (N := 1) ?hd (cs := #[.int .i64 a0_0, .slice A0_1 l0_1.length c0_1]) (t := 47) ?hr ?_; (case hd => rfl); (case hg => rfl); (case hr => exact qz5); intro gb101 hg w3 hbox hb; have n0_ := Aside0.mk (below_step qz6 hb); have n1_ := Aside0.mk (hbox); have n2_ := Aside0.mk ((qz7 : w.heap.size ≤ gb101)); have n3_ := Aside0.mk ((qz7 : w.heap.size ≤ gb101)); clear HB; have HB := n0_; have BK101 := n1_; have GW101 := n2_; have GE101 := n3_; clear n0_ n1_ n2_ n3_; clear hb hbox hg))
 repeat (go_quiet (first | ((with_reducible refine gate_dst (N := 1) rfl ?_); (try (refine gate_guard (by rfl) ?_; dsimp only)); refine box_event ?hg (N := 1) ?hd (cs := #[.int .i64 a0_0, .slice A0_1 l0_1.length c0_1]) (t := 47) ?hr ?_; (case hd => rfl); (case hg => rfl); (case hr => exact qz5); intro gb101 hg w3 hbox hb; have n0_ := Aside0.mk (below_step qz6 hb); have n1_ := Aside0.mk (hbox); have n2_ := Aside0.mk ((qz7 : w.heap.size ≤ gb101)); have n3_ := Aside0.mk ((qz7 : w.heap.size ≤ gb101)); clear HB; have HB := n0_; have BK101 := n1_; have GW101 := n2_; have GE101 := n3_; clear n0_ n1_ n2_ n3_; clear hb hbox hg)); go_upto_region 1 with (first | ((with_reducible refine gate_dst (N := 1) rfl ?_); (try (refine gate_guard (by rfl) ?_; dsimp only)); refine box_event ?hg (N := 1) ?hd (cs := #[.int .i64 a0_0, .slice A0_1 l0_1.length c0_1]) (t := 47) ?hr ?_; (case hd => rfl); (case hg => rfl); (case hr => exact qz5); intro gb101 hg w3 hbox hb; have n0_ := Aside0.mk (below_step qz6 hb); have n1_ := Aside0.mk (hbox); have n2_ := Aside0.mk ((qz7 : w.heap.size ≤ gb101)); have n3_ := Aside0.mk ((qz7 : w.heap.size ≤ gb101)); clear HB; have HB := n0_; have BK101 := n1_; have GW101 := n2_; have GE101 := n3_; clear n0_ n1_ n2_ n3_; clear hb hbox hg)))
 (try simp only [Act.put, List.setIfInBounds_toArray, List.set_cons_zero, List.set_cons_succ])
 go_cut [23] (fun v23 wc => ∃ (kq : Nat) (x23_1 : Bool), v23 = .bool x23_1 ∧ Aside0 (spec_LatOk.j0 kq x23_1 a0_0 l0_1 = some r) ∧ Aside0 (kq ≤ k) ∧ Aside0 (wc.heap[gb101]? = some (.cells #[.int .i64 a0_0, (.slice A0_1 l0_1.length c0_1)] 47 (0, 0))) ∧ Aside0 (Below w.heap.size w wc))
 case first =>
  have H := HC2.out
  clear HC2
  by_cases c4 : a0_0 < 1
  ·rw [if_pos c4] at H
   have c4b0 : decide (a0_0 < 1) = true := decide_eq_true c4
   clear c4
   (first | rw [c4b0] | (simp only [i64_w, i32_w]; rw [c4b0]) | skip)
   have H' := Aside0.mk H
   clear H
   have hcz5_0 : w3.cell? ⟨gb101, 0, none⟩ = some (.int .i64 a0_0) := (blk_cell BK101.out 0).trans rfl
   have hcz5_1 : w3.cell? ⟨gb101, 1, none⟩ = some (.slice A0_1 l0_1.length c0_1) := (blk_cell BK101.out 1).trans rfl
   have hfz5_0 := blk_frozen BK101.out 0
   have hfz5_1 := blk_frozen BK101.out 1
   go_wp2
   repeat (go_quiet (fail); try go_wp2)
   go_meet
   case rel => exact ⟨_, (true), qz2, H', ⟨qz36⟩, ⟨qz8 BK101.out⟩, ⟨qz10 GE101.out⟩⟩
  ·rw [if_neg c4] at H
   have c4b0 : decide (a0_0 < 1) = false := decide_eq_false c4
   clear c4
   (first | rw [c4b0] | (simp only [i64_w, i32_w]; rw [c4b0]) | skip)
   by_cases c6 : a0_0 > 16
   ·rw [if_pos c6] at H
    have c6b0 : decide (16 < a0_0) = true := decide_eq_true c6
    clear c6
    have H' := Aside0.mk H
    clear H
    have hcz7_0 : w3.cell? ⟨gb101, 0, none⟩ = some (.int .i64 a0_0) := (blk_cell BK101.out 0).trans rfl
    have hcz7_1 : w3.cell? ⟨gb101, 1, none⟩ = some (.slice A0_1 l0_1.length c0_1) := (blk_cell BK101.out 1).trans rfl
    have hfz7_0 := blk_frozen BK101.out 0
    have hfz7_1 := blk_frozen BK101.out 1
    go_wp2
    repeat (go_quiet (fail); try go_wp2)
    go_meet
    case rel => exact ⟨_, (true), qz2, H', ⟨qz36⟩, ⟨qz8 BK101.out⟩, ⟨qz10 GE101.out⟩⟩
   ·rw [if_neg c6] at H
    have c6b0 : decide (16 < a0_0) = false := decide_eq_false c6
    clear c6
    have H' := Aside0.mk H
    clear H
    have hcz8_0 : w3.cell? ⟨gb101, 0, none⟩ = some (.int .i64 a0_0) := (blk_cell BK101.out 0).trans rfl
    have hcz8_1 : w3.cell? ⟨gb101, 1, none⟩ = some (.slice A0_1 l0_1.length c0_1) := (blk_cell BK101.out 1).trans rfl
    have hfz8_0 := blk_frozen BK101.out 0
    have hfz8_1 := blk_frozen BK101.out 1
    go_wp2
    repeat (go_quiet (fail); try go_wp2)
    go_meet
    case rel => exact ⟨_, (((l0_1.length : Int) != a0_0)), qz2, H', ⟨qz36⟩, ⟨qz8 BK101.out⟩, ⟨qz10 GE101.out⟩⟩
 case rest =>
  clear HC2
  try clear p2
  try clear c3
  try clear c4
  try clear c4b0
  try clear c6
  try clear c6b0
  try clear hcz5_0
  try clear hcz5_1
  try clear hcz7_0
  try clear hcz7_1
  try clear hcz8_0
  try clear hcz8_1
  try clear hfz5_0
  try clear hfz5_1
  try clear hfz7_0
  try clear hfz7_1
  try clear hfz8_0
  try clear hfz8_1
  obtain ⟨kq, x23_1, rfl, HA, HJ1, BK101, HB⟩ := hcut
  cases kq with
  | zero => exact absurd HA.out (by simp [spec_LatOk.j0])
  | succ kj1 =>
   have H := HA.out
   clear HA
   simp only [spec_LatOk.j0] at H
   by_cases c9 : x23_1 = true
   ·subst c9
    have H1 : (some false) = some r := by rw [if_pos rfl] at H; exact H
    clear H
    have H := H1
    clear H1
    obtain rfl := Option.some.inj H
    go_wp2
    repeat (go_quiet (fail); try go_wp2)
    go_ret
    exact ⟨qz13, qz10 GE101.out⟩
   ·replace c9 := Bool.eq_false_iff.mpr c9
    subst c9
    have H1 : (spec_LatOk.l0 kj1 0 a0_0 l0_1) = some r := by rw [if_neg (show ¬ (false = true) by decide)] at H; exact H
    clear H
    have H := H1
    clear H1
    have H' := Aside0.mk H
    clear H
    go_wp2
    repeat (go_quiet (fail); try go_wp2)
    go_loopg [3] kj1 (fun kq v3 w' => ∃ (x3_2 : Int), v3 = .int .i64 x3_2 ∧ Aside0 (spec_LatOk.l0 kq x3_2 a0_0 l0_1 = some r) ∧ Aside0 (kq ≤ kj1) ∧ Aside0 (w'.heap[gb101]? = some (.cells #[.int .i64 a0_0, (.slice A0_1 l0_1.length c0_1)] 47 (0, 0))) ∧ Aside0 (Below w.heap.size w w'))
    case atStart => exact ⟨(0), qz2, H', ⟨Nat.le_refl _⟩, ⟨qz8 BK101.out⟩, ⟨qz10 GE101.out⟩⟩
    case round =>
     clear H'
     try clear p2
     try clear c3
     try clear c4
     try clear c4b0
     try clear c6
     try clear c6b0
     try clear c9
     try clear hcz5_0
     try clear hcz5_1
     try clear hcz7_0
     try clear hcz7_1
     try clear hcz8_0
     try clear hcz8_1
     try clear hfz5_0
     try clear hfz5_1
     try clear hfz7_0
     try clear hfz7_1
     try clear hfz8_0
     try clear hfz8_1
     try clear p2
     obtain ⟨x3_2, rfl, HA, HK2, BK101, HB⟩ := hrel
     cases gk with
     | zero => exact absurd HA.out (by simp [spec_LatOk.l0])
     | succ k2 =>
      have H := HA.out
      clear HA
      simp only [spec_LatOk.l0] at H
      by_cases c10 : x3_2 < a0_0
      ·rw [if_pos c10] at H
       have c10b0 : decide (x3_2 < a0_0) = true := decide_eq_true c10
       clear c10
       have HC11 := Aside0.mk H
       clear H
       have hcz12_0 : wr.cell? ⟨gb101, 0, none⟩ = some (.int .i64 a0_0) := (blk_cell BK101.out 0).trans rfl
       have hcz12_1 : wr.cell? ⟨gb101, 1, none⟩ = some (.slice A0_1 l0_1.length c0_1) := (blk_cell BK101.out 1).trans rfl
       have hfz12_0 := blk_frozen BK101.out 0
       have hfz12_1 := blk_frozen BK101.out 1
       go_upto_region 6 with (fail)
       repeat (go_quiet (fail); go_upto_region 6 with (fail))
       go_cut [48] (fun v48 wc => ∃ (kq : Nat) (x48_10 : Bool), v48 = .bool x48_10 ∧ Aside0 (spec_LatOk.j2 kq x3_2 x48_10 a0_0 l0_1 = some r) ∧ Aside0 (kq ≤ k2) ∧ Aside0 (wc.heap[gb101]? = some (.cells #[.int .i64 a0_0, (.slice A0_1 l0_1.length c0_1)] 47 (0, 0))) ∧ Aside0 (Below w.heap.size w wc))
       case first =>
        have H := HC11.out
        clear HC11
        by_cases c13 : 0 ≤ x3_2
        ·rw [if_pos c13] at H
         have c13b0 : decide (0 ≤ x3_2) = true := decide_eq_true c13
         clear c13
         (first | rw [c13b0] | (simp only [i64_w, i32_w]; rw [c13b0]) | skip)
         by_cases c14 : x3_2 < (l0_1.length : Int)
         ·rw [if_pos c14] at H
          have c14b0 : decide (x3_2 < (l0_1.length : Int)) = true := decide_eq_true c14
          clear c14
          replace H := Option.bind_eq_some_iff.mp H
          obtain ⟨t103, A150, H⟩ := H
          replace H : (if t103 = true then ((spec_l01Power.f k2 a0_0).bind fun t105 => (spec_LatOk.j2 k2 x3_2 (decide ((rd l0_1 x3_2) ≥ t105)) a0_0 l0_1)) else (spec_LatOk.j2 k2 x3_2 true a0_0 l0_1)) = some r := H
          have A15 := Aside0.mk A150
          clear A150
          by_cases c16 : t103 = true
          ·subst c16
           have H1 : ((spec_l01Power.f k2 a0_0).bind fun t105 => (spec_LatOk.j2 k2 x3_2 (decide ((rd l0_1 x3_2) ≥ t105)) a0_0 l0_1)) = some r := by rw [if_pos rfl] at H; exact H
           clear H
           have H := H1
           clear H1
           replace H := Option.bind_eq_some_iff.mp H
           obtain ⟨t105, A170, H⟩ := H
           replace H : (spec_LatOk.j2 k2 x3_2 (decide ((rd l0_1 x3_2) ≥ t105)) a0_0 l0_1) = some r := H
           have A17 := Aside0.mk A170
           clear A170
           have H' := Aside0.mk H
           clear H
           have hcz18_0 : wr.cell? ⟨gb101, 0, none⟩ = some (.int .i64 a0_0) := (blk_cell BK101.out 0).trans rfl
           have hcz18_1 : wr.cell? ⟨gb101, 1, none⟩ = some (.slice A0_1 l0_1.length c0_1) := (blk_cell BK101.out 1).trans rfl
           have hfz18_0 := blk_frozen BK101.out 0
           have hfz18_1 := blk_frozen BK101.out 1
           have p102 : 0 ≤ (x3_2 : Int) := of_decide_eq_true qz4
           have q102 : x3_2 < (l0_1.length : Int) := of_decide_eq_true qz4
           obtain ⟨ad102, e102, hx102_0⟩ := Kd.at_int HR0_1.out x3_2 p102 q102
           cases e102
           replace hx102_0 := qcb HB hx102_0
           replace p102 := eq_true p102
           replace q102 := eq_true q102
           go_wp2_with (first | (go_at_call 120; (with_reducible refine (spec_l01Bit.calls (rd l0_1 x3_2) x3_2 true _ A15.out).mono ?_); rintro e w' ⟨rfl, ⟨nd, rfl⟩⟩; (try first | exact ⟨rfl, _, World.drewN_drewN _ _ _⟩ | exact ⟨rfl, _, Eq.trans (World.drewN_drewN _ _ _) (congrArg (World.drewN _) (Nat.add_assoc _ _ _))⟩); have p104 : 0 ≤ (x3_2 : Int) := of_decide_eq_true qz4; have q104 : x3_2 < (l0_1.length : Int) := of_decide_eq_true qz4; obtain ⟨ad104, e104, hx104_0⟩ := Kd.at_int HR0_1.out x3_2 p104 q104; obtain rfl : ad102 = ad104 := (by injection e104); replace hx104_0 := qcb HB hx104_0; replace p104 := eq_true p104; replace q104 := eq_true q104) | (go_at_call 121; (with_reducible refine (spec_l01Power.calls k2 a0_0 t105 _ A17.out).mono ?_); rintro e w' ⟨rfl, ⟨nd, rfl⟩⟩; (try first | exact ⟨rfl, _, World.drewN_drewN _ _ _⟩ | exact ⟨rfl, _, Eq.trans (World.drewN_drewN _ _ _) (congrArg (World.drewN _) (Nat.add_assoc _ _ _))⟩)))
           repeat (go_quiet (first | (go_at_call 120; (with_reducible refine (spec_l01Bit.calls (rd l0_1 x3_2) x3_2 true _ A15.out).mono ?_); rintro e w' ⟨rfl, ⟨nd, rfl⟩⟩; (try first | exact ⟨rfl, _, World.drewN_drewN _ _ _⟩ | exact ⟨rfl, _, Eq.trans (World.drewN_drewN _ _ _) (congrArg (World.drewN _) (Nat.add_assoc _ _ _))⟩); have p104 : 0 ≤ (x3_2 : Int) := of_decide_eq_true qz4; have q104 : x3_2 < (l0_1.length : Int) := of_decide_eq_true qz4; obtain ⟨ad104, e104, hx104_0⟩ := Kd.at_int HR0_1.out x3_2 p104 q104; obtain rfl : ad102 = ad104 := (by injection e104); replace hx104_0 := qcb HB hx104_0; replace p104 := eq_true p104; replace q104 := eq_true q104) | (go_at_call 121; (with_reducible refine (spec_l01Power.calls k2 a0_0 t105 _ A17.out).mono ?_); rintro e w' ⟨rfl, ⟨nd, rfl⟩⟩; (try first | exact ⟨rfl, _, World.drewN_drewN _ _ _⟩ | exact ⟨rfl, _, Eq.trans (World.drewN_drewN _ _ _) (congrArg (World.drewN _) (Nat.add_assoc _ _ _))⟩))); try go_wp2_with (first | (go_at_call 120; (with_reducible refine (spec_l01Bit.calls (rd l0_1 x3_2) x3_2 true _ A15.out).mono ?_); rintro e w' ⟨rfl, ⟨nd, rfl⟩⟩; (try first | exact ⟨rfl, _, World.drewN_drewN _ _ _⟩ | exact ⟨rfl, _, Eq.trans (World.drewN_drewN _ _ _) (congrArg (World.drewN _) (Nat.add_assoc _ _ _))⟩); have p104 : 0 ≤ (x3_2 : Int) := of_decide_eq_true qz4; have q104 : x3_2 < (l0_1.length : Int) := of_decide_eq_true qz4; obtain ⟨ad104, e104, hx104_0⟩ := Kd.at_int HR0_1.out x3_2 p104 q104; obtain rfl : ad102 = ad104 := (by injection e104); replace hx104_0 := qcb HB hx104_0; replace p104 := eq_true p104; replace q104 := eq_true q104) | (go_at_call 121; (with_reducible refine (spec_l01Power.calls k2 a0_0 t105 _ A17.out).mono ?_); rintro e w' ⟨rfl, ⟨nd, rfl⟩⟩; (try first | exact ⟨rfl, _, World.drewN_drewN _ _ _⟩ | exact ⟨rfl, _, Eq.trans (World.drewN_drewN _ _ _) (congrArg (World.drewN _) (Nat.add_assoc _ _ _))⟩))))
           go_meet
           case rel => exact ⟨_, (decide ((rd l0_1 x3_2) ≥ t105)), qz2, H', ⟨qz30 HJ1.out HK2.out⟩, ⟨qz8 BK101.out⟩, ⟨qz10 GE101.out⟩⟩
          ·replace c16 := Bool.eq_false_iff.mpr c16
           subst c16
           have H1 : (spec_LatOk.j2 k2 x3_2 true a0_0 l0_1) = some r := by rw [if_neg (show ¬ (false = true) by decide)] at H; exact H
           clear H
           have H := H1
           clear H1
           have H' := Aside0.mk H
           clear H
           have hcz19_0 : wr.cell? ⟨gb101, 0, none⟩ = some (.int .i64 a0_0) := (blk_cell BK101.out 0).trans rfl
           have hcz19_1 : wr.cell? ⟨gb101, 1, none⟩ = some (.slice A0_1 l0_1.length c0_1) := (blk_cell BK101.out 1).trans rfl
           have hfz19_0 := blk_frozen BK101.out 0
           have hfz19_1 := blk_frozen BK101.out 1
           have p102 : 0 ≤ (x3_2 : Int) := of_decide_eq_true qz4
           have q102 : x3_2 < (l0_1.length : Int) := of_decide_eq_true qz4
           obtain ⟨ad102, e102, hx102_0⟩ := Kd.at_int HR0_1.out x3_2 p102 q102
           cases e102
           replace hx102_0 := qcb HB hx102_0
           replace p102 := eq_true p102
           replace q102 := eq_true q102
           go_wp2_with (first | (go_at_call 120; (with_reducible refine (spec_l01Bit.calls (rd l0_1 x3_2) x3_2 false _ A15.out).mono ?_); rintro e w' ⟨rfl, ⟨nd, rfl⟩⟩; (try first | exact ⟨rfl, _, World.drewN_drewN _ _ _⟩ | exact ⟨rfl, _, Eq.trans (World.drewN_drewN _ _ _) (congrArg (World.drewN _) (Nat.add_assoc _ _ _))⟩)))
           repeat (go_quiet (first | (go_at_call 120; (with_reducible refine (spec_l01Bit.calls (rd l0_1 x3_2) x3_2 false _ A15.out).mono ?_); rintro e w' ⟨rfl, ⟨nd, rfl⟩⟩; (try first | exact ⟨rfl, _, World.drewN_drewN _ _ _⟩ | exact ⟨rfl, _, Eq.trans (World.drewN_drewN _ _ _) (congrArg (World.drewN _) (Nat.add_assoc _ _ _))⟩))); try go_wp2_with (first | (go_at_call 120; (with_reducible refine (spec_l01Bit.calls (rd l0_1 x3_2) x3_2 false _ A15.out).mono ?_); rintro e w' ⟨rfl, ⟨nd, rfl⟩⟩; (try first | exact ⟨rfl, _, World.drewN_drewN _ _ _⟩ | exact ⟨rfl, _, Eq.trans (World.drewN_drewN _ _ _) (congrArg (World.drewN _) (Nat.add_assoc _ _ _))⟩))))
           go_meet
           case rel => exact ⟨_, (true), qz2, H', ⟨qz30 HJ1.out HK2.out⟩, ⟨qz8 BK101.out⟩, ⟨qz10 GE101.out⟩⟩
         ·rw [if_neg c14] at H
          exact absurd H (by simp)
        ·rw [if_neg c13] at H
         exact absurd H (by simp)
       case rest =>
        clear HC11
        try clear c1
        try clear p1
        try clear q1
        try clear hx1
        try clear p2
        try clear c3
        try clear c4
        try clear c4b0
        try clear c6
        try clear c6b0
        try clear c9
        try clear c10
        try clear c10b0
        try clear p10
        try clear q10
        try clear hx10
        try clear c13
        try clear c13b0
        try clear c14
        try clear c14b0
        try clear c16
        try clear hcz12_0
        try clear hcz12_1
        try clear hcz18_0
        try clear hcz18_1
        try clear hcz19_0
        try clear hcz19_1
        try clear hcz5_0
        try clear hcz5_1
        try clear hcz7_0
        try clear hcz7_1
        try clear hcz8_0
        try clear hcz8_1
        try clear hfz12_0
        try clear hfz12_1
        try clear hfz18_0
        try clear hfz18_1
        try clear hfz19_0
        try clear hfz19_1
        try clear hfz5_0
        try clear hfz5_1
        try clear hfz7_0
        try clear hfz7_1
        try clear hfz8_0
        try clear hfz8_1
        try clear hx102_0
        try clear hx104_0
        try clear p102
        try clear p104
        try clear p2
        try clear q102
        try clear q104
        obtain ⟨kq, x48_10, rfl, HA, HJ10, BK101, HB⟩ := hcut
        cases kq with
        | zero => exact absurd HA.out (by simp [spec_LatOk.j2])
        | succ kj10 =>
         have H := HA.out
         clear HA
         simp only [spec_LatOk.j2] at H
         by_cases c20 : x48_10 = true
         ·subst c20
          have H1 : (some false) = some r := by rw [if_pos rfl] at H; exact H
          clear H
          have H := H1
          clear H1
          obtain rfl := Option.some.inj H
          go_wp2
          repeat (go_quiet (fail); try go_wp2)
          go_ret
          exact ⟨qz13, qz10 GE101.out⟩
         ·replace c20 := Bool.eq_false_iff.mpr c20
          subst c20
          have H1 : (spec_LatOk.l1 kj10 x3_2 0 a0_0 l0_1) = some r := by rw [if_neg (show ¬ (false = true) by decide)] at H; exact H
          clear H
          have H := H1
          clear H1
          have H' := Aside0.mk H
          clear H
          go_wp2
          repeat (go_quiet (fail); try go_wp2)
          go_loopg [4] kj10 (fun kq v4 w' => ∃ (x4_4 : Int), v4 = .int .i64 x4_4 ∧ Aside0 (spec_LatOk.l1 kq x3_2 x4_4 a0_0 l0_1 = some r) ∧ Aside0 (kq ≤ kj10) ∧ Aside0 (w'.heap[gb101]? = some (.cells #[.int .i64 a0_0, (.slice A0_1 l0_1.length c0_1)] 47 (0, 0))) ∧ Aside0 (Below w.heap.size w w'))
          case atStart => exact ⟨(0), qz2, H', ⟨Nat.le_refl _⟩, ⟨qz8 BK101.out⟩, ⟨qz10 GE101.out⟩⟩
          case round =>
           clear H'
           try clear c1
           try clear p1
           try clear q1
           try clear hx1
           try clear c2
           try clear p2
           try clear c3
           try clear c4
           try clear c4b0
           try clear c6
           try clear c6b0
           try clear c9
           try clear c10
           try clear c10b0
           try clear p10
           try clear q10
           try clear hx10
           try clear c13
           try clear c13b0
           try clear c14
           try clear c14b0
           try clear c16
           try clear c20
           try clear hcz12_0
           try clear hcz12_1
           try clear hcz18_0
           try clear hcz18_1
           try clear hcz19_0
           try clear hcz19_1
           try clear hcz5_0
           try clear hcz5_1
           try clear hcz7_0
           try clear hcz7_1
           try clear hcz8_0
           try clear hcz8_1
           try clear hfz12_0
           try clear hfz12_1
           try clear hfz18_0
           try clear hfz18_1
           try clear hfz19_0
           try clear hfz19_1
           try clear hfz5_0
           try clear hfz5_1
           try clear hfz7_0
           try clear hfz7_1
           try clear hfz8_0
           try clear hfz8_1
           try clear hx102_0
           try clear hx104_0
           try clear p1
           try clear p10
           try clear p102
           try clear p104
           try clear p2
           try clear q1
           try clear q10
           try clear q102
           try clear q104
           obtain ⟨x4_4, rfl, HA, HK4, BK101, HB⟩ := hrel
           cases gk with
           | zero => exact absurd HA.out (by simp [spec_LatOk.l1])
           | succ k4 =>
            have H := HA.out
            clear HA
            simp only [spec_LatOk.l1] at H
            by_cases c21 : x4_4 < a0_0
            ·rw [if_pos c21] at H
             have c21b0 : decide (x4_4 < a0_0) = true := decide_eq_true c21
             clear c21
             have HC22 := Aside0.mk H
             clear H
             have hcz23_0 : wr.cell? ⟨gb101, 0, none⟩ = some (.int .i64 a0_0) := (blk_cell BK101.out 0).trans rfl
             have hcz23_1 : wr.cell? ⟨gb101, 1, none⟩ = some (.slice A0_1 l0_1.length c0_1) := (blk_cell BK101.out 1).trans rfl
             have hfz23_0 := blk_frozen BK101.out 0
             have hfz23_1 := blk_frozen BK101.out 1
             go_upto_region 11 with (fail)
             repeat (go_quiet (fail); go_upto_region 11 with (fail))
             go_cut [75] (fun v75 wc => ∃ (kq : Nat) (x75_21 : Bool), v75 = .bool x75_21 ∧ Aside0 (spec_LatOk.j4 kq x3_2 x4_4 x75_21 a0_0 l0_1 = some r) ∧ Aside0 (kq ≤ k4) ∧ Aside0 (wc.heap[gb101]? = some (.cells #[.int .i64 a0_0, (.slice A0_1 l0_1.length c0_1)] 47 (0, 0))) ∧ Aside0 (Below w.heap.size w wc))
             case first =>
              have H := HC22.out
              clear HC22
              by_cases c24 : x3_2 = x4_4
              ·rw [if_pos c24] at H
               have c24b0 : (x3_2 == x4_4) = true := beq_iff_eq.mpr c24
               have c24b1 : (x3_2 != x4_4) = false := bne_eq_false_iff_eq.mpr c24
               clear c24
               (first | rw [c24b0] | (simp only [i64_w, i32_w]; rw [c24b0]) | skip)
               have H' := Aside0.mk H
               clear H
               go_wp2
               repeat (go_quiet (fail); try go_wp2)
               go_meet
               case rel => exact ⟨_, (false), qz2, H', ⟨qz358 HJ1.out HK2.out HJ10.out HK4.out⟩, ⟨qz8 BK101.out⟩, ⟨qz10 GE101.out⟩⟩
              ·rw [if_neg c24] at H
               have c24b0 : (x3_2 == x4_4) = false := beq_eq_false_iff_ne.mpr c24
               have c24b1 : (x3_2 != x4_4) = true := bne_iff_ne.mpr c24
               (first | rw [c24b0] | (simp only [i64_w, i32_w]; rw [c24b0]) | skip)
               by_cases c25 : 0 ≤ x3_2
               ·rw [if_pos c25] at H
                have c25b0 : decide (0 ≤ x3_2) = true := decide_eq_true c25
                clear c25
                by_cases c26 : x3_2 < (l0_1.length : Int)
                ·rw [if_pos c26] at H
                 have c26b0 : decide (x3_2 < (l0_1.length : Int)) = true := decide_eq_true c26
                 clear c26
                 replace H := Option.bind_eq_some_iff.mp H
                 obtain ⟨t107, A270, H⟩ := H
                 replace H : (if t107 = true then (if 0 ≤ x4_4 then (if x4_4 < (l0_1.length : Int) then ((spec_l01Bit.f (rd l0_1 x4_4) x3_2).bind fun t109 => (spec_LatOk.j4 k4 x3_2 x4_4 t109 a0_0 l0_1)) else (none)) else (none)) else (spec_LatOk.j4 k4 x3_2 x4_4 false a0_0 l0_1)) = some r := H
                 have A27 := Aside0.mk A270
                 clear A270
                 by_cases c28 : t107 = true
                 ·subst c28
                  have H1 : (if 0 ≤ x4_4 then (if x4_4 < (l0_1.length : Int) then ((spec_l01Bit.f (rd l0_1 x4_4) x3_2).bind fun t109 => (spec_LatOk.j4 k4 x3_2 x4_4 t109 a0_0 l0_1)) else (none)) else (none)) = some r := by rw [if_pos rfl] at H; exact H
                  clear H
                  have H := H1
                  clear H1
                  by_cases c29 : 0 ≤ x4_4
                  ·rw [if_pos c29] at H
                   have c29b0 : decide (0 ≤ x4_4) = true := decide_eq_true c29
                   clear c29
                   by_cases c30 : x4_4 < (l0_1.length : Int)
                   ·rw [if_pos c30] at H
                    have c30b0 : decide (x4_4 < (l0_1.length : Int)) = true := decide_eq_true c30
                    clear c30
                    replace H := Option.bind_eq_some_iff.mp H
                    obtain ⟨t109, A310, H⟩ := H
                    replace H : (spec_LatOk.j4 k4 x3_2 x4_4 t109 a0_0 l0_1) = some r := H
                    have A31 := Aside0.mk A310
                    clear A310
                    have H' := Aside0.mk H
                    clear H
                    have hcz32_0 : wr.cell? ⟨gb101, 0, none⟩ = some (.int .i64 a0_0) := (blk_cell BK101.out 0).trans rfl
                    have hcz32_1 : wr.cell? ⟨gb101, 1, none⟩ = some (.slice A0_1 l0_1.length c0_1) := (blk_cell BK101.out 1).trans rfl
                    have hfz32_0 := blk_frozen BK101.out 0
                    have hfz32_1 := blk_frozen BK101.out 1
                    have p106 : 0 ≤ (x3_2 : Int) := of_decide_eq_true qz4
                    have q106 : x3_2 < (l0_1.length : Int) := of_decide_eq_true qz4
                    obtain ⟨ad106, e106, hx106_0⟩ := Kd.at_int HR0_1.out x3_2 p106 q106
                    cases e106
                    replace hx106_0 := qcb HB hx106_0
                    replace p106 := eq_true p106
                    replace q106 := eq_true q106
                    go_wp2_with (first | (go_at_call 120; (with_reducible refine (spec_l01Bit.calls (rd l0_1 x3_2) x4_4 true _ A27.out).mono ?_); rintro e w' ⟨rfl, ⟨nd, rfl⟩⟩; (try first | exact ⟨rfl, _, World.drewN_drewN _ _ _⟩ | exact ⟨rfl, _, Eq.trans (World.drewN_drewN _ _ _) (congrArg (World.drewN _) (Nat.add_assoc _ _ _))⟩); have p108 : 0 ≤ (x4_4 : Int) := of_decide_eq_true qz4; have q108 : x4_4 < (l0_1.length : Int) := of_decide_eq_true qz4; obtain ⟨ad108, e108, hx108_0⟩ := Kd.at_int HR0_1.out x4_4 p108 q108; obtain rfl : ad106 = ad108 := (by injection e108); replace hx108_0 := qcb HB hx108_0; replace p108 := eq_true p108; replace q108 := eq_true q108) | (go_at_call 120; (with_reducible refine (spec_l01Bit.calls (rd l0_1 x4_4) x3_2 t109 _ A31.out).mono ?_); rintro e w' ⟨rfl, ⟨nd, rfl⟩⟩; (try first | exact ⟨rfl, _, World.drewN_drewN _ _ _⟩ | exact ⟨rfl, _, Eq.trans (World.drewN_drewN _ _ _) (congrArg (World.drewN _) (Nat.add_assoc _ _ _))⟩)))
                    repeat (go_quiet (first | (go_at_call 120; (with_reducible refine (spec_l01Bit.calls (rd l0_1 x3_2) x4_4 true _ A27.out).mono ?_); rintro e w' ⟨rfl, ⟨nd, rfl⟩⟩; (try first | exact ⟨rfl, _, World.drewN_drewN _ _ _⟩ | exact ⟨rfl, _, Eq.trans (World.drewN_drewN _ _ _) (congrArg (World.drewN _) (Nat.add_assoc _ _ _))⟩); have p108 : 0 ≤ (x4_4 : Int) := of_decide_eq_true qz4; have q108 : x4_4 < (l0_1.length : Int) := of_decide_eq_true qz4; obtain ⟨ad108, e108, hx108_0⟩ := Kd.at_int HR0_1.out x4_4 p108 q108; obtain rfl : ad106 = ad108 := (by injection e108); replace hx108_0 := qcb HB hx108_0; replace p108 := eq_true p108; replace q108 := eq_true q108) | (go_at_call 120; (with_reducible refine (spec_l01Bit.calls (rd l0_1 x4_4) x3_2 t109 _ A31.out).mono ?_); rintro e w' ⟨rfl, ⟨nd, rfl⟩⟩; (try first | exact ⟨rfl, _, World.drewN_drewN _ _ _⟩ | exact ⟨rfl, _, Eq.trans (World.drewN_drewN _ _ _) (congrArg (World.drewN _) (Nat.add_assoc _ _ _))⟩))); try go_wp2_with (first | (go_at_call 120; (with_reducible refine (spec_l01Bit.calls (rd l0_1 x3_2) x4_4 true _ A27.out).mono ?_); rintro e w' ⟨rfl, ⟨nd, rfl⟩⟩; (try first | exact ⟨rfl, _, World.drewN_drewN _ _ _⟩ | exact ⟨rfl, _, Eq.trans (World.drewN_drewN _ _ _) (congrArg (World.drewN _) (Nat.add_assoc _ _ _))⟩); have p108 : 0 ≤ (x4_4 : Int) := of_decide_eq_true qz4; have q108 : x4_4 < (l0_1.length : Int) := of_decide_eq_true qz4; obtain ⟨ad108, e108, hx108_0⟩ := Kd.at_int HR0_1.out x4_4 p108 q108; obtain rfl : ad106 = ad108 := (by injection e108); replace hx108_0 := qcb HB hx108_0; replace p108 := eq_true p108; replace q108 := eq_true q108) | (go_at_call 120; (with_reducible refine (spec_l01Bit.calls (rd l0_1 x4_4) x3_2 t109 _ A31.out).mono ?_); rintro e w' ⟨rfl, ⟨nd, rfl⟩⟩; (try first | exact ⟨rfl, _, World.drewN_drewN _ _ _⟩ | exact ⟨rfl, _, Eq.trans (World.drewN_drewN _ _ _) (congrArg (World.drewN _) (Nat.add_assoc _ _ _))⟩))))
                    go_meet
                    case rel => exact ⟨_, (t109), qz2, H', ⟨qz358 HJ1.out HK2.out HJ10.out HK4.out⟩, ⟨qz8 BK101.out⟩, ⟨qz10 GE101.out⟩⟩
                   ·rw [if_neg c30] at H
                    exact absurd H (by simp)
                  ·rw [if_neg c29] at H
                   exact absurd H (by simp)
                 ·replace c28 := Bool.eq_false_iff.mpr c28
                  subst c28
                  have H1 : (spec_LatOk.j4 k4 x3_2 x4_4 false a0_0 l0_1) = some r := by rw [if_neg (show ¬ (false = true) by decide)] at H; exact H
                  clear H
                  have H := H1
                  clear H1
                  have H' := Aside0.mk H
                  clear H
                  have hcz33_0 : wr.cell? ⟨gb101, 0, none⟩ = some (.int .i64 a0_0) := (blk_cell BK101.out 0).trans rfl
                  have hcz33_1 : wr.cell? ⟨gb101, 1, none⟩ = some (.slice A0_1 l0_1.length c0_1) := (blk_cell BK101.out 1).trans rfl
                  have hfz33_0 := blk_frozen BK101.out 0
                  have hfz33_1 := blk_frozen BK101.out 1
                  have p106 : 0 ≤ (x3_2 : Int) := of_decide_eq_true qz4
                  have q106 : x3_2 < (l0_1.length : Int) := of_decide_eq_true qz4
                  obtain ⟨ad106, e106, hx106_0⟩ := Kd.at_int HR0_1.out x3_2 p106 q106
                  cases e106
                  replace hx106_0 := qcb HB hx106_0
                  replace p106 := eq_true p106
                  replace q106 := eq_true q106
                  go_wp2_with (first | (go_at_call 120; (with_reducible refine (spec_l01Bit.calls (rd l0_1 x3_2) x4_4 false _ A27.out).mono ?_); rintro e w' ⟨rfl, ⟨nd, rfl⟩⟩; (try first | exact ⟨rfl, _, World.drewN_drewN _ _ _⟩ | exact ⟨rfl, _, Eq.trans (World.drewN_drewN _ _ _) (congrArg (World.drewN _) (Nat.add_assoc _ _ _))⟩)))
                  repeat (go_quiet (first | (go_at_call 120; (with_reducible refine (spec_l01Bit.calls (rd l0_1 x3_2) x4_4 false _ A27.out).mono ?_); rintro e w' ⟨rfl, ⟨nd, rfl⟩⟩; (try first | exact ⟨rfl, _, World.drewN_drewN _ _ _⟩ | exact ⟨rfl, _, Eq.trans (World.drewN_drewN _ _ _) (congrArg (World.drewN _) (Nat.add_assoc _ _ _))⟩))); try go_wp2_with (first | (go_at_call 120; (with_reducible refine (spec_l01Bit.calls (rd l0_1 x3_2) x4_4 false _ A27.out).mono ?_); rintro e w' ⟨rfl, ⟨nd, rfl⟩⟩; (try first | exact ⟨rfl, _, World.drewN_drewN _ _ _⟩ | exact ⟨rfl, _, Eq.trans (World.drewN_drewN _ _ _) (congrArg (World.drewN _) (Nat.add_assoc _ _ _))⟩))))
                  go_meet
                  case rel => exact ⟨_, (false), qz2, H', ⟨qz358 HJ1.out HK2.out HJ10.out HK4.out⟩, ⟨qz8 BK101.out⟩, ⟨qz10 GE101.out⟩⟩
                ·rw [if_neg c26] at H
                 exact absurd H (by simp)
               ·rw [if_neg c25] at H
                exact absurd H (by simp)
             case rest =>
              clear HC22
              try clear c1
              try clear p1
              try clear q1
              try clear hx1
              try clear c2
              try clear p2
              try clear c3
              try clear c4
              try clear c4b0
              try clear c6
              try clear c6b0
              try clear c9
              try clear c10
              try clear c10b0
              try clear p10
              try clear q10
              try clear hx10
              try clear c13
              try clear c13b0
              try clear c14
              try clear c14b0
              try clear c16
              try clear c20
              try clear c21
              try clear c21b0
              try clear c24
              try clear c24b0
              try clear c24b1
              try clear c25
              try clear c25b0
              try clear c26
              try clear c26b0
              try clear c28
              try clear c29
              try clear c29b0
              try clear c30
              try clear c30b0
              try clear hcz12_0
              try clear hcz12_1
              try clear hcz18_0
              try clear hcz18_1
              try clear hcz19_0
              try clear hcz19_1
              try clear hcz23_0
              try clear hcz23_1
              try clear hcz32_0
              try clear hcz32_1
              try clear hcz33_0
              try clear hcz33_1
              try clear hcz5_0
              try clear hcz5_1
              try clear hcz7_0
              try clear hcz7_1
              try clear hcz8_0
              try clear hcz8_1
              try clear hfz12_0
              try clear hfz12_1
              try clear hfz18_0
              try clear hfz18_1
              try clear hfz19_0
              try clear hfz19_1
              try clear hfz23_0
              try clear hfz23_1
              try clear hfz32_0
              try clear hfz32_1
              try clear hfz33_0
              try clear hfz33_1
              try clear hfz5_0
              try clear hfz5_1
              try clear hfz7_0
              try clear hfz7_1
              try clear hfz8_0
              try clear hfz8_1
              try clear hx102_0
              try clear hx104_0
              try clear hx106_0
              try clear hx108_0
              try clear p1
              try clear p10
              try clear p102
              try clear p104
              try clear p106
              try clear p108
              try clear p2
              try clear q1
              try clear q10
              try clear q102
              try clear q104
              try clear q106
              try clear q108
              obtain ⟨kq, x75_21, rfl, HA, HJ21, BK101, HB⟩ := hcut
              cases kq with
              | zero => exact absurd HA.out (by simp [spec_LatOk.j4])
              | succ kj21 =>
               have H := HA.out
               clear HA
               simp only [spec_LatOk.j4] at H
               by_cases c34 : x75_21 = true
               ·subst c34
                have H1 : (some false) = some r := by rw [if_pos rfl] at H; exact H
                clear H
                have H := H1
                clear H1
                obtain rfl := Option.some.inj H
                go_wp2
                repeat (go_quiet (fail); try go_wp2)
                go_ret
                exact ⟨qz13, qz10 GE101.out⟩
               ·replace c34 := Bool.eq_false_iff.mpr c34
                subst c34
                have H1 : (spec_LatOk.l2 kj21 x3_2 x4_4 0 a0_0 l0_1) = some r := by rw [if_neg (show ¬ (false = true) by decide)] at H; exact H
                clear H
                have H := H1
                clear H1
                have H' := Aside0.mk H
                clear H
                go_wp2
                repeat (go_quiet (fail); try go_wp2)
                go_loopg [5] kj21 (fun kq v5 w' => ∃ (x5_6 : Int), v5 = .int .i64 x5_6 ∧ Aside0 (spec_LatOk.l2 kq x3_2 x4_4 x5_6 a0_0 l0_1 = some r) ∧ Aside0 (kq ≤ kj21) ∧ Aside0 (w'.heap[gb101]? = some (.cells #[.int .i64 a0_0, (.slice A0_1 l0_1.length c0_1)] 47 (0, 0))) ∧ Aside0 (Below w.heap.size w w'))
                case atStart => exact ⟨(0), qz2, H', ⟨Nat.le_refl _⟩, ⟨qz8 BK101.out⟩, ⟨qz10 GE101.out⟩⟩
                case round =>
                 clear H'
                 try clear c1
                 try clear p1
                 try clear q1
                 try clear hx1
                 try clear c2
                 try clear p2
                 try clear c3
                 try clear c4
                 try clear c4b0
                 try clear c6
                 try clear c6b0
                 try clear c9
                 try clear c10
                 try clear c10b0
                 try clear p10
                 try clear q10
                 try clear hx10
                 try clear c13
                 try clear c13b0
                 try clear c14
                 try clear c14b0
                 try clear c16
                 try clear c20
                 try clear c21
                 try clear c21b0
                 try clear c24
                 try clear c24b0
                 try clear c24b1
                 try clear c25
                 try clear c25b0
                 try clear c26
                 try clear c26b0
                 try clear c28
                 try clear c29
                 try clear c29b0
                 try clear c30
                 try clear c30b0
                 try clear c34
                 try clear hcz12_0
                 try clear hcz12_1
                 try clear hcz18_0
                 try clear hcz18_1
                 try clear hcz19_0
                 try clear hcz19_1
                 try clear hcz23_0
                 try clear hcz23_1
                 try clear hcz32_0
                 try clear hcz32_1
                 try clear hcz33_0
                 try clear hcz33_1
                 try clear hcz5_0
                 try clear hcz5_1
                 try clear hcz7_0
                 try clear hcz7_1
                 try clear hcz8_0
                 try clear hcz8_1
                 try clear hfz12_0
                 try clear hfz12_1
                 try clear hfz18_0
                 try clear hfz18_1
                 try clear hfz19_0
                 try clear hfz19_1
                 try clear hfz23_0
                 try clear hfz23_1
                 try clear hfz32_0
                 try clear hfz32_1
                 try clear hfz33_0
                 try clear hfz33_1
                 try clear hfz5_0
                 try clear hfz5_1
                 try clear hfz7_0
                 try clear hfz7_1
                 try clear hfz8_0
                 try clear hfz8_1
                 try clear hx102_0
                 try clear hx104_0
                 try clear hx106_0
                 try clear hx108_0
                 try clear p1
                 try clear p10
                 try clear p102
                 try clear p104
                 try clear p106
                 try clear p108
                 try clear p2
                 try clear q1
                 try clear q10
                 try clear q102
                 try clear q104
                 try clear q106
                 try clear q108
                 obtain ⟨x5_6, rfl, HA, HK6, BK101, HB⟩ := hrel
                 cases gk with
                 | zero => exact absurd HA.out (by simp [spec_LatOk.l2])
                 | succ k6 =>
                  have H := HA.out
                  clear HA
                  simp only [spec_LatOk.l2] at H
                  by_cases c35 : x5_6 < a0_0
                  ·rw [if_pos c35] at H
                   have c35b0 : decide (x5_6 < a0_0) = true := decide_eq_true c35
                   clear c35
                   by_cases c36 : 0 ≤ x3_2
                   ·rw [if_pos c36] at H
                    have c36b0 : decide (0 ≤ x3_2) = true := decide_eq_true c36
                    clear c36
                    by_cases c37 : x3_2 < (l0_1.length : Int)
                    ·rw [if_pos c37] at H
                     have c37b0 : decide (x3_2 < (l0_1.length : Int)) = true := decide_eq_true c37
                     clear c37
                     replace H := Option.bind_eq_some_iff.mp H
                     obtain ⟨t111, A380, H⟩ := H
                     replace H : (if t111 = true then (if 0 ≤ x4_4 then (if x4_4 < (l0_1.length : Int) then ((spec_l01Bit.f (rd l0_1 x4_4) x5_6).bind fun t113 => (if t113 = true then ((spec_l01Bit.f (rd l0_1 x3_2) x5_6).bind fun t115 => (if t115 = true then (spec_LatOk.l2 k6 x3_2 x4_4 (wrap64 (x5_6 + 1)) a0_0 l0_1) else (some false))) else (spec_LatOk.l2 k6 x3_2 x4_4 (wrap64 (x5_6 + 1)) a0_0 l0_1))) else (none)) else (none)) else (spec_LatOk.l2 k6 x3_2 x4_4 (wrap64 (x5_6 + 1)) a0_0 l0_1)) = some r := H
                     have A38 := Aside0.mk A380
                     clear A380
                     by_cases c39 : t111 = true
                     ·subst c39
                      have H1 : (if 0 ≤ x4_4 then (if x4_4 < (l0_1.length : Int) then ((spec_l01Bit.f (rd l0_1 x4_4) x5_6).bind fun t113 => (if t113 = true then ((spec_l01Bit.f (rd l0_1 x3_2) x5_6).bind fun t115 => (if t115 = true then (spec_LatOk.l2 k6 x3_2 x4_4 (wrap64 (x5_6 + 1)) a0_0 l0_1) else (some false))) else (spec_LatOk.l2 k6 x3_2 x4_4 (wrap64 (x5_6 + 1)) a0_0 l0_1))) else (none)) else (none)) = some r := by rw [if_pos rfl] at H; exact H
                      clear H
                      have H := H1
                      clear H1
                      by_cases c40 : 0 ≤ x4_4
                      ·rw [if_pos c40] at H
                       have c40b0 : decide (0 ≤ x4_4) = true := decide_eq_true c40
                       clear c40
                       by_cases c41 : x4_4 < (l0_1.length : Int)
                       ·rw [if_pos c41] at H
                        have c41b0 : decide (x4_4 < (l0_1.length : Int)) = true := decide_eq_true c41
                        clear c41
                        replace H := Option.bind_eq_some_iff.mp H
                        obtain ⟨t113, A420, H⟩ := H
                        replace H : (if t113 = true then ((spec_l01Bit.f (rd l0_1 x3_2) x5_6).bind fun t115 => (if t115 = true then (spec_LatOk.l2 k6 x3_2 x4_4 (wrap64 (x5_6 + 1)) a0_0 l0_1) else (some false))) else (spec_LatOk.l2 k6 x3_2 x4_4 (wrap64 (x5_6 + 1)) a0_0 l0_1)) = some r := H
                        have A42 := Aside0.mk A420
                        clear A420
                        by_cases c43 : t113 = true
                        ·subst c43
                         have H1 : ((spec_l01Bit.f (rd l0_1 x3_2) x5_6).bind fun t115 => (if t115 = true then (spec_LatOk.l2 k6 x3_2 x4_4 (wrap64 (x5_6 + 1)) a0_0 l0_1) else (some false))) = some r := by rw [if_pos rfl] at H; exact H
                         clear H
                         have H := H1
                         clear H1
                         replace H := Option.bind_eq_some_iff.mp H
                         obtain ⟨t115, A440, H⟩ := H
                         replace H : (if t115 = true then (spec_LatOk.l2 k6 x3_2 x4_4 (wrap64 (x5_6 + 1)) a0_0 l0_1) else (some false)) = some r := H
                         have A44 := Aside0.mk A440
                         clear A440
                         by_cases c45 : t115 = true
                         ·subst c45
                          have H1 : (spec_LatOk.l2 k6 x3_2 x4_4 (wrap64 (x5_6 + 1)) a0_0 l0_1) = some r := by rw [if_pos rfl] at H; exact H
                          clear H
                          have H := H1
                          clear H1
                          have H' := Aside0.mk H
                          clear H
                          have hcz46_0 : wr.cell? ⟨gb101, 0, none⟩ = some (.int .i64 a0_0) := (blk_cell BK101.out 0).trans rfl
                          have hcz46_1 : wr.cell? ⟨gb101, 1, none⟩ = some (.slice A0_1 l0_1.length c0_1) := (blk_cell BK101.out 1).trans rfl
                          have hfz46_0 := blk_frozen BK101.out 0
                          have hfz46_1 := blk_frozen BK101.out 1
                          have p110 : 0 ≤ (x3_2 : Int) := of_decide_eq_true qz4
                          have q110 : x3_2 < (l0_1.length : Int) := of_decide_eq_true qz4
                          obtain ⟨ad110, e110, hx110_0⟩ := Kd.at_int HR0_1.out x3_2 p110 q110
                          cases e110
                          replace hx110_0 := qcb HB hx110_0
                          replace p110 := eq_true p110
                          replace q110 := eq_true q110
                          go_wp2_with (first | (go_at_call 120; (with_reducible refine (spec_l01Bit.calls (rd l0_1 x3_2) x4_4 true _ A38.out).mono ?_); rintro e w' ⟨rfl, ⟨nd, rfl⟩⟩; (try first | exact ⟨rfl, _, World.drewN_drewN _ _ _⟩ | exact ⟨rfl, _, Eq.trans (World.drewN_drewN _ _ _) (congrArg (World.drewN _) (Nat.add_assoc _ _ _))⟩); have p112 : 0 ≤ (x4_4 : Int) := of_decide_eq_true qz4; have q112 : x4_4 < (l0_1.length : Int) := of_decide_eq_true qz4; obtain ⟨ad112, e112, hx112_0⟩ := Kd.at_int HR0_1.out x4_4 p112 q112; obtain rfl : ad110 = ad112 := (by injection e112); replace hx112_0 := qcb HB hx112_0; replace p112 := eq_true p112; replace q112 := eq_true q112) | (go_at_call 120; (with_reducible refine (spec_l01Bit.calls (rd l0_1 x4_4) x5_6 true _ A42.out).mono ?_); rintro e w' ⟨rfl, ⟨nd, rfl⟩⟩; (try first | exact ⟨rfl, _, World.drewN_drewN _ _ _⟩ | exact ⟨rfl, _, Eq.trans (World.drewN_drewN _ _ _) (congrArg (World.drewN _) (Nat.add_assoc _ _ _))⟩); have p114 : 0 ≤ (x3_2 : Int) := of_decide_eq_true qz4; have q114 : x3_2 < (l0_1.length : Int) := of_decide_eq_true qz4; obtain ⟨ad114, e114, hx114_0⟩ := Kd.at_int HR0_1.out x3_2 p114 q114; obtain rfl : ad110 = ad114 := (by injection e114); replace hx114_0 := qcb HB hx114_0; replace p114 := eq_true p114; replace q114 := eq_true q114) | (go_at_call 120; (with_reducible refine (spec_l01Bit.calls (rd l0_1 x3_2) x5_6 true _ A44.out).mono ?_); rintro e w' ⟨rfl, ⟨nd, rfl⟩⟩; (try first | exact ⟨rfl, _, World.drewN_drewN _ _ _⟩ | exact ⟨rfl, _, Eq.trans (World.drewN_drewN _ _ _) (congrArg (World.drewN _) (Nat.add_assoc _ _ _))⟩)))
                          repeat (go_quiet (first | (go_at_call 120; (with_reducible refine (spec_l01Bit.calls (rd l0_1 x3_2) x4_4 true _ A38.out).mono ?_); rintro e w' ⟨rfl, ⟨nd, rfl⟩⟩; (try first | exact ⟨rfl, _, World.drewN_drewN _ _ _⟩ | exact ⟨rfl, _, Eq.trans (World.drewN_drewN _ _ _) (congrArg (World.drewN _) (Nat.add_assoc _ _ _))⟩); have p112 : 0 ≤ (x4_4 : Int) := of_decide_eq_true qz4; have q112 : x4_4 < (l0_1.length : Int) := of_decide_eq_true qz4; obtain ⟨ad112, e112, hx112_0⟩ := Kd.at_int HR0_1.out x4_4 p112 q112; obtain rfl : ad110 = ad112 := (by injection e112); replace hx112_0 := qcb HB hx112_0; replace p112 := eq_true p112; replace q112 := eq_true q112) | (go_at_call 120; (with_reducible refine (spec_l01Bit.calls (rd l0_1 x4_4) x5_6 true _ A42.out).mono ?_); rintro e w' ⟨rfl, ⟨nd, rfl⟩⟩; (try first | exact ⟨rfl, _, World.drewN_drewN _ _ _⟩ | exact ⟨rfl, _, Eq.trans (World.drewN_drewN _ _ _) (congrArg (World.drewN _) (Nat.add_assoc _ _ _))⟩); have p114 : 0 ≤ (x3_2 : Int) := of_decide_eq_true qz4; have q114 : x3_2 < (l0_1.length : Int) := of_decide_eq_true qz4; obtain ⟨ad114, e114, hx114_0⟩ := Kd.at_int HR0_1.out x3_2 p114 q114; obtain rfl : ad110 = ad114 := (by injection e114); replace hx114_0 := qcb HB hx114_0; replace p114 := eq_true p114; replace q114 := eq_true q114) | (go_at_call 120; (with_reducible refine (spec_l01Bit.calls (rd l0_1 x3_2) x5_6 true _ A44.out).mono ?_); rintro e w' ⟨rfl, ⟨nd, rfl⟩⟩; (try first | exact ⟨rfl, _, World.drewN_drewN _ _ _⟩ | exact ⟨rfl, _, Eq.trans (World.drewN_drewN _ _ _) (congrArg (World.drewN _) (Nat.add_assoc _ _ _))⟩))); try go_wp2_with (first | (go_at_call 120; (with_reducible refine (spec_l01Bit.calls (rd l0_1 x3_2) x4_4 true _ A38.out).mono ?_); rintro e w' ⟨rfl, ⟨nd, rfl⟩⟩; (try first | exact ⟨rfl, _, World.drewN_drewN _ _ _⟩ | exact ⟨rfl, _, Eq.trans (World.drewN_drewN _ _ _) (congrArg (World.drewN _) (Nat.add_assoc _ _ _))⟩); have p112 : 0 ≤ (x4_4 : Int) := of_decide_eq_true qz4; have q112 : x4_4 < (l0_1.length : Int) := of_decide_eq_true qz4; obtain ⟨ad112, e112, hx112_0⟩ := Kd.at_int HR0_1.out x4_4 p112 q112; obtain rfl : ad110 = ad112 := (by injection e112); replace hx112_0 := qcb HB hx112_0; replace p112 := eq_true p112; replace q112 := eq_true q112) | (go_at_call 120; (with_reducible refine (spec_l01Bit.calls (rd l0_1 x4_4) x5_6 true _ A42.out).mono ?_); rintro e w' ⟨rfl, ⟨nd, rfl⟩⟩; (try first | exact ⟨rfl, _, World.drewN_drewN _ _ _⟩ | exact ⟨rfl, _, Eq.trans (World.drewN_drewN _ _ _) (congrArg (World.drewN _) (Nat.add_assoc _ _ _))⟩); have p114 : 0 ≤ (x3_2 : Int) := of_decide_eq_true qz4; have q114 : x3_2 < (l0_1.length : Int) := of_decide_eq_true qz4; obtain ⟨ad114, e114, hx114_0⟩ := Kd.at_int HR0_1.out x3_2 p114 q114; obtain rfl : ad110 = ad114 := (by injection e114); replace hx114_0 := qcb HB hx114_0; replace p114 := eq_true p114; replace q114 := eq_true q114) | (go_at_call 120; (with_reducible refine (spec_l01Bit.calls (rd l0_1 x3_2) x5_6 true _ A44.out).mono ?_); rintro e w' ⟨rfl, ⟨nd, rfl⟩⟩; (try first | exact ⟨rfl, _, World.drewN_drewN _ _ _⟩ | exact ⟨rfl, _, Eq.trans (World.drewN_drewN _ _ _) (congrArg (World.drewN _) (Nat.add_assoc _ _ _))⟩))))
                          go_roundg k6
                          case measure => have := HJ1.out; have := HK2.out; have := HJ10.out; have := HK4.out; have := HJ21.out; have := HK6.out; omega
                          case rel => exact ⟨(wrap64 (x5_6 + 1)), qz2, H', ⟨qz359⟩, ⟨qz8 BK101.out⟩, ⟨qz10 GE101.out⟩⟩
                         ·replace c45 := Bool.eq_false_iff.mpr c45
                          subst c45
                          have H1 : (some false) = some r := by rw [if_neg (show ¬ (false = true) by decide)] at H; exact H
                          clear H
                          have H := H1
                          clear H1
                          obtain rfl := Option.some.inj H
                          have hcz47_0 : wr.cell? ⟨gb101, 0, none⟩ = some (.int .i64 a0_0) := (blk_cell BK101.out 0).trans rfl
                          have hcz47_1 : wr.cell? ⟨gb101, 1, none⟩ = some (.slice A0_1 l0_1.length c0_1) := (blk_cell BK101.out 1).trans rfl
                          have hfz47_0 := blk_frozen BK101.out 0
                          have hfz47_1 := blk_frozen BK101.out 1
                          have p110 : 0 ≤ (x3_2 : Int) := of_decide_eq_true qz4
                          have q110 : x3_2 < (l0_1.length : Int) := of_decide_eq_true qz4
                          obtain ⟨ad110, e110, hx110_0⟩ := Kd.at_int HR0_1.out x3_2 p110 q110
                          cases e110
                          replace hx110_0 := qcb HB hx110_0
                          replace p110 := eq_true p110
                          replace q110 := eq_true q110
                          go_wp2_with (first | (go_at_call 120; (with_reducible refine (spec_l01Bit.calls (rd l0_1 x3_2) x4_4 true _ A38.out).mono ?_); rintro e w' ⟨rfl, ⟨nd, rfl⟩⟩; (try first | exact ⟨rfl, _, World.drewN_drewN _ _ _⟩ | exact ⟨rfl, _, Eq.trans (World.drewN_drewN _ _ _) (congrArg (World.drewN _) (Nat.add_assoc _ _ _))⟩); have p112 : 0 ≤ (x4_4 : Int) := of_decide_eq_true qz4; have q112 : x4_4 < (l0_1.length : Int) := of_decide_eq_true qz4; obtain ⟨ad112, e112, hx112_0⟩ := Kd.at_int HR0_1.out x4_4 p112 q112; obtain rfl : ad110 = ad112 := (by injection e112); replace hx112_0 := qcb HB hx112_0; replace p112 := eq_true p112; replace q112 := eq_true q112) | (go_at_call 120; (with_reducible refine (spec_l01Bit.calls (rd l0_1 x4_4) x5_6 true _ A42.out).mono ?_); rintro e w' ⟨rfl, ⟨nd, rfl⟩⟩; (try first | exact ⟨rfl, _, World.drewN_drewN _ _ _⟩ | exact ⟨rfl, _, Eq.trans (World.drewN_drewN _ _ _) (congrArg (World.drewN _) (Nat.add_assoc _ _ _))⟩); have p114 : 0 ≤ (x3_2 : Int) := of_decide_eq_true qz4; have q114 : x3_2 < (l0_1.length : Int) := of_decide_eq_true qz4; obtain ⟨ad114, e114, hx114_0⟩ := Kd.at_int HR0_1.out x3_2 p114 q114; obtain rfl : ad110 = ad114 := (by injection e114); replace hx114_0 := qcb HB hx114_0; replace p114 := eq_true p114; replace q114 := eq_true q114) | (go_at_call 120; (with_reducible refine (spec_l01Bit.calls (rd l0_1 x3_2) x5_6 false _ A44.out).mono ?_); rintro e w' ⟨rfl, ⟨nd, rfl⟩⟩; (try first | exact ⟨rfl, _, World.drewN_drewN _ _ _⟩ | exact ⟨rfl, _, Eq.trans (World.drewN_drewN _ _ _) (congrArg (World.drewN _) (Nat.add_assoc _ _ _))⟩)))
                          repeat (go_quiet (first | (go_at_call 120; (with_reducible refine (spec_l01Bit.calls (rd l0_1 x3_2) x4_4 true _ A38.out).mono ?_); rintro e w' ⟨rfl, ⟨nd, rfl⟩⟩; (try first | exact ⟨rfl, _, World.drewN_drewN _ _ _⟩ | exact ⟨rfl, _, Eq.trans (World.drewN_drewN _ _ _) (congrArg (World.drewN _) (Nat.add_assoc _ _ _))⟩); have p112 : 0 ≤ (x4_4 : Int) := of_decide_eq_true qz4; have q112 : x4_4 < (l0_1.length : Int) := of_decide_eq_true qz4; obtain ⟨ad112, e112, hx112_0⟩ := Kd.at_int HR0_1.out x4_4 p112 q112; obtain rfl : ad110 = ad112 := (by injection e112); replace hx112_0 := qcb HB hx112_0; replace p112 := eq_true p112; replace q112 := eq_true q112) | (go_at_call 120; (with_reducible refine (spec_l01Bit.calls (rd l0_1 x4_4) x5_6 true _ A42.out).mono ?_); rintro e w' ⟨rfl, ⟨nd, rfl⟩⟩; (try first | exact ⟨rfl, _, World.drewN_drewN _ _ _⟩ | exact ⟨rfl, _, Eq.trans (World.drewN_drewN _ _ _) (congrArg (World.drewN _) (Nat.add_assoc _ _ _))⟩); have p114 : 0 ≤ (x3_2 : Int) := of_decide_eq_true qz4; have q114 : x3_2 < (l0_1.length : Int) := of_decide_eq_true qz4; obtain ⟨ad114, e114, hx114_0⟩ := Kd.at_int HR0_1.out x3_2 p114 q114; obtain rfl : ad110 = ad114 := (by injection e114); replace hx114_0 := qcb HB hx114_0; replace p114 := eq_true p114; replace q114 := eq_true q114) | (go_at_call 120; (with_reducible refine (spec_l01Bit.calls (rd l0_1 x3_2) x5_6 false _ A44.out).mono ?_); rintro e w' ⟨rfl, ⟨nd, rfl⟩⟩; (try first | exact ⟨rfl, _, World.drewN_drewN _ _ _⟩ | exact ⟨rfl, _, Eq.trans (World.drewN_drewN _ _ _) (congrArg (World.drewN _) (Nat.add_assoc _ _ _))⟩))); try go_wp2_with (first | (go_at_call 120; (with_reducible refine (spec_l01Bit.calls (rd l0_1 x3_2) x4_4 true _ A38.out).mono ?_); rintro e w' ⟨rfl, ⟨nd, rfl⟩⟩; (try first | exact ⟨rfl, _, World.drewN_drewN _ _ _⟩ | exact ⟨rfl, _, Eq.trans (World.drewN_drewN _ _ _) (congrArg (World.drewN _) (Nat.add_assoc _ _ _))⟩); have p112 : 0 ≤ (x4_4 : Int) := of_decide_eq_true qz4; have q112 : x4_4 < (l0_1.length : Int) := of_decide_eq_true qz4; obtain ⟨ad112, e112, hx112_0⟩ := Kd.at_int HR0_1.out x4_4 p112 q112; obtain rfl : ad110 = ad112 := (by injection e112); replace hx112_0 := qcb HB hx112_0; replace p112 := eq_true p112; replace q112 := eq_true q112) | (go_at_call 120; (with_reducible refine (spec_l01Bit.calls (rd l0_1 x4_4) x5_6 true _ A42.out).mono ?_); rintro e w' ⟨rfl, ⟨nd, rfl⟩⟩; (try first | exact ⟨rfl, _, World.drewN_drewN _ _ _⟩ | exact ⟨rfl, _, Eq.trans (World.drewN_drewN _ _ _) (congrArg (World.drewN _) (Nat.add_assoc _ _ _))⟩); have p114 : 0 ≤ (x3_2 : Int) := of_decide_eq_true qz4; have q114 : x3_2 < (l0_1.length : Int) := of_decide_eq_true qz4; obtain ⟨ad114, e114, hx114_0⟩ := Kd.at_int HR0_1.out x3_2 p114 q114; obtain rfl : ad110 = ad114 := (by injection e114); replace hx114_0 := qcb HB hx114_0; replace p114 := eq_true p114; replace q114 := eq_true q114) | (go_at_call 120; (with_reducible refine (spec_l01Bit.calls (rd l0_1 x3_2) x5_6 false _ A44.out).mono ?_); rintro e w' ⟨rfl, ⟨nd, rfl⟩⟩; (try first | exact ⟨rfl, _, World.drewN_drewN _ _ _⟩ | exact ⟨rfl, _, Eq.trans (World.drewN_drewN _ _ _) (congrArg (World.drewN _) (Nat.add_assoc _ _ _))⟩))))
                          go_ret
                          exact ⟨qz13, qz10 GE101.out⟩
                        ·replace c43 := Bool.eq_false_iff.mpr c43
                         subst c43
                         have H1 : (spec_LatOk.l2 k6 x3_2 x4_4 (wrap64 (x5_6 + 1)) a0_0 l0_1) = some r := by rw [if_neg (show ¬ (false = true) by decide)] at H; exact H
                         clear H
                         have H := H1
                         clear H1
                         have H' := Aside0.mk H
                         clear H
                         have hcz48_0 : wr.cell? ⟨gb101, 0, none⟩ = some (.int .i64 a0_0) := (blk_cell BK101.out 0).trans rfl
                         have hcz48_1 : wr.cell? ⟨gb101, 1, none⟩ = some (.slice A0_1 l0_1.length c0_1) := (blk_cell BK101.out 1).trans rfl
                         have hfz48_0 := blk_frozen BK101.out 0
                         have hfz48_1 := blk_frozen BK101.out 1
                         have p110 : 0 ≤ (x3_2 : Int) := of_decide_eq_true qz4
                         have q110 : x3_2 < (l0_1.length : Int) := of_decide_eq_true qz4
                         obtain ⟨ad110, e110, hx110_0⟩ := Kd.at_int HR0_1.out x3_2 p110 q110
                         cases e110
                         replace hx110_0 := qcb HB hx110_0
                         replace p110 := eq_true p110
                         replace q110 := eq_true q110
                         go_wp2_with (first | (go_at_call 120; (with_reducible refine (spec_l01Bit.calls (rd l0_1 x3_2) x4_4 true _ A38.out).mono ?_); rintro e w' ⟨rfl, ⟨nd, rfl⟩⟩; (try first | exact ⟨rfl, _, World.drewN_drewN _ _ _⟩ | exact ⟨rfl, _, Eq.trans (World.drewN_drewN _ _ _) (congrArg (World.drewN _) (Nat.add_assoc _ _ _))⟩); have p112 : 0 ≤ (x4_4 : Int) := of_decide_eq_true qz4; have q112 : x4_4 < (l0_1.length : Int) := of_decide_eq_true qz4; obtain ⟨ad112, e112, hx112_0⟩ := Kd.at_int HR0_1.out x4_4 p112 q112; obtain rfl : ad110 = ad112 := (by injection e112); replace hx112_0 := qcb HB hx112_0; replace p112 := eq_true p112; replace q112 := eq_true q112) | (go_at_call 120; (with_reducible refine (spec_l01Bit.calls (rd l0_1 x4_4) x5_6 false _ A42.out).mono ?_); rintro e w' ⟨rfl, ⟨nd, rfl⟩⟩; (try first | exact ⟨rfl, _, World.drewN_drewN _ _ _⟩ | exact ⟨rfl, _, Eq.trans (World.drewN_drewN _ _ _) (congrArg (World.drewN _) (Nat.add_assoc _ _ _))⟩)))
                         repeat (go_quiet (first | (go_at_call 120; (with_reducible refine (spec_l01Bit.calls (rd l0_1 x3_2) x4_4 true _ A38.out).mono ?_); rintro e w' ⟨rfl, ⟨nd, rfl⟩⟩; (try first | exact ⟨rfl, _, World.drewN_drewN _ _ _⟩ | exact ⟨rfl, _, Eq.trans (World.drewN_drewN _ _ _) (congrArg (World.drewN _) (Nat.add_assoc _ _ _))⟩); have p112 : 0 ≤ (x4_4 : Int) := of_decide_eq_true qz4; have q112 : x4_4 < (l0_1.length : Int) := of_decide_eq_true qz4; obtain ⟨ad112, e112, hx112_0⟩ := Kd.at_int HR0_1.out x4_4 p112 q112; obtain rfl : ad110 = ad112 := (by injection e112); replace hx112_0 := qcb HB hx112_0; replace p112 := eq_true p112; replace q112 := eq_true q112) | (go_at_call 120; (with_reducible refine (spec_l01Bit.calls (rd l0_1 x4_4) x5_6 false _ A42.out).mono ?_); rintro e w' ⟨rfl, ⟨nd, rfl⟩⟩; (try first | exact ⟨rfl, _, World.drewN_drewN _ _ _⟩ | exact ⟨rfl, _, Eq.trans (World.drewN_drewN _ _ _) (congrArg (World.drewN _) (Nat.add_assoc _ _ _))⟩))); try go_wp2_with (first | (go_at_call 120; (with_reducible refine (spec_l01Bit.calls (rd l0_1 x3_2) x4_4 true _ A38.out).mono ?_); rintro e w' ⟨rfl, ⟨nd, rfl⟩⟩; (try first | exact ⟨rfl, _, World.drewN_drewN _ _ _⟩ | exact ⟨rfl, _, Eq.trans (World.drewN_drewN _ _ _) (congrArg (World.drewN _) (Nat.add_assoc _ _ _))⟩); have p112 : 0 ≤ (x4_4 : Int) := of_decide_eq_true qz4; have q112 : x4_4 < (l0_1.length : Int) := of_decide_eq_true qz4; obtain ⟨ad112, e112, hx112_0⟩ := Kd.at_int HR0_1.out x4_4 p112 q112; obtain rfl : ad110 = ad112 := (by injection e112); replace hx112_0 := qcb HB hx112_0; replace p112 := eq_true p112; replace q112 := eq_true q112) | (go_at_call 120; (with_reducible refine (spec_l01Bit.calls (rd l0_1 x4_4) x5_6 false _ A42.out).mono ?_); rintro e w' ⟨rfl, ⟨nd, rfl⟩⟩; (try first | exact ⟨rfl, _, World.drewN_drewN _ _ _⟩ | exact ⟨rfl, _, Eq.trans (World.drewN_drewN _ _ _) (congrArg (World.drewN _) (Nat.add_assoc _ _ _))⟩))))
                         go_roundg k6
                         case measure => have := HJ1.out; have := HK2.out; have := HJ10.out; have := HK4.out; have := HJ21.out; have := HK6.out; omega
                         case rel => exact ⟨(wrap64 (x5_6 + 1)), qz2, H', ⟨qz359⟩, ⟨qz8 BK101.out⟩, ⟨qz10 GE101.out⟩⟩
                       ·rw [if_neg c41] at H
                        exact absurd H (by simp)
                      ·rw [if_neg c40] at H
                       exact absurd H (by simp)
                     ·replace c39 := Bool.eq_false_iff.mpr c39
                      subst c39
                      have H1 : (spec_LatOk.l2 k6 x3_2 x4_4 (wrap64 (x5_6 + 1)) a0_0 l0_1) = some r := by rw [if_neg (show ¬ (false = true) by decide)] at H; exact H
                      clear H
                      have H := H1
                      clear H1
                      have H' := Aside0.mk H
                      clear H
                      have hcz49_0 : wr.cell? ⟨gb101, 0, none⟩ = some (.int .i64 a0_0) := (blk_cell BK101.out 0).trans rfl
                      have hcz49_1 : wr.cell? ⟨gb101, 1, none⟩ = some (.slice A0_1 l0_1.length c0_1) := (blk_cell BK101.out 1).trans rfl
                      have hfz49_0 := blk_frozen BK101.out 0
                      have hfz49_1 := blk_frozen BK101.out 1
                      have p110 : 0 ≤ (x3_2 : Int) := of_decide_eq_true qz4
                      have q110 : x3_2 < (l0_1.length : Int) := of_decide_eq_true qz4
                      obtain ⟨ad110, e110, hx110_0⟩ := Kd.at_int HR0_1.out x3_2 p110 q110
                      cases e110
                      replace hx110_0 := qcb HB hx110_0
                      replace p110 := eq_true p110
                      replace q110 := eq_true q110
                      go_wp2_with (first | (go_at_call 120; (with_reducible refine (spec_l01Bit.calls (rd l0_1 x3_2) x4_4 false _ A38.out).mono ?_); rintro e w' ⟨rfl, ⟨nd, rfl⟩⟩; (try first | exact ⟨rfl, _, World.drewN_drewN _ _ _⟩ | exact ⟨rfl, _, Eq.trans (World.drewN_drewN _ _ _) (congrArg (World.drewN _) (Nat.add_assoc _ _ _))⟩)))
                      repeat (go_quiet (first | (go_at_call 120; (with_reducible refine (spec_l01Bit.calls (rd l0_1 x3_2) x4_4 false _ A38.out).mono ?_); rintro e w' ⟨rfl, ⟨nd, rfl⟩⟩; (try first | exact ⟨rfl, _, World.drewN_drewN _ _ _⟩ | exact ⟨rfl, _, Eq.trans (World.drewN_drewN _ _ _) (congrArg (World.drewN _) (Nat.add_assoc _ _ _))⟩))); try go_wp2_with (first | (go_at_call 120; (with_reducible refine (spec_l01Bit.calls (rd l0_1 x3_2) x4_4 false _ A38.out).mono ?_); rintro e w' ⟨rfl, ⟨nd, rfl⟩⟩; (try first | exact ⟨rfl, _, World.drewN_drewN _ _ _⟩ | exact ⟨rfl, _, Eq.trans (World.drewN_drewN _ _ _) (congrArg (World.drewN _) (Nat.add_assoc _ _ _))⟩))))
                      go_roundg k6
                      case measure => have := HJ1.out; have := HK2.out; have := HJ10.out; have := HK4.out; have := HJ21.out; have := HK6.out; omega
                      case rel => exact ⟨(wrap64 (x5_6 + 1)), qz2, H', ⟨qz359⟩, ⟨qz8 BK101.out⟩, ⟨qz10 GE101.out⟩⟩
                    ·rw [if_neg c37] at H
                     exact absurd H (by simp)
                   ·rw [if_neg c36] at H
                    exact absurd H (by simp)
                  ·rw [if_neg c35] at H
                   have c35b0 : decide (x5_6 < a0_0) = false := decide_eq_false c35
                   clear c35
                   have H' := Aside0.mk H
                   clear H
                   have hcz50_0 : wr.cell? ⟨gb101, 0, none⟩ = some (.int .i64 a0_0) := (blk_cell BK101.out 0).trans rfl
                   have hcz50_1 : wr.cell? ⟨gb101, 1, none⟩ = some (.slice A0_1 l0_1.length c0_1) := (blk_cell BK101.out 1).trans rfl
                   have hfz50_0 := blk_frozen BK101.out 0
                   have hfz50_1 := blk_frozen BK101.out 1
                   go_wp2
                   repeat (go_quiet (fail); try go_wp2)
                   go_roundg k6
                   case measure => have := HJ1.out; have := HK2.out; have := HJ10.out; have := HK4.out; have := HJ21.out; have := HK6.out; omega
                   case rel => exact ⟨(wrap64 (x4_4 + 1)), qz2, H', ⟨qz359⟩, ⟨qz8 BK101.out⟩, ⟨qz10 GE101.out⟩⟩
            ·rw [if_neg c21] at H
             have c21b0 : decide (x4_4 < a0_0) = false := decide_eq_false c21
             clear c21
             have H' := Aside0.mk H
             clear H
             have hcz51_0 : wr.cell? ⟨gb101, 0, none⟩ = some (.int .i64 a0_0) := (blk_cell BK101.out 0).trans rfl
             have hcz51_1 : wr.cell? ⟨gb101, 1, none⟩ = some (.slice A0_1 l0_1.length c0_1) := (blk_cell BK101.out 1).trans rfl
             have hfz51_0 := blk_frozen BK101.out 0
             have hfz51_1 := blk_frozen BK101.out 1
             go_wp2
             repeat (go_quiet (fail); try go_wp2)
             go_roundg k4
             case measure => have := HJ1.out; have := HK2.out; have := HJ10.out; have := HK4.out; omega
             case rel => exact ⟨(wrap64 (x3_2 + 1)), qz2, H', ⟨qz32 HJ1.out HK2.out HJ10.out HK4.out⟩, ⟨qz8 BK101.out⟩, ⟨qz10 GE101.out⟩⟩
      ·rw [if_neg c10] at H
       have c10b0 : decide (x3_2 < a0_0) = false := decide_eq_false c10
       clear c10
       have H' := Aside0.mk H
       clear H
       have hcz52_0 : wr.cell? ⟨gb101, 0, none⟩ = some (.int .i64 a0_0) := (blk_cell BK101.out 0).trans rfl
       have hcz52_1 : wr.cell? ⟨gb101, 1, none⟩ = some (.slice A0_1 l0_1.length c0_1) := (blk_cell BK101.out 1).trans rfl
       have hfz52_0 := blk_frozen BK101.out 0
       have hfz52_1 := blk_frozen BK101.out 1
       go_wp2
       repeat (go_quiet (fail); try go_wp2)
       go_loopg [6] k2 (fun kq v6 w' => ∃ (x6_3 : Int), v6 = .int .i64 x6_3 ∧ Aside0 (spec_LatOk.l3 kq x6_3 a0_0 l0_1 = some r) ∧ Aside0 (kq ≤ k2) ∧ Aside0 (w'.heap[gb101]? = some (.cells #[.int .i64 a0_0, (.slice A0_1 l0_1.length c0_1)] 47 (0, 0))) ∧ Aside0 (Below w.heap.size w w'))
       case atStart => exact ⟨(0), qz2, H', ⟨Nat.le_refl _⟩, ⟨qz8 BK101.out⟩, ⟨qz10 GE101.out⟩⟩
       case round =>
        clear H'
        try clear c1
        try clear p1
        try clear q1
        try clear hx1
        try clear c2
        try clear p2
        try clear c3
        try clear c4
        try clear c4b0
        try clear c6
        try clear c6b0
        try clear p6
        try clear c9
        try clear c10
        try clear c10b0
        try clear p10
        try clear q10
        try clear hx10
        try clear p11
        try clear q11
        try clear hx11
        try clear c13
        try clear c13b0
        try clear c14
        try clear c14b0
        try clear c16
        try clear c20
        try clear c21
        try clear c21b0
        try clear c24
        try clear c24b0
        try clear c24b1
        try clear c25
        try clear c25b0
        try clear c26
        try clear c26b0
        try clear c28
        try clear c29
        try clear c29b0
        try clear c30
        try clear c30b0
        try clear c34
        try clear c35
        try clear c35b0
        try clear c36
        try clear c36b0
        try clear c37
        try clear c37b0
        try clear c39
        try clear c40
        try clear c40b0
        try clear c41
        try clear c41b0
        try clear c43
        try clear c45
        try clear hcz12_0
        try clear hcz12_1
        try clear hcz18_0
        try clear hcz18_1
        try clear hcz19_0
        try clear hcz19_1
        try clear hcz23_0
        try clear hcz23_1
        try clear hcz32_0
        try clear hcz32_1
        try clear hcz33_0
        try clear hcz33_1
        try clear hcz46_0
        try clear hcz46_1
        try clear hcz47_0
        try clear hcz47_1
        try clear hcz48_0
        try clear hcz48_1
        try clear hcz49_0
        try clear hcz49_1
        try clear hcz50_0
        try clear hcz50_1
        try clear hcz51_0
        try clear hcz51_1
        try clear hcz52_0
        try clear hcz52_1
        try clear hcz5_0
        try clear hcz5_1
        try clear hcz7_0
        try clear hcz7_1
        try clear hcz8_0
        try clear hcz8_1
        try clear hfz12_0
        try clear hfz12_1
        try clear hfz18_0
        try clear hfz18_1
        try clear hfz19_0
        try clear hfz19_1
        try clear hfz23_0
        try clear hfz23_1
        try clear hfz32_0
        try clear hfz32_1
        try clear hfz33_0
        try clear hfz33_1
        try clear hfz46_0
        try clear hfz46_1
        try clear hfz47_0
        try clear hfz47_1
        try clear hfz48_0
        try clear hfz48_1
        try clear hfz49_0
        try clear hfz49_1
        try clear hfz50_0
        try clear hfz50_1
        try clear hfz51_0
        try clear hfz51_1
        try clear hfz52_0
        try clear hfz52_1
        try clear hfz5_0
        try clear hfz5_1
        try clear hfz7_0
        try clear hfz7_1
        try clear hfz8_0
        try clear hfz8_1
        try clear hx102_0
        try clear hx104_0
        try clear hx106_0
        try clear hx108_0
        try clear hx110_0
        try clear hx112_0
        try clear hx114_0
        try clear p1
        try clear p10
        try clear p102
        try clear p104
        try clear p106
        try clear p108
        try clear p110
        try clear p112
        try clear p114
        try clear p2
        try clear q1
        try clear q10
        try clear q102
        try clear q104
        try clear q106
        try clear q108
        try clear q110
        try clear q112
        try clear q114
        obtain ⟨x6_3, rfl, HA, HK3, BK101, HB⟩ := hrel
        cases gk with
        | zero => exact absurd HA.out (by simp [spec_LatOk.l3])
        | succ k3 =>
         have H := HA.out
         clear HA
         simp only [spec_LatOk.l3] at H
         by_cases c53 : x6_3 < a0_0
         ·rw [if_pos c53] at H
          have c53b0 : decide (x6_3 < a0_0) = true := decide_eq_true c53
          clear c53
          have H' := Aside0.mk H
          clear H
          have hcz54_0 : wr.cell? ⟨gb101, 0, none⟩ = some (.int .i64 a0_0) := (blk_cell BK101.out 0).trans rfl
          have hcz54_1 : wr.cell? ⟨gb101, 1, none⟩ = some (.slice A0_1 l0_1.length c0_1) := (blk_cell BK101.out 1).trans rfl
          have hfz54_0 := blk_frozen BK101.out 0
          have hfz54_1 := blk_frozen BK101.out 1
          go_wp2
          repeat (go_quiet (fail); try go_wp2)
          go_loopg [7] k3 (fun kq v7 w' => ∃ (x7_4 : Int), v7 = .int .i64 x7_4 ∧ Aside0 (spec_LatOk.l4 kq x6_3 x7_4 a0_0 l0_1 = some r) ∧ Aside0 (kq ≤ k3) ∧ Aside0 (w'.heap[gb101]? = some (.cells #[.int .i64 a0_0, (.slice A0_1 l0_1.length c0_1)] 47 (0, 0))) ∧ Aside0 (Below w.heap.size w w'))
          case atStart => exact ⟨(0), qz2, H', ⟨Nat.le_refl _⟩, ⟨qz8 BK101.out⟩, ⟨qz10 GE101.out⟩⟩
          case round =>
           clear H'
           try clear c1
           try clear p1
           try clear q1
           try clear hx1
           try clear c2
           try clear p2
           try clear c3
           try clear c4
           try clear c4b0
           try clear c5
           try clear c6
           try clear c6b0
           try clear p6
           try clear c9
           try clear c10
           try clear c10b0
           try clear p10
           try clear q10
           try clear hx10
           try clear p11
           try clear q11
           try clear hx11
           try clear c13
           try clear c13b0
           try clear c14
           try clear c14b0
           try clear c16
           try clear c20
           try clear c21
           try clear c21b0
           try clear c24
           try clear c24b0
           try clear c24b1
           try clear c25
           try clear c25b0
           try clear c26
           try clear c26b0
           try clear c28
           try clear c29
           try clear c29b0
           try clear c30
           try clear c30b0
           try clear c34
           try clear c35
           try clear c35b0
           try clear c36
           try clear c36b0
           try clear c37
           try clear c37b0
           try clear c39
           try clear c40
           try clear c40b0
           try clear c41
           try clear c41b0
           try clear c43
           try clear c45
           try clear c53
           try clear c53b0
           try clear hcz12_0
           try clear hcz12_1
           try clear hcz18_0
           try clear hcz18_1
           try clear hcz19_0
           try clear hcz19_1
           try clear hcz23_0
           try clear hcz23_1
           try clear hcz32_0
           try clear hcz32_1
           try clear hcz33_0
           try clear hcz33_1
           try clear hcz46_0
           try clear hcz46_1
           try clear hcz47_0
           try clear hcz47_1
           try clear hcz48_0
           try clear hcz48_1
           try clear hcz49_0
           try clear hcz49_1
           try clear hcz50_0
           try clear hcz50_1
           try clear hcz51_0
           try clear hcz51_1
           try clear hcz52_0
           try clear hcz52_1
           try clear hcz54_0
           try clear hcz54_1
           try clear hcz5_0
           try clear hcz5_1
           try clear hcz7_0
           try clear hcz7_1
           try clear hcz8_0
           try clear hcz8_1
           try clear hfz12_0
           try clear hfz12_1
           try clear hfz18_0
           try clear hfz18_1
           try clear hfz19_0
           try clear hfz19_1
           try clear hfz23_0
           try clear hfz23_1
           try clear hfz32_0
           try clear hfz32_1
           try clear hfz33_0
           try clear hfz33_1
           try clear hfz46_0
           try clear hfz46_1
           try clear hfz47_0
           try clear hfz47_1
           try clear hfz48_0
           try clear hfz48_1
           try clear hfz49_0
           try clear hfz49_1
           try clear hfz50_0
           try clear hfz50_1
           try clear hfz51_0
           try clear hfz51_1
           try clear hfz52_0
           try clear hfz52_1
           try clear hfz54_0
           try clear hfz54_1
           try clear hfz5_0
           try clear hfz5_1
           try clear hfz7_0
           try clear hfz7_1
           try clear hfz8_0
           try clear hfz8_1
           try clear hx102_0
           try clear hx104_0
           try clear hx106_0
           try clear hx108_0
           try clear hx110_0
           try clear hx112_0
           try clear hx114_0
           try clear p1
           try clear p10
           try clear p102
           try clear p104
           try clear p106
           try clear p108
           try clear p11
           try clear p110
           try clear p112
           try clear p114
           try clear p2
           try clear p6
           try clear q1
           try clear q10
           try clear q102
           try clear q104
           try clear q106
           try clear q108
           try clear q11
           try clear q110
           try clear q112
           try clear q114
           obtain ⟨x7_4, rfl, HA, HK4, BK101, HB⟩ := hrel
           cases gk with
           | zero => exact absurd HA.out (by simp [spec_LatOk.l4])
           | succ k4 =>
            have H := HA.out
            clear HA
            simp only [spec_LatOk.l4] at H
            by_cases c55 : x7_4 < x6_3
            ·rw [if_pos c55] at H
             have c55b0 : decide (x7_4 < x6_3) = true := decide_eq_true c55
             clear c55
             replace H := Option.bind_eq_some_iff.mp H
             obtain ⟨t116, A560, H⟩ := H
             replace H : (if t116 < 0 then (some false) else ((spec_l01Bound.f k4 a0_0 l0_1 x6_3 x7_4 false).bind fun t117 => (if t117 < 0 then (some false) else (spec_LatOk.l4 k4 x6_3 (wrap64 (x7_4 + 1)) a0_0 l0_1)))) = some r := H
             have A56 := Aside0.mk A560
             clear A560
             by_cases c57 : t116 < 0
             ·rw [if_pos c57] at H
              have c57b0 : decide (t116 < 0) = true := decide_eq_true c57
              clear c57
              obtain rfl := Option.some.inj H
              have hcz58_0 : wr.cell? ⟨gb101, 0, none⟩ = some (.int .i64 a0_0) := (blk_cell BK101.out 0).trans rfl
              have hcz58_1 : wr.cell? ⟨gb101, 1, none⟩ = some (.slice A0_1 l0_1.length c0_1) := (blk_cell BK101.out 1).trans rfl
              have hfz58_0 := blk_frozen BK101.out 0
              have hfz58_1 := blk_frozen BK101.out 1
              go_wp2_with (first | (go_at_call 122; (with_reducible refine (spec_l01Bound.calls k4 a0_0 _ _ l0_1 x6_3 x7_4 true t116 _ ?side1 ?side2 A56.out).mono ?_); (case side1 => exact qz17 HR0_1.out); (case side2 => exact HC0_1.out); rintro e w59 ⟨rfl, hb⟩; have n0_ := Aside0.mk (blk_below (g := gb101) (o := .cells #[.int .i64 a0_0, .slice A0_1 l0_1.length c0_1] 47 (0, 0)) (qz8 BK101.out) hb); have n1_ := Aside0.mk (below_step (qz10 GE101.out) hb); clear BK101; clear HB; have BK101 := n0_; have HB := n1_; clear n0_ n1_; (try clear hb); (try clear hb2); (try clear hk); (try clear hi)))
              repeat (go_quiet (first | (go_at_call 122; (with_reducible refine (spec_l01Bound.calls k4 a0_0 _ _ l0_1 x6_3 x7_4 true t116 _ ?side1 ?side2 A56.out).mono ?_); (case side1 => exact qz17 HR0_1.out); (case side2 => exact HC0_1.out); rintro e w59 ⟨rfl, hb⟩; have n0_ := Aside0.mk (blk_below (g := gb101) (o := .cells #[.int .i64 a0_0, .slice A0_1 l0_1.length c0_1] 47 (0, 0)) (qz8 BK101.out) hb); have n1_ := Aside0.mk (below_step (qz10 GE101.out) hb); clear BK101; clear HB; have BK101 := n0_; have HB := n1_; clear n0_ n1_; (try clear hb); (try clear hb2); (try clear hk); (try clear hi))); try go_wp2_with (first | (go_at_call 122; (with_reducible refine (spec_l01Bound.calls k4 a0_0 _ _ l0_1 x6_3 x7_4 true t116 _ ?side1 ?side2 A56.out).mono ?_); (case side1 => exact qz17 HR0_1.out); (case side2 => exact HC0_1.out); rintro e w59 ⟨rfl, hb⟩; have n0_ := Aside0.mk (blk_below (g := gb101) (o := .cells #[.int .i64 a0_0, .slice A0_1 l0_1.length c0_1] 47 (0, 0)) (qz8 BK101.out) hb); have n1_ := Aside0.mk (below_step (qz10 GE101.out) hb); clear BK101; clear HB; have BK101 := n0_; have HB := n1_; clear n0_ n1_; (try clear hb); (try clear hb2); (try clear hk); (try clear hi))))
              go_ret
              exact ⟨qz13, qz10 GE101.out⟩
             ·rw [if_neg c57] at H
              have c57b0 : decide (t116 < 0) = false := decide_eq_false c57
              clear c57
              replace H := Option.bind_eq_some_iff.mp H
              obtain ⟨t117, A600, H⟩ := H
              replace H : (if t117 < 0 then (some false) else (spec_LatOk.l4 k4 x6_3 (wrap64 (x7_4 + 1)) a0_0 l0_1)) = some r := H
              have A60 := Aside0.mk A600
              clear A600
              by_cases c61 : t117 < 0
              ·rw [if_pos c61] at H
               have c61b0 : decide (t117 < 0) = true := decide_eq_true c61
               clear c61
               obtain rfl := Option.some.inj H
               have hcz62_0 : wr.cell? ⟨gb101, 0, none⟩ = some (.int .i64 a0_0) := (blk_cell BK101.out 0).trans rfl
               have hcz62_1 : wr.cell? ⟨gb101, 1, none⟩ = some (.slice A0_1 l0_1.length c0_1) := (blk_cell BK101.out 1).trans rfl
               have hfz62_0 := blk_frozen BK101.out 0
               have hfz62_1 := blk_frozen BK101.out 1
               go_wp2_with (first | (go_at_call 122; (with_reducible refine (spec_l01Bound.calls k4 a0_0 _ _ l0_1 x6_3 x7_4 true t116 _ ?side1 ?side2 A56.out).mono ?_); (case side1 => exact qz17 HR0_1.out); (case side2 => exact HC0_1.out); rintro e w63 ⟨rfl, hb⟩; have n0_ := Aside0.mk (blk_below (g := gb101) (o := .cells #[.int .i64 a0_0, .slice A0_1 l0_1.length c0_1] 47 (0, 0)) (qz8 BK101.out) hb); have n1_ := Aside0.mk (below_step (qz10 GE101.out) hb); clear BK101; clear HB; have BK101 := n0_; have HB := n1_; clear n0_ n1_; (try clear hb); (try clear hb2); (try clear hk); (try clear hi); have hcz64_0 : w63.cell? ⟨gb101, 0, none⟩ = some (.int .i64 a0_0) := (blk_cell BK101.out 0).trans rfl; have hcz64_1 : w63.cell? ⟨gb101, 1, none⟩ = some (.slice A0_1 l0_1.length c0_1) := (blk_cell BK101.out 1).trans rfl; have hfz64_0 := blk_frozen BK101.out 0; have hfz64_1 := blk_frozen BK101.out 1) | (go_at_call 122; (with_reducible refine (spec_l01Bound.calls k4 a0_0 _ _ l0_1 x6_3 x7_4 false t117 _ ?side1 ?side2 A60.out).mono ?_); (case side1 => exact qz17 HR0_1.out); (case side2 => exact HC0_1.out); rintro e w65 ⟨rfl, hb⟩; have n0_ := Aside0.mk (blk_below (g := gb101) (o := .cells #[.int .i64 a0_0, .slice A0_1 l0_1.length c0_1] 47 (0, 0)) (qz8 BK101.out) hb); have n1_ := Aside0.mk (below_step (qz10 GE101.out) hb); clear BK101; clear HB; have BK101 := n0_; have HB := n1_; clear n0_ n1_; (try clear hb); (try clear hb2); (try clear hk); (try clear hi)))
               repeat (go_quiet (first | (go_at_call 122; (with_reducible refine (spec_l01Bound.calls k4 a0_0 _ _ l0_1 x6_3 x7_4 true t116 _ ?side1 ?side2 A56.out).mono ?_); (case side1 => exact qz17 HR0_1.out); (case side2 => exact HC0_1.out); rintro e w63 ⟨rfl, hb⟩; have n0_ := Aside0.mk (blk_below (g := gb101) (o := .cells #[.int .i64 a0_0, .slice A0_1 l0_1.length c0_1] 47 (0, 0)) (qz8 BK101.out) hb); have n1_ := Aside0.mk (below_step (qz10 GE101.out) hb); clear BK101; clear HB; have BK101 := n0_; have HB := n1_; clear n0_ n1_; (try clear hb); (try clear hb2); (try clear hk); (try clear hi); have hcz64_0 : w63.cell? ⟨gb101, 0, none⟩ = some (.int .i64 a0_0) := (blk_cell BK101.out 0).trans rfl; have hcz64_1 : w63.cell? ⟨gb101, 1, none⟩ = some (.slice A0_1 l0_1.length c0_1) := (blk_cell BK101.out 1).trans rfl; have hfz64_0 := blk_frozen BK101.out 0; have hfz64_1 := blk_frozen BK101.out 1) | (go_at_call 122; (with_reducible refine (spec_l01Bound.calls k4 a0_0 _ _ l0_1 x6_3 x7_4 false t117 _ ?side1 ?side2 A60.out).mono ?_); (case side1 => exact qz17 HR0_1.out); (case side2 => exact HC0_1.out); rintro e w65 ⟨rfl, hb⟩; have n0_ := Aside0.mk (blk_below (g := gb101) (o := .cells #[.int .i64 a0_0, .slice A0_1 l0_1.length c0_1] 47 (0, 0)) (qz8 BK101.out) hb); have n1_ := Aside0.mk (below_step (qz10 GE101.out) hb); clear BK101; clear HB; have BK101 := n0_; have HB := n1_; clear n0_ n1_; (try clear hb); (try clear hb2); (try clear hk); (try clear hi))); try go_wp2_with (first | (go_at_call 122; (with_reducible refine (spec_l01Bound.calls k4 a0_0 _ _ l0_1 x6_3 x7_4 true t116 _ ?side1 ?side2 A56.out).mono ?_); (case side1 => exact qz17 HR0_1.out); (case side2 => exact HC0_1.out); rintro e w63 ⟨rfl, hb⟩; have n0_ := Aside0.mk (blk_below (g := gb101) (o := .cells #[.int .i64 a0_0, .slice A0_1 l0_1.length c0_1] 47 (0, 0)) (qz8 BK101.out) hb); have n1_ := Aside0.mk (below_step (qz10 GE101.out) hb); clear BK101; clear HB; have BK101 := n0_; have HB := n1_; clear n0_ n1_; (try clear hb); (try clear hb2); (try clear hk); (try clear hi); have hcz64_0 : w63.cell? ⟨gb101, 0, none⟩ = some (.int .i64 a0_0) := (blk_cell BK101.out 0).trans rfl; have hcz64_1 : w63.cell? ⟨gb101, 1, none⟩ = some (.slice A0_1 l0_1.length c0_1) := (blk_cell BK101.out 1).trans rfl; have hfz64_0 := blk_frozen BK101.out 0; have hfz64_1 := blk_frozen BK101.out 1) | (go_at_call 122; (with_reducible refine (spec_l01Bound.calls k4 a0_0 _ _ l0_1 x6_3 x7_4 false t117 _ ?side1 ?side2 A60.out).mono ?_); (case side1 => exact qz17 HR0_1.out); (case side2 => exact HC0_1.out); rintro e w65 ⟨rfl, hb⟩; have n0_ := Aside0.mk (blk_below (g := gb101) (o := .cells #[.int .i64 a0_0, .slice A0_1 l0_1.length c0_1] 47 (0, 0)) (qz8 BK101.out) hb); have n1_ := Aside0.mk (below_step (qz10 GE101.out) hb); clear BK101; clear HB; have BK101 := n0_; have HB := n1_; clear n0_ n1_; (try clear hb); (try clear hb2); (try clear hk); (try clear hi))))
               go_ret
               exact ⟨qz13, qz10 GE101.out⟩
              ·rw [if_neg c61] at H
               have c61b0 : decide (t117 < 0) = false := decide_eq_false c61
               clear c61
               have H' := Aside0.mk H
               clear H
               have hcz66_0 : wr.cell? ⟨gb101, 0, none⟩ = some (.int .i64 a0_0) := (blk_cell BK101.out 0).trans rfl
               have hcz66_1 : wr.cell? ⟨gb101, 1, none⟩ = some (.slice A0_1 l0_1.length c0_1) := (blk_cell BK101.out 1).trans rfl
               have hfz66_0 := blk_frozen BK101.out 0
               have hfz66_1 := blk_frozen BK101.out 1
               go_wp2_with (first | (go_at_call 122; (with_reducible refine (spec_l01Bound.calls k4 a0_0 _ _ l0_1 x6_3 x7_4 true t116 _ ?side1 ?side2 A56.out).mono ?_); (case side1 => exact qz17 HR0_1.out); (case side2 => exact HC0_1.out); rintro e w67 ⟨rfl, hb⟩; have n0_ := Aside0.mk (blk_below (g := gb101) (o := .cells #[.int .i64 a0_0, .slice A0_1 l0_1.length c0_1] 47 (0, 0)) (qz8 BK101.out) hb); have n1_ := Aside0.mk (below_step (qz10 GE101.out) hb); clear BK101; clear HB; have BK101 := n0_; have HB := n1_; clear n0_ n1_; (try clear hb); (try clear hb2); (try clear hk); (try clear hi); have hcz68_0 : w67.cell? ⟨gb101, 0, none⟩ = some (.int .i64 a0_0) := (blk_cell BK101.out 0).trans rfl; have hcz68_1 : w67.cell? ⟨gb101, 1, none⟩ = some (.slice A0_1 l0_1.length c0_1) := (blk_cell BK101.out 1).trans rfl; have hfz68_0 := blk_frozen BK101.out 0; have hfz68_1 := blk_frozen BK101.out 1) | (go_at_call 122; (with_reducible refine (spec_l01Bound.calls k4 a0_0 _ _ l0_1 x6_3 x7_4 false t117 _ ?side1 ?side2 A60.out).mono ?_); (case side1 => exact qz17 HR0_1.out); (case side2 => exact HC0_1.out); rintro e w69 ⟨rfl, hb⟩; have n0_ := Aside0.mk (blk_below (g := gb101) (o := .cells #[.int .i64 a0_0, .slice A0_1 l0_1.length c0_1] 47 (0, 0)) (qz8 BK101.out) hb); have n1_ := Aside0.mk (below_step (qz10 GE101.out) hb); clear BK101; clear HB; have BK101 := n0_; have HB := n1_; clear n0_ n1_; (try clear hb); (try clear hb2); (try clear hk); (try clear hi)))
               repeat (go_quiet (first | (go_at_call 122; (with_reducible refine (spec_l01Bound.calls k4 a0_0 _ _ l0_1 x6_3 x7_4 true t116 _ ?side1 ?side2 A56.out).mono ?_); (case side1 => exact qz17 HR0_1.out); (case side2 => exact HC0_1.out); rintro e w67 ⟨rfl, hb⟩; have n0_ := Aside0.mk (blk_below (g := gb101) (o := .cells #[.int .i64 a0_0, .slice A0_1 l0_1.length c0_1] 47 (0, 0)) (qz8 BK101.out) hb); have n1_ := Aside0.mk (below_step (qz10 GE101.out) hb); clear BK101; clear HB; have BK101 := n0_; have HB := n1_; clear n0_ n1_; (try clear hb); (try clear hb2); (try clear hk); (try clear hi); have hcz68_0 : w67.cell? ⟨gb101, 0, none⟩ = some (.int .i64 a0_0) := (blk_cell BK101.out 0).trans rfl; have hcz68_1 : w67.cell? ⟨gb101, 1, none⟩ = some (.slice A0_1 l0_1.length c0_1) := (blk_cell BK101.out 1).trans rfl; have hfz68_0 := blk_frozen BK101.out 0; have hfz68_1 := blk_frozen BK101.out 1) | (go_at_call 122; (with_reducible refine (spec_l01Bound.calls k4 a0_0 _ _ l0_1 x6_3 x7_4 false t117 _ ?side1 ?side2 A60.out).mono ?_); (case side1 => exact qz17 HR0_1.out); (case side2 => exact HC0_1.out); rintro e w69 ⟨rfl, hb⟩; have n0_ := Aside0.mk (blk_below (g := gb101) (o := .cells #[.int .i64 a0_0, .slice A0_1 l0_1.length c0_1] 47 (0, 0)) (qz8 BK101.out) hb); have n1_ := Aside0.mk (below_step (qz10 GE101.out) hb); clear BK101; clear HB; have BK101 := n0_; have HB := n1_; clear n0_ n1_; (try clear hb); (try clear hb2); (try clear hk); (try clear hi))); try go_wp2_with (first | (go_at_call 122; (with_reducible refine (spec_l01Bound.calls k4 a0_0 _ _ l0_1 x6_3 x7_4 true t116 _ ?side1 ?side2 A56.out).mono ?_); (case side1 => exact qz17 HR0_1.out); (case side2 => exact HC0_1.out); rintro e w67 ⟨rfl, hb⟩; have n0_ := Aside0.mk (blk_below (g := gb101) (o := .cells #[.int .i64 a0_0, .slice A0_1 l0_1.length c0_1] 47 (0, 0)) (qz8 BK101.out) hb); have n1_ := Aside0.mk (below_step (qz10 GE101.out) hb); clear BK101; clear HB; have BK101 := n0_; have HB := n1_; clear n0_ n1_; (try clear hb); (try clear hb2); (try clear hk); (try clear hi); have hcz68_0 : w67.cell? ⟨gb101, 0, none⟩ = some (.int .i64 a0_0) := (blk_cell BK101.out 0).trans rfl; have hcz68_1 : w67.cell? ⟨gb101, 1, none⟩ = some (.slice A0_1 l0_1.length c0_1) := (blk_cell BK101.out 1).trans rfl; have hfz68_0 := blk_frozen BK101.out 0; have hfz68_1 := blk_frozen BK101.out 1) | (go_at_call 122; (with_reducible refine (spec_l01Bound.calls k4 a0_0 _ _ l0_1 x6_3 x7_4 false t117 _ ?side1 ?side2 A60.out).mono ?_); (case side1 => exact qz17 HR0_1.out); (case side2 => exact HC0_1.out); rintro e w69 ⟨rfl, hb⟩; have n0_ := Aside0.mk (blk_below (g := gb101) (o := .cells #[.int .i64 a0_0, .slice A0_1 l0_1.length c0_1] 47 (0, 0)) (qz8 BK101.out) hb); have n1_ := Aside0.mk (below_step (qz10 GE101.out) hb); clear BK101; clear HB; have BK101 := n0_; have HB := n1_; clear n0_ n1_; (try clear hb); (try clear hb2); (try clear hk); (try clear hi))))
               go_roundg k4
               case measure => have := HJ1.out; have := HK2.out; have := HK3.out; have := HK4.out; omega
               case rel => exact ⟨(wrap64 (x7_4 + 1)), qz2, H', ⟨qz32 HJ1.out HK2.out HK3.out HK4.out⟩, ⟨qz8 BK101.out⟩, ⟨qz10 GE101.out⟩⟩
            ·rw [if_neg c55] at H
             have c55b0 : decide (x7_4 < x6_3) = false := decide_eq_false c55
             clear c55
             have H' := Aside0.mk H
             clear H
             go_wp2
             repeat (go_quiet (fail); try go_wp2)
             go_roundg k4
             case measure => have := HJ1.out; have := HK2.out; have := HK3.out; have := HK4.out; omega
             case rel => exact ⟨(wrap64 (x6_3 + 1)), qz2, H', ⟨qz32 HJ1.out HK2.out HK3.out HK4.out⟩, ⟨qz8 BK101.out⟩, ⟨qz10 GE101.out⟩⟩
         ·rw [if_neg c53] at H
          have c53b0 : decide (x6_3 < a0_0) = false := decide_eq_false c53
          clear c53
          obtain rfl := Option.some.inj H
          have hcz70_0 : wr.cell? ⟨gb101, 0, none⟩ = some (.int .i64 a0_0) := (blk_cell BK101.out 0).trans rfl
          have hcz70_1 : wr.cell? ⟨gb101, 1, none⟩ = some (.slice A0_1 l0_1.length c0_1) := (blk_cell BK101.out 1).trans rfl
          have hfz70_0 := blk_frozen BK101.out 0
          have hfz70_1 := blk_frozen BK101.out 1
          go_wp2
          repeat (go_quiet (fail); try go_wp2)
          go_ret
          exact ⟨qz13, qz10 GE101.out⟩

end Go.Proofs.Ytjhfjnknajhanaa.P
