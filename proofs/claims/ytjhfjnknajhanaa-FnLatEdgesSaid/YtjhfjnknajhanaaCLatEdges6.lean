/- Part 6 of 9 of the proof of FnLatEdges: functions on lists and numbers, contracts of Go functions, plain lemmas. -/
import Derived.Test.YtjhfjnknajhanaaCLatEdges5
namespace Go.Proofs.Ytjhfjnknajhanaa.P
open Go.RowKit Go.Proofs.YtjhfjnknajhanaaW.PrintWords Go.Proofs.YtjhfjnknajhanaaW.PrintLast Go.Proofs.YtjhfjnknajhanaaW.PrintMore
attribute [local go_sem] max2_int min2_int max_two min_two max_three min_three max_four min_four   -- for this text's walks alone
set_option linter.unusedVariables false
set_option linter.unusedSimpArgs false

/-! ### impl_Lat_isOrder: function 211 -/
set_option maxHeartbeats 8000000 in
set_option maxRecDepth 100000 in
theorem impl_Lat_isOrder.calls (k : Nat) (a0_0 : Int) (A0_1 : Option Addr) (c0_1 : Nat) (l0_1 : List Int) (r : Bool) (w : World) (hr0_1 : Kd.C (Kd.int .u64) w A0_1 l0_1.length l0_1) (hc0_1 : l0_1.length ≤ c0_1) (h : impl_Lat_isOrder.f k a0_0 l0_1 = some r) :
  Calls Try.prog 211 #[.agg #[.int .i64 a0_0, .slice A0_1 l0_1.length c0_1]] w fun e w' => e = .returned (.bool r) ∧ Below w.heap.size w w' := by
 have hu47 := Try.underlying47
 have HR0_1 := Aside0.mk hr0_1
 have HC0_1 := Aside0.mk hc0_1
 clear hr0_1 hc0_1
 have HB := Aside0.mk (Below.refl w.heap.size w)
 have H : (impl_Lat_isOrder.l0 k a0_0 0 a0_0 l0_1) = some r := h
 clear h
 have H' := Aside0.mk H
 clear H
 go_enter Try.func211, Try.ntmps211
 go_wp2_with (first | ((with_reducible refine gate_dst (N := 1) rfl ?_); refine box_event ?hg (N := 1) ?hd (cs := #[.int .i64 a0_0, .slice A0_1 l0_1.length c0_1]) (t := 47) ?hr ?_; (case hd => rfl); (case hg => rfl); (case hr => exact qz5); intro gb101 hg w2 hbox hb; have n0_ := Aside0.mk (below_step qz6 hb); have n1_ := Aside0.mk (hbox); have n2_ := Aside0.mk ((qz7 : w.heap.size ≤ gb101)); have n3_ := Aside0.mk ((qz7 : w.heap.size ≤ gb101)); clear HB; have HB := n0_; have BK101 := n1_; have GW101 := n2_; have GE101 := n3_; clear n0_ n1_ n2_ n3_; clear hb hbox hg; have hcz3_0 : w2.cell? ⟨gb101, 0, none⟩ = some (.int .i64 a0_0) := (blk_cell BK101.out 0).trans rfl; have hcz3_1 : w2.cell? ⟨gb101, 1, none⟩ = some (.slice A0_1 l0_1.length c0_1) := (blk_cell BK101.out 1).trans rfl; have hfz3_0 := blk_frozen BK101.out 0; have hfz3_1 := blk_frozen BK101.out 1))
 go_loopg [8] k (fun kq v8 w' => ∃ (x8_1 : Int), v8 = .int .i64 x8_1 ∧ Aside0 (impl_Lat_isOrder.l0 kq a0_0 x8_1 a0_0 l0_1 = some r) ∧ Aside0 (kq ≤ k) ∧ Aside0 (w'.heap[gb101]? = some (.cells #[.int .i64 a0_0, (.slice A0_1 l0_1.length c0_1)] 47 (0, 0))) ∧ Aside0 (Below w.heap.size w w'))
 case atStart => exact ⟨(0), qz2, H', ⟨Nat.le_refl _⟩, ⟨qz8 BK101.out⟩, ⟨qz10 GE101.out⟩⟩
 case round =>
  clear H'
  try clear c2
  try clear p2
  try clear hcz3_0
  try clear hcz3_1
  try clear hfz3_0
  try clear hfz3_1
  obtain ⟨x8_1, rfl, HA, HK1, BK101, HB⟩ := hrel
  cases gk with
  | zero => exact absurd HA.out (by simp [impl_Lat_isOrder.l0])
  | succ k1 =>
   have H := HA.out
   clear HA
   simp only [impl_Lat_isOrder.l0] at H
   by_cases c4 : x8_1 < a0_0
   ·rw [if_pos c4] at H
    have c4b0 : decide (x8_1 < a0_0) = true := decide_eq_true c4
    clear c4
    replace H := Option.bind_eq_some_iff.mp H
    obtain ⟨t102, A50, H⟩ := H
    replace H : (if t102 = true then (impl_Lat_isOrder.l1 k1 x8_1 a0_0 x8_1 a0_0 0 a0_0 l0_1) else (some false)) = some r := H
    have A5 := Aside0.mk A50
    clear A50
    by_cases c6 : t102 = true
    ·subst c6
     have H1 : (impl_Lat_isOrder.l1 k1 x8_1 a0_0 x8_1 a0_0 0 a0_0 l0_1) = some r := by rw [if_pos rfl] at H; exact H
     clear H
     have H := H1
     clear H1
     have H' := Aside0.mk H
     clear H
     have hcz7_0 : wr.cell? ⟨gb101, 0, none⟩ = some (.int .i64 a0_0) := (blk_cell BK101.out 0).trans rfl
     have hcz7_1 : wr.cell? ⟨gb101, 1, none⟩ = some (.slice A0_1 l0_1.length c0_1) := (blk_cell BK101.out 1).trans rfl
     have hfz7_0 := blk_frozen BK101.out 0
     have hfz7_1 := blk_frozen BK101.out 1
     go_wp2_with (first | ((with_reducible refine gate_callee (f := 119) rfl ?_); refine goesL_ (some 14) rfl rfl Try.func119 (by kernel_rfl) rfl #[.agg #[.int .i64 a0_0, .slice A0_1 l0_1.length c0_1], .int .i64 x8_1, .int .i64 x8_1] rfl qz1 ?_; (with_reducible refine (impl_Lat_le.calls a0_0 _ _ l0_1 x8_1 x8_1 true _ ?side1 ?side2 A5.out).mono ?_); (case side1 => exact qz17 HR0_1.out); (case side2 => exact HC0_1.out); rintro e w8 ⟨rfl, hb⟩; refine ⟨_, rfl, ?_⟩; have n0_ := Aside0.mk (blk_below (g := gb101) (o := .cells #[.int .i64 a0_0, .slice A0_1 l0_1.length c0_1] 47 (0, 0)) (qz8 BK101.out) hb); have n1_ := Aside0.mk (below_step (qz10 GE101.out) hb); clear BK101; clear HB; have BK101 := n0_; have HB := n1_; clear n0_ n1_; (try clear hb); (try clear hb2); (try clear hk); (try clear hi); have hcz9_0 : w8.cell? ⟨gb101, 0, none⟩ = some (.int .i64 a0_0) := (blk_cell BK101.out 0).trans rfl; have hcz9_1 : w8.cell? ⟨gb101, 1, none⟩ = some (.slice A0_1 l0_1.length c0_1) := (blk_cell BK101.out 1).trans rfl; have hfz9_0 := blk_frozen BK101.out 0; have hfz9_1 := blk_frozen BK101.out 1))
     go_loopg [18] k1 (fun kq v18 w' => ∃ (x18_2 : Int), v18 = .int .i64 x18_2 ∧ Aside0 (impl_Lat_isOrder.l1 kq x8_1 a0_0 x8_1 a0_0 x18_2 a0_0 l0_1 = some r) ∧ Aside0 (kq ≤ k1) ∧ Aside0 (w'.heap[gb101]? = some (.cells #[.int .i64 a0_0, (.slice A0_1 l0_1.length c0_1)] 47 (0, 0))) ∧ Aside0 (Below w.heap.size w w'))
     case atStart => exact ⟨(0), qz2, H', ⟨Nat.le_refl _⟩, ⟨qz8 BK101.out⟩, ⟨qz10 GE101.out⟩⟩
     case round =>
      clear H'
      try clear c1
      try clear c2
      try clear p2
      try clear c4
      try clear c4b0
      try clear c6
      try clear hcz3_0
      try clear hcz3_1
      try clear hcz7_0
      try clear hcz7_1
      try clear hcz9_0
      try clear hcz9_1
      try clear hfz3_0
      try clear hfz3_1
      try clear hfz7_0
      try clear hfz7_1
      try clear hfz9_0
      try clear hfz9_1
      try clear p2
      obtain ⟨x18_2, rfl, HA, HK2, BK101, HB⟩ := hrel
      cases gk with
      | zero => exact absurd HA.out (by simp [impl_Lat_isOrder.l1])
      | succ k2 =>
       have H := HA.out
       clear HA
       simp only [impl_Lat_isOrder.l1] at H
       by_cases c10 : x18_2 < a0_0
       ·rw [if_pos c10] at H
        have c10b0 : decide (x18_2 < a0_0) = true := decide_eq_true c10
        clear c10
        have HC11 := Aside0.mk H
        clear H
        go_upto_region 9 with (fail)
        go_cut [35] (fun v35 wc => ∃ (kq : Nat) (x35_10 : Bool), v35 = .bool x35_10 ∧ Aside0 (impl_Lat_isOrder.j2 kq x8_1 x18_2 a0_0 x8_1 a0_0 x18_2 x35_10 a0_0 l0_1 = some r) ∧ Aside0 (kq ≤ k2) ∧ Aside0 (wc.heap[gb101]? = some (.cells #[.int .i64 a0_0, (.slice A0_1 l0_1.length c0_1)] 47 (0, 0))) ∧ Aside0 (Below w.heap.size w wc))
        case first =>
         have H := HC11.out
         clear HC11
         by_cases c12 : x8_1 = x18_2
         ·rw [if_pos c12] at H
          have c12b0 : (x8_1 == x18_2) = true := beq_iff_eq.mpr c12
          have c12b1 : (x8_1 != x18_2) = false := bne_eq_false_iff_eq.mpr c12
          clear c12
          (first | rw [c12b0] | (simp only [i64_w, i32_w]; rw [c12b0]) | skip)
          have H' := Aside0.mk H
          clear H
          go_wp2
          go_meet
          case rel => exact ⟨_, (false), qz2, H', ⟨qz30 HK1.out HK2.out⟩, ⟨qz8 BK101.out⟩, ⟨qz10 GE101.out⟩⟩
         ·rw [if_neg c12] at H
          have c12b0 : (x8_1 == x18_2) = false := beq_eq_false_iff_ne.mpr c12
          have c12b1 : (x8_1 != x18_2) = true := bne_iff_ne.mpr c12
          (first | rw [c12b0] | (simp only [i64_w, i32_w]; rw [c12b0]) | skip)
          replace H := Option.bind_eq_some_iff.mp H
          obtain ⟨t103, A130, H⟩ := H
          replace H : (if t103 = true then ((impl_Lat_le.f a0_0 l0_1 x18_2 x8_1).bind fun t104 => (impl_Lat_isOrder.j2 k2 x8_1 x18_2 a0_0 x8_1 a0_0 x18_2 t104 a0_0 l0_1)) else (impl_Lat_isOrder.j2 k2 x8_1 x18_2 a0_0 x8_1 a0_0 x18_2 false a0_0 l0_1)) = some r := H
          have A13 := Aside0.mk A130
          clear A130
          by_cases c14 : t103 = true
          ·subst c14
           have H1 : ((impl_Lat_le.f a0_0 l0_1 x18_2 x8_1).bind fun t104 => (impl_Lat_isOrder.j2 k2 x8_1 x18_2 a0_0 x8_1 a0_0 x18_2 t104 a0_0 l0_1)) = some r := by rw [if_pos rfl] at H; exact H
           clear H
           have H := H1
           clear H1
           replace H := Option.bind_eq_some_iff.mp H
           obtain ⟨t104, A150, H⟩ := H
           replace H : (impl_Lat_isOrder.j2 k2 x8_1 x18_2 a0_0 x8_1 a0_0 x18_2 t104 a0_0 l0_1) = some r := H
           have A15 := Aside0.mk A150
           clear A150
           have H' := Aside0.mk H
           clear H
           have hcz16_0 : wr.cell? ⟨gb101, 0, none⟩ = some (.int .i64 a0_0) := (blk_cell BK101.out 0).trans rfl
           have hcz16_1 : wr.cell? ⟨gb101, 1, none⟩ = some (.slice A0_1 l0_1.length c0_1) := (blk_cell BK101.out 1).trans rfl
           have hfz16_0 := blk_frozen BK101.out 0
           have hfz16_1 := blk_frozen BK101.out 1
           go_wp2_with (first | (go_at_call 119; (with_reducible refine (impl_Lat_le.calls a0_0 _ _ l0_1 x8_1 x18_2 true _ ?side1 ?side2 A13.out).mono ?_); (case side1 => exact qz17 HR0_1.out); (case side2 => exact HC0_1.out); rintro e w17 ⟨rfl, hb⟩; have n0_ := Aside0.mk (blk_below (g := gb101) (o := .cells #[.int .i64 a0_0, .slice A0_1 l0_1.length c0_1] 47 (0, 0)) (qz8 BK101.out) hb); have n1_ := Aside0.mk (below_step (qz10 GE101.out) hb); clear BK101; clear HB; have BK101 := n0_; have HB := n1_; clear n0_ n1_; (try clear hb); (try clear hb2); (try clear hk); (try clear hi); have hcz18_0 : w17.cell? ⟨gb101, 0, none⟩ = some (.int .i64 a0_0) := (blk_cell BK101.out 0).trans rfl; have hcz18_1 : w17.cell? ⟨gb101, 1, none⟩ = some (.slice A0_1 l0_1.length c0_1) := (blk_cell BK101.out 1).trans rfl; have hfz18_0 := blk_frozen BK101.out 0; have hfz18_1 := blk_frozen BK101.out 1) | (go_at_call 119; (with_reducible refine (impl_Lat_le.calls a0_0 _ _ l0_1 x18_2 x8_1 t104 _ ?side1 ?side2 A15.out).mono ?_); (case side1 => exact qz17 HR0_1.out); (case side2 => exact HC0_1.out); rintro e w19 ⟨rfl, hb⟩; have n0_ := Aside0.mk (blk_below (g := gb101) (o := .cells #[.int .i64 a0_0, .slice A0_1 l0_1.length c0_1] 47 (0, 0)) (qz8 BK101.out) hb); have n1_ := Aside0.mk (below_step (qz10 GE101.out) hb); clear BK101; clear HB; have BK101 := n0_; have HB := n1_; clear n0_ n1_; (try clear hb); (try clear hb2); (try clear hk); (try clear hi)))
           go_meet
           case rel => exact ⟨_, (t104), qz2, H', ⟨qz30 HK1.out HK2.out⟩, ⟨qz8 BK101.out⟩, ⟨qz10 GE101.out⟩⟩
          ·replace c14 := Bool.eq_false_iff.mpr c14
           subst c14
           have H1 : (impl_Lat_isOrder.j2 k2 x8_1 x18_2 a0_0 x8_1 a0_0 x18_2 false a0_0 l0_1) = some r := by rw [if_neg (show ¬ (false = true) by decide)] at H; exact H
           clear H
           have H := H1
           clear H1
           have H' := Aside0.mk H
           clear H
           have hcz20_0 : wr.cell? ⟨gb101, 0, none⟩ = some (.int .i64 a0_0) := (blk_cell BK101.out 0).trans rfl
           have hcz20_1 : wr.cell? ⟨gb101, 1, none⟩ = some (.slice A0_1 l0_1.length c0_1) := (blk_cell BK101.out 1).trans rfl
           have hfz20_0 := blk_frozen BK101.out 0
           have hfz20_1 := blk_frozen BK101.out 1
           go_wp2_with (first | (go_at_call 119; (with_reducible refine (impl_Lat_le.calls a0_0 _ _ l0_1 x8_1 x18_2 false _ ?side1 ?side2 A13.out).mono ?_); (case side1 => exact qz17 HR0_1.out); (case side2 => exact HC0_1.out); rintro e w21 ⟨rfl, hb⟩; have n0_ := Aside0.mk (blk_below (g := gb101) (o := .cells #[.int .i64 a0_0, .slice A0_1 l0_1.length c0_1] 47 (0, 0)) (qz8 BK101.out) hb); have n1_ := Aside0.mk (below_step (qz10 GE101.out) hb); clear BK101; clear HB; have BK101 := n0_; have HB := n1_; clear n0_ n1_; (try clear hb); (try clear hb2); (try clear hk); (try clear hi)))
           go_meet
           case rel => exact ⟨_, (false), qz2, H', ⟨qz30 HK1.out HK2.out⟩, ⟨qz8 BK101.out⟩, ⟨qz10 GE101.out⟩⟩
        case rest =>
         clear HC11
         try clear c1
         try clear c2
         try clear p2
         try clear c4
         try clear c4b0
         try clear c6
         try clear c10
         try clear c10b0
         try clear c11
         try clear c12
         try clear c12b0
         try clear c12b1
         try clear c14
         try clear c21
         try clear hcz16_0
         try clear hcz16_1
         try clear hcz18_0
         try clear hcz18_1
         try clear hcz20_0
         try clear hcz20_1
         try clear hcz3_0
         try clear hcz3_1
         try clear hcz7_0
         try clear hcz7_1
         try clear hcz9_0
         try clear hcz9_1
         try clear hfz16_0
         try clear hfz16_1
         try clear hfz18_0
         try clear hfz18_1
         try clear hfz20_0
         try clear hfz20_1
         try clear hfz3_0
         try clear hfz3_1
         try clear hfz7_0
         try clear hfz7_1
         try clear hfz9_0
         try clear hfz9_1
         try clear p2
         obtain ⟨kq, x35_10, rfl, HA, HJ10, BK101, HB⟩ := hcut
         cases kq with
         | zero => exact absurd HA.out (by simp [impl_Lat_isOrder.j2])
         | succ kj10 =>
          have H := HA.out
          clear HA
          simp only [impl_Lat_isOrder.j2] at H
          by_cases c22 : x35_10 = true
          ·subst c22
           have H1 : (some false) = some r := by rw [if_pos rfl] at H; exact H
           clear H
           have H := H1
           clear H1
           obtain rfl := Option.some.inj H
           go_wp2
           go_ret
           exact ⟨qz13, qz10 GE101.out⟩
          ·replace c22 := Bool.eq_false_iff.mpr c22
           subst c22
           have H1 : (impl_Lat_isOrder.l2 kj10 x8_1 x18_2 a0_0 x8_1 a0_0 x18_2 a0_0 0 a0_0 l0_1) = some r := by rw [if_neg (show ¬ (false = true) by decide)] at H; exact H
           clear H
           have H := H1
           clear H1
           have H' := Aside0.mk H
           clear H
           have hcz23_0 : wc.cell? ⟨gb101, 0, none⟩ = some (.int .i64 a0_0) := (blk_cell BK101.out 0).trans rfl
           have hcz23_1 : wc.cell? ⟨gb101, 1, none⟩ = some (.slice A0_1 l0_1.length c0_1) := (blk_cell BK101.out 1).trans rfl
           have hfz23_0 := blk_frozen BK101.out 0
           have hfz23_1 := blk_frozen BK101.out 1
           go_wp2
           go_loopg [38] kj10 (fun kq v38 w' => ∃ (x38_4 : Int), v38 = .int .i64 x38_4 ∧ Aside0 (impl_Lat_isOrder.l2 kq x8_1 x18_2 a0_0 x8_1 a0_0 x18_2 a0_0 x38_4 a0_0 l0_1 = some r) ∧ Aside0 (kq ≤ kj10) ∧ Aside0 (w'.heap[gb101]? = some (.cells #[.int .i64 a0_0, (.slice A0_1 l0_1.length c0_1)] 47 (0, 0))) ∧ Aside0 (Below w.heap.size w w'))
           case atStart => exact ⟨(0), qz2, H', ⟨Nat.le_refl _⟩, ⟨qz8 BK101.out⟩, ⟨qz10 GE101.out⟩⟩
           case round =>
            clear H'
            try clear c1
            try clear c2
            try clear p2
            try clear c4
            try clear c4b0
            try clear c6
            try clear c10
            try clear c10b0
            try clear c11
            try clear c12
            try clear c12b0
            try clear c12b1
            try clear c14
            try clear c21
            try clear c22
            try clear hcz16_0
            try clear hcz16_1
            try clear hcz18_0
            try clear hcz18_1
            try clear hcz20_0
            try clear hcz20_1
            try clear hcz23_0
            try clear hcz23_1
            try clear hcz3_0
            try clear hcz3_1
            try clear hcz7_0
            try clear hcz7_1
            try clear hcz9_0
            try clear hcz9_1
            try clear hfz16_0
            try clear hfz16_1
            try clear hfz18_0
            try clear hfz18_1
            try clear hfz20_0
            try clear hfz20_1
            try clear hfz23_0
            try clear hfz23_1
            try clear hfz3_0
            try clear hfz3_1
            try clear hfz7_0
            try clear hfz7_1
            try clear hfz9_0
            try clear hfz9_1
            try clear p2
            obtain ⟨x38_4, rfl, HA, HK4, BK101, HB⟩ := hrel
            cases gk with
            | zero => exact absurd HA.out (by simp [impl_Lat_isOrder.l2])
            | succ k4 =>
             have H := HA.out
             clear HA
             simp only [impl_Lat_isOrder.l2] at H
             by_cases c24 : x38_4 < a0_0
             ·rw [if_pos c24] at H
              have c24b0 : decide (x38_4 < a0_0) = true := decide_eq_true c24
              clear c24
              replace H := Option.bind_eq_some_iff.mp H
              obtain ⟨t105, A250, H⟩ := H
              replace H : (if t105 = true then ((impl_Lat_le.f a0_0 l0_1 x18_2 x38_4).bind fun t106 => (if t106 = true then ((impl_Lat_le.f a0_0 l0_1 x8_1 x38_4).bind fun t107 => (if t107 = true then (impl_Lat_isOrder.l2 k4 x8_1 x18_2 a0_0 x8_1 a0_0 x18_2 a0_0 (wrap64 (x38_4 + 1)) a0_0 l0_1) else (some false))) else (impl_Lat_isOrder.l2 k4 x8_1 x18_2 a0_0 x8_1 a0_0 x18_2 a0_0 (wrap64 (x38_4 + 1)) a0_0 l0_1))) else (impl_Lat_isOrder.l2 k4 x8_1 x18_2 a0_0 x8_1 a0_0 x18_2 a0_0 (wrap64 (x38_4 + 1)) a0_0 l0_1)) = some r := H
              have A25 := Aside0.mk A250
              clear A250
              by_cases c26 : t105 = true
              ·subst c26
               have H1 : ((impl_Lat_le.f a0_0 l0_1 x18_2 x38_4).bind fun t106 => (if t106 = true then ((impl_Lat_le.f a0_0 l0_1 x8_1 x38_4).bind fun t107 => (if t107 = true then (impl_Lat_isOrder.l2 k4 x8_1 x18_2 a0_0 x8_1 a0_0 x18_2 a0_0 (wrap64 (x38_4 + 1)) a0_0 l0_1) else (some false))) else (impl_Lat_isOrder.l2 k4 x8_1 x18_2 a0_0 x8_1 a0_0 x18_2 a0_0 (wrap64 (x38_4 + 1)) a0_0 l0_1))) = some r := by rw [if_pos rfl] at H; exact H
               clear H
               have H := H1
               clear H1
               replace H := Option.bind_eq_some_iff.mp H
               obtain ⟨t106, A270, H⟩ := H
               replace H : (if t106 = true then ((impl_Lat_le.f a0_0 l0_1 x8_1 x38_4).bind fun t107 => (if t107 = true then (impl_Lat_isOrder.l2 k4 x8_1 x18_2 a0_0 x8_1 a0_0 x18_2 a0_0 (wrap64 (x38_4 + 1)) a0_0 l0_1) else (some false))) else (impl_Lat_isOrder.l2 k4 x8_1 x18_2 a0_0 x8_1 a0_0 x18_2 a0_0 (wrap64 (x38_4 + 1)) a0_0 l0_1)) = some r := H
               have A27 := Aside0.mk A270
               clear A270
               by_cases c28 : t106 = true
               ·subst c28
                have H1 : ((impl_Lat_le.f a0_0 l0_1 x8_1 x38_4).bind fun t107 => (if t107 = true then (impl_Lat_isOrder.l2 k4 x8_1 x18_2 a0_0 x8_1 a0_0 x18_2 a0_0 (wrap64 (x38_4 + 1)) a0_0 l0_1) else (some false))) = some r := by rw [if_pos rfl] at H; exact H
                clear H
                have H := H1
                clear H1
                replace H := Option.bind_eq_some_iff.mp H
                obtain ⟨t107, A290, H⟩ := H
                replace H : (if t107 = true then (impl_Lat_isOrder.l2 k4 x8_1 x18_2 a0_0 x8_1 a0_0 x18_2 a0_0 (wrap64 (x38_4 + 1)) a0_0 l0_1) else (some false)) = some r := H
                have A29 := Aside0.mk A290
                clear A290
                by_cases c30 : t107 = true
                ·subst c30
                 have H1 : (impl_Lat_isOrder.l2 k4 x8_1 x18_2 a0_0 x8_1 a0_0 x18_2 a0_0 (wrap64 (x38_4 + 1)) a0_0 l0_1) = some r := by rw [if_pos rfl] at H; exact H
                 clear H
                 have H := H1
                 clear H1
                 have H' := Aside0.mk H
                 clear H
                 have hcz31_0 : wr.cell? ⟨gb101, 0, none⟩ = some (.int .i64 a0_0) := (blk_cell BK101.out 0).trans rfl
                 have hcz31_1 : wr.cell? ⟨gb101, 1, none⟩ = some (.slice A0_1 l0_1.length c0_1) := (blk_cell BK101.out 1).trans rfl
                 have hfz31_0 := blk_frozen BK101.out 0
                 have hfz31_1 := blk_frozen BK101.out 1
                 go_wp2_with (first | ((with_reducible refine gate_callee (f := 119) rfl ?_); refine goesL_ (some 44) rfl rfl Try.func119 (by kernel_rfl) rfl #[.agg #[.int .i64 a0_0, .slice A0_1 l0_1.length c0_1], .int .i64 x8_1, .int .i64 x18_2] rfl qz1 ?_; (with_reducible refine (impl_Lat_le.calls a0_0 _ _ l0_1 x8_1 x18_2 true _ ?side1 ?side2 A25.out).mono ?_); (case side1 => exact qz17 HR0_1.out); (case side2 => exact HC0_1.out); rintro e w32 ⟨rfl, hb⟩; refine ⟨_, rfl, ?_⟩; have n0_ := Aside0.mk (blk_below (g := gb101) (o := .cells #[.int .i64 a0_0, .slice A0_1 l0_1.length c0_1] 47 (0, 0)) (qz8 BK101.out) hb); have n1_ := Aside0.mk (below_step (qz10 GE101.out) hb); clear BK101; clear HB; have BK101 := n0_; have HB := n1_; clear n0_ n1_; (try clear hb); (try clear hb2); (try clear hk); (try clear hi); have hcz33_0 : w32.cell? ⟨gb101, 0, none⟩ = some (.int .i64 a0_0) := (blk_cell BK101.out 0).trans rfl; have hcz33_1 : w32.cell? ⟨gb101, 1, none⟩ = some (.slice A0_1 l0_1.length c0_1) := (blk_cell BK101.out 1).trans rfl; have hfz33_0 := blk_frozen BK101.out 0; have hfz33_1 := blk_frozen BK101.out 1) | (go_at_call 119; (with_reducible refine (impl_Lat_le.calls a0_0 _ _ l0_1 x18_2 x38_4 true _ ?side1 ?side2 A27.out).mono ?_); (case side1 => exact qz17 HR0_1.out); (case side2 => exact HC0_1.out); rintro e w34 ⟨rfl, hb⟩; have n0_ := Aside0.mk (blk_below (g := gb101) (o := .cells #[.int .i64 a0_0, .slice A0_1 l0_1.length c0_1] 47 (0, 0)) (qz8 BK101.out) hb); have n1_ := Aside0.mk (below_step (qz10 GE101.out) hb); clear BK101; clear HB; have BK101 := n0_; have HB := n1_; clear n0_ n1_; (try clear hb); (try clear hb2); (try clear hk); (try clear hi); have hcz35_0 : w34.cell? ⟨gb101, 0, none⟩ = some (.int .i64 a0_0) := (blk_cell BK101.out 0).trans rfl; have hcz35_1 : w34.cell? ⟨gb101, 1, none⟩ = some (.slice A0_1 l0_1.length c0_1) := (blk_cell BK101.out 1).trans rfl; have hfz35_0 := blk_frozen BK101.out 0; have hfz35_1 := blk_frozen BK101.out 1) | (go_at_call 119; (with_reducible refine (impl_Lat_le.calls a0_0 _ _ l0_1 x8_1 x38_4 true _ ?side1 ?side2 A29.out).mono ?_); (case side1 => exact qz17 HR0_1.out); (case side2 => exact HC0_1.out); rintro e w36 ⟨rfl, hb⟩; have n0_ := Aside0.mk (blk_below (g := gb101) (o := .cells #[.int .i64 a0_0, .slice A0_1 l0_1.length c0_1] 47 (0, 0)) (qz8 BK101.out) hb); have n1_ := Aside0.mk (below_step (qz10 GE101.out) hb); clear BK101; clear HB; have BK101 := n0_; have HB := n1_; clear n0_ n1_; (try clear hb); (try clear hb2); (try clear hk); (try clear hi)))
                 go_roundg k4
                 case measure => have := HK1.out; have := HK2.out; have := HJ10.out; have := HK4.out; omega
                 case rel => exact ⟨(wrap64 (x38_4 + 1)), qz2, H', ⟨qz32 HK1.out HK2.out HJ10.out HK4.out⟩, ⟨qz8 BK101.out⟩, ⟨qz10 GE101.out⟩⟩
                ·replace c30 := Bool.eq_false_iff.mpr c30
                 subst c30
                 have H1 : (some false) = some r := by rw [if_neg (show ¬ (false = true) by decide)] at H; exact H
                 clear H
                 have H := H1
                 clear H1
                 obtain rfl := Option.some.inj H
                 have hcz37_0 : wr.cell? ⟨gb101, 0, none⟩ = some (.int .i64 a0_0) := (blk_cell BK101.out 0).trans rfl
                 have hcz37_1 : wr.cell? ⟨gb101, 1, none⟩ = some (.slice A0_1 l0_1.length c0_1) := (blk_cell BK101.out 1).trans rfl
                 have hfz37_0 := blk_frozen BK101.out 0
                 have hfz37_1 := blk_frozen BK101.out 1
                 go_wp2_with (first | ((with_reducible refine gate_callee (f := 119) rfl ?_); refine goesL_ (some 44) rfl rfl Try.func119 (by kernel_rfl) rfl #[.agg #[.int .i64 a0_0, .slice A0_1 l0_1.length c0_1], .int .i64 x8_1, .int .i64 x18_2] rfl qz1 ?_; (with_reducible refine (impl_Lat_le.calls a0_0 _ _ l0_1 x8_1 x18_2 true _ ?side1 ?side2 A25.out).mono ?_); (case side1 => exact qz17 HR0_1.out); (case side2 => exact HC0_1.out); rintro e w38 ⟨rfl, hb⟩; refine ⟨_, rfl, ?_⟩; have n0_ := Aside0.mk (blk_below (g := gb101) (o := .cells #[.int .i64 a0_0, .slice A0_1 l0_1.length c0_1] 47 (0, 0)) (qz8 BK101.out) hb); have n1_ := Aside0.mk (below_step (qz10 GE101.out) hb); clear BK101; clear HB; have BK101 := n0_; have HB := n1_; clear n0_ n1_; (try clear hb); (try clear hb2); (try clear hk); (try clear hi); have hcz39_0 : w38.cell? ⟨gb101, 0, none⟩ = some (.int .i64 a0_0) := (blk_cell BK101.out 0).trans rfl; have hcz39_1 : w38.cell? ⟨gb101, 1, none⟩ = some (.slice A0_1 l0_1.length c0_1) := (blk_cell BK101.out 1).trans rfl; have hfz39_0 := blk_frozen BK101.out 0; have hfz39_1 := blk_frozen BK101.out 1) | (go_at_call 119; (with_reducible refine (impl_Lat_le.calls a0_0 _ _ l0_1 x18_2 x38_4 true _ ?side1 ?side2 A27.out).mono ?_); (case side1 => exact qz17 HR0_1.out); (case side2 => exact HC0_1.out); rintro e w40 ⟨rfl, hb⟩; have n0_ := Aside0.mk (blk_below (g := gb101) (o := .cells #[.int .i64 a0_0, .slice A0_1 l0_1.length c0_1] 47 (0, 0)) (qz8 BK101.out) hb); have n1_ := Aside0.mk (below_step (qz10 GE101.out) hb); clear BK101; clear HB; have BK101 := n0_; have HB := n1_; clear n0_ n1_; (try clear hb); (try clear hb2); (try clear hk); (try clear hi); have hcz41_0 : w40.cell? ⟨gb101, 0, none⟩ = some (.int .i64 a0_0) := (blk_cell BK101.out 0).trans rfl; have hcz41_1 : w40.cell? ⟨gb101, 1, none⟩ = some (.slice A0_1 l0_1.length c0_1) := (blk_cell BK101.out 1).trans rfl; have hfz41_0 := blk_frozen BK101.out 0; have hfz41_1 := blk_frozen BK101.out 1) | (go_at_call 119; (with_reducible refine (impl_Lat_le.calls a0_0 _ _ l0_1 x8_1 x38_4 false _ ?side1 ?side2 A29.out).mono ?_); (case side1 => exact qz17 HR0_1.out); (case side2 => exact HC0_1.out); rintro e w42 ⟨rfl, hb⟩; have n0_ := Aside0.mk (blk_below (g := gb101) (o := .cells #[.int .i64 a0_0, .slice A0_1 l0_1.length c0_1] 47 (0, 0)) (qz8 BK101.out) hb); have n1_ := Aside0.mk (below_step (qz10 GE101.out) hb); clear BK101; clear HB; have BK101 := n0_; have HB := n1_; clear n0_ n1_; (try clear hb); (try clear hb2); (try clear hk); (try clear hi)))
                 go_ret
                 exact ⟨qz13, qz10 GE101.out⟩
               ·replace c28 := Bool.eq_false_iff.mpr c28
                subst c28
                have H1 : (impl_Lat_isOrder.l2 k4 x8_1 x18_2 a0_0 x8_1 a0_0 x18_2 a0_0 (wrap64 (x38_4 + 1)) a0_0 l0_1) = some r := by rw [if_neg (show ¬ (false = true) by decide)] at H; exact H
                clear H
                have H := H1
                clear H1
                have H' := Aside0.mk H
                clear H
                have hcz43_0 : wr.cell? ⟨gb101, 0, none⟩ = some (.int .i64 a0_0) := (blk_cell BK101.out 0).trans rfl
                have hcz43_1 : wr.cell? ⟨gb101, 1, none⟩ = some (.slice A0_1 l0_1.length c0_1) := (blk_cell BK101.out 1).trans rfl
                have hfz43_0 := blk_frozen BK101.out 0
                have hfz43_1 := blk_frozen BK101.out 1
                go_wp2_with (first | ((with_reducible refine gate_callee (f := 119) rfl ?_); refine goesL_ (some 44) rfl rfl Try.func119 (by kernel_rfl) rfl #[.agg #[.int .i64 a0_0, .slice A0_1 l0_1.length c0_1], .int .i64 x8_1, .int .i64 x18_2] rfl qz1 ?_; (with_reducible refine (impl_Lat_le.calls a0_0 _ _ l0_1 x8_1 x18_2 true _ ?side1 ?side2 A25.out).mono ?_); (case side1 => exact qz17 HR0_1.out); (case side2 => exact HC0_1.out); rintro e w44 ⟨rfl, hb⟩; refine ⟨_, rfl, ?_⟩; have n0_ := Aside0.mk (blk_below (g := gb101) (o := .cells #[.int .i64 a0_0, .slice A0_1 l0_1.length c0_1] 47 (0, 0)) (qz8 BK101.out) hb); have n1_ := Aside0.mk (below_step (qz10 GE101.out) hb); clear BK101; clear HB; have BK101 := n0_; have HB := n1_; clear n0_ n1_; (try clear hb); (try clear hb2); (try clear hk); (try clear hi); have hcz45_0 : w44.cell? ⟨gb101, 0, none⟩ = some (.int .i64 a0_0) := (blk_cell BK101.out 0).trans rfl; have hcz45_1 : w44.cell? ⟨gb101, 1, none⟩ = some (.slice A0_1 l0_1.length c0_1) := (blk_cell BK101.out 1).trans rfl; have hfz45_0 := blk_frozen BK101.out 0; have hfz45_1 := blk_frozen BK101.out 1) | (go_at_call 119; (with_reducible refine (impl_Lat_le.calls a0_0 _ _ l0_1 x18_2 x38_4 false _ ?side1 ?side2 A27.out).mono ?_); (case side1 => exact qz17 HR0_1.out); (case side2 => exact HC0_1.out); rintro e w46 ⟨rfl, hb⟩; have n0_ := Aside0.mk (blk_below (g := gb101) (o := .cells #[.int .i64 a0_0, .slice A0_1 l0_1.length c0_1] 47 (0, 0)) (qz8 BK101.out) hb); have n1_ := Aside0.mk (below_step (qz10 GE101.out) hb); clear BK101; clear HB; have BK101 := n0_; have HB := n1_; clear n0_ n1_; (try clear hb); (try clear hb2); (try clear hk); (try clear hi)))
                go_roundg k4
                case measure => have := HK1.out; have := HK2.out; have := HJ10.out; have := HK4.out; omega
                case rel => exact ⟨(wrap64 (x38_4 + 1)), qz2, H', ⟨qz32 HK1.out HK2.out HJ10.out HK4.out⟩, ⟨qz8 BK101.out⟩, ⟨qz10 GE101.out⟩⟩
              ·replace c26 := Bool.eq_false_iff.mpr c26
               subst c26
               have H1 : (impl_Lat_isOrder.l2 k4 x8_1 x18_2 a0_0 x8_1 a0_0 x18_2 a0_0 (wrap64 (x38_4 + 1)) a0_0 l0_1) = some r := by rw [if_neg (show ¬ (false = true) by decide)] at H; exact H
               clear H
               have H := H1
               clear H1
               have H' := Aside0.mk H
               clear H
               have hcz47_0 : wr.cell? ⟨gb101, 0, none⟩ = some (.int .i64 a0_0) := (blk_cell BK101.out 0).trans rfl
               have hcz47_1 : wr.cell? ⟨gb101, 1, none⟩ = some (.slice A0_1 l0_1.length c0_1) := (blk_cell BK101.out 1).trans rfl
               have hfz47_0 := blk_frozen BK101.out 0
               have hfz47_1 := blk_frozen BK101.out 1
               go_wp2_with (first | ((with_reducible refine gate_callee (f := 119) rfl ?_); refine goesL_ (some 44) rfl rfl Try.func119 (by kernel_rfl) rfl #[.agg #[.int .i64 a0_0, .slice A0_1 l0_1.length c0_1], .int .i64 x8_1, .int .i64 x18_2] rfl qz1 ?_; (with_reducible refine (impl_Lat_le.calls a0_0 _ _ l0_1 x8_1 x18_2 false _ ?side1 ?side2 A25.out).mono ?_); (case side1 => exact qz17 HR0_1.out); (case side2 => exact HC0_1.out); rintro e w48 ⟨rfl, hb⟩; refine ⟨_, rfl, ?_⟩; have n0_ := Aside0.mk (blk_below (g := gb101) (o := .cells #[.int .i64 a0_0, .slice A0_1 l0_1.length c0_1] 47 (0, 0)) (qz8 BK101.out) hb); have n1_ := Aside0.mk (below_step (qz10 GE101.out) hb); clear BK101; clear HB; have BK101 := n0_; have HB := n1_; clear n0_ n1_; (try clear hb); (try clear hb2); (try clear hk); (try clear hi)))
               go_roundg k4
               case measure => have := HK1.out; have := HK2.out; have := HJ10.out; have := HK4.out; omega
               case rel => exact ⟨(wrap64 (x38_4 + 1)), qz2, H', ⟨qz32 HK1.out HK2.out HJ10.out HK4.out⟩, ⟨qz8 BK101.out⟩, ⟨qz10 GE101.out⟩⟩
             ·rw [if_neg c24] at H
              have c24b0 : decide (x38_4 < a0_0) = false := decide_eq_false c24
              clear c24
              have H' := Aside0.mk H
              clear H
              go_wp2
              go_roundg k4
              case measure => have := HK1.out; have := HK2.out; have := HJ10.out; have := HK4.out; omega
              case rel => exact ⟨(wrap64 (x18_2 + 1)), qz2, H', ⟨qz32 HK1.out HK2.out HJ10.out HK4.out⟩, ⟨qz8 BK101.out⟩, ⟨qz10 GE101.out⟩⟩
       ·rw [if_neg c10] at H
        have c10b0 : decide (x18_2 < a0_0) = false := decide_eq_false c10
        clear c10
        have H' := Aside0.mk H
        clear H
        go_wp2
        go_roundg k2
        case measure => have := HK1.out; have := HK2.out; omega
        case rel => exact ⟨(wrap64 (x8_1 + 1)), qz2, H', ⟨qz34 HK1.out HK2.out⟩, ⟨qz8 BK101.out⟩, ⟨qz10 GE101.out⟩⟩
    ·replace c6 := Bool.eq_false_iff.mpr c6
     subst c6
     have H1 : (some false) = some r := by rw [if_neg (show ¬ (false = true) by decide)] at H; exact H
     clear H
     have H := H1
     clear H1
     obtain rfl := Option.some.inj H
     have hcz49_0 : wr.cell? ⟨gb101, 0, none⟩ = some (.int .i64 a0_0) := (blk_cell BK101.out 0).trans rfl
     have hcz49_1 : wr.cell? ⟨gb101, 1, none⟩ = some (.slice A0_1 l0_1.length c0_1) := (blk_cell BK101.out 1).trans rfl
     have hfz49_0 := blk_frozen BK101.out 0
     have hfz49_1 := blk_frozen BK101.out 1
     go_wp2_with (first | ((with_reducible refine gate_callee (f := 119) rfl ?_); refine goesL_ (some 14) rfl rfl Try.func119 (by kernel_rfl) rfl #[.agg #[.int .i64 a0_0, .slice A0_1 l0_1.length c0_1], .int .i64 x8_1, .int .i64 x8_1] rfl qz1 ?_; (with_reducible refine (impl_Lat_le.calls a0_0 _ _ l0_1 x8_1 x8_1 false _ ?side1 ?side2 A5.out).mono ?_); (case side1 => exact qz17 HR0_1.out); (case side2 => exact HC0_1.out); rintro e w50 ⟨rfl, hb⟩; refine ⟨_, rfl, ?_⟩; have n0_ := Aside0.mk (blk_below (g := gb101) (o := .cells #[.int .i64 a0_0, .slice A0_1 l0_1.length c0_1] 47 (0, 0)) (qz8 BK101.out) hb); have n1_ := Aside0.mk (below_step (qz10 GE101.out) hb); clear BK101; clear HB; have BK101 := n0_; have HB := n1_; clear n0_ n1_; (try clear hb); (try clear hb2); (try clear hk); (try clear hi)))
     go_ret
     exact ⟨qz13, qz10 GE101.out⟩
   ·rw [if_neg c4] at H
    have c4b0 : decide (x8_1 < a0_0) = false := decide_eq_false c4
    clear c4
    obtain rfl := Option.some.inj H
    go_wp2
    go_ret
    exact ⟨qz13, qz10 GE101.out⟩

end Go.Proofs.Ytjhfjnknajhanaa.P

namespace Go.Proofs.Ytjhfjnknajhanaa.P
open Go.RowKit Go.Proofs.YtjhfjnknajhanaaW.PrintWords Go.Proofs.YtjhfjnknajhanaaW.PrintLast Go.Proofs.YtjhfjnknajhanaaW.PrintMore
attribute [local go_sem] max2_int min2_int max_two min_two max_three min_three max_four min_four   -- for this text's walks alone
set_option linter.unusedVariables false
set_option linter.unusedSimpArgs false

/-! ### impl_in: function 123 -/
set_option maxHeartbeats 8000000 in
set_option maxRecDepth 100000 in
theorem impl_in.calls (a0 : Int) (a1 : Int) (a2 : Int) (r : Bool) (w : World) (h : impl_in.f a0 a1 a2 = some r) :
  Calls Try.prog 123 #[.int .i64 a0, .int .i64 a1, .int .i64 a2] w fun e w' => e = .returned (.bool r) ∧ Drawn0 w w' := by
 have H : (if a1 ≤ a0 then (some (decide (a0 ≤ a2))) else (some false)) = some r := h
 clear h
 by_cases c4 : a1 ≤ a0
 ·rw [if_pos c4] at H
  have c4b0 : decide (a1 ≤ a0) = true := decide_eq_true c4
  clear c4
  obtain rfl := Option.some.inj H
  go_enter Try.func123, Try.ntmps123
  go_wp2
  go_ret
  exact ⟨qz2, qz3⟩
 ·rw [if_neg c4] at H
  have c4b0 : decide (a1 ≤ a0) = false := decide_eq_false c4
  clear c4
  obtain rfl := Option.some.inj H
  go_enter Try.func123, Try.ntmps123
  go_wp2
  go_ret
  exact ⟨qz2, qz3⟩

end Go.Proofs.Ytjhfjnknajhanaa.P

namespace Go.Proofs.Ytjhfjnknajhanaa.P
open Go.RowKit Go.Proofs.YtjhfjnknajhanaaW.PrintWords Go.Proofs.YtjhfjnknajhanaaW.PrintLast Go.Proofs.YtjhfjnknajhanaaW.PrintMore
attribute [local go_sem] max2_int min2_int max_two min_two max_three min_three max_four min_four   -- for this text's walks alone
set_option linter.unusedVariables false
set_option linter.unusedSimpArgs false

/-! ### impl_isLat: function 118 -/
set_option maxHeartbeats 8000000 in
set_option maxRecDepth 100000 in
theorem impl_isLat.calls (k : Nat) (a0_0 : Int) (A0_1 : Option Addr) (c0_1 : Nat) (l0_1 : List Int) (r : Bool) (w : World) (hr0_1 : Kd.C (Kd.int .u64) w A0_1 l0_1.length l0_1) (hc0_1 : l0_1.length ≤ c0_1) (h : impl_isLat.f k a0_0 l0_1 = some r) :
  Calls Try.prog 118 #[.agg #[.int .i64 a0_0, .slice A0_1 l0_1.length c0_1]] w fun e w' => e = .returned (.bool r) ∧ Below w.heap.size w w' := by
 have hu47 := Try.underlying47
 have HR0_1 := Aside0.mk hr0_1
 have HC0_1 := Aside0.mk hc0_1
 clear hr0_1 hc0_1
 have HB := Aside0.mk (Below.refl w.heap.size w)
 have H : ((impl_in.f a0_0 1 16).bind fun t102 => (if t102 = true then (impl_isLat.j0 k ((l0_1.length : Int) != a0_0) a0_0 l0_1) else (impl_isLat.j0 k true a0_0 l0_1))) = some r := h
 clear h
 have HC2 := Aside0.mk H
 clear H
 go_enter Try.func118, Try.ntmps118
 go_upto_region 1 with (first | ((with_reducible refine gate_dst (N := 1) rfl ?_); (try (refine gate_guard (by rfl) ?_; dsimp only)); refine box_event ?hg (N := 1) ?hd (cs := #[.int .i64 a0_0, .slice A0_1 l0_1.length c0_1]) (t := 47) ?hr ?_; (case hd => rfl); (case hg => rfl); (case hr => exact qz5); intro gb101 hg w3 hbox hb; have n0_ := Aside0.mk (below_step qz6 hb); have n1_ := Aside0.mk (hbox); have n2_ := Aside0.mk ((qz7 : w.heap.size ≤ gb101)); have n3_ := Aside0.mk ((qz7 : w.heap.size ≤ gb101)); clear HB; have HB := n0_; have BK101 := n1_; have GW101 := n2_; have GE101 := n3_; clear n0_ n1_ n2_ n3_; clear hb hbox hg))
 (try simp only [Act.put, List.setIfInBounds_toArray, List.set_cons_zero, List.set_cons_succ])
 go_cut [18] (fun v18 wc => ∃ (kq : Nat) (x18_1 : Bool), v18 = .bool x18_1 ∧ Aside0 (impl_isLat.j0 kq x18_1 a0_0 l0_1 = some r) ∧ Aside0 (kq ≤ k) ∧ Aside0 (wc.heap[gb101]? = some (.cells #[.int .i64 a0_0, (.slice A0_1 l0_1.length c0_1)] 47 (0, 0))) ∧ Aside0 (Below w.heap.size w wc))
 case first =>
  have H := HC2.out
  clear HC2
  replace H := Option.bind_eq_some_iff.mp H
  obtain ⟨t102, A40, H⟩ := H
  replace H : (if t102 = true then (impl_isLat.j0 k ((l0_1.length : Int) != a0_0) a0_0 l0_1) else (impl_isLat.j0 k true a0_0 l0_1)) = some r := H
  have A4 := Aside0.mk A40
  clear A40
  by_cases c5 : t102 = true
  ·subst c5
   have H1 : (impl_isLat.j0 k ((l0_1.length : Int) != a0_0) a0_0 l0_1) = some r := by rw [if_pos rfl] at H; exact H
   clear H
   have H := H1
   clear H1
   have H' := Aside0.mk H
   clear H
   have hcz6_0 : w3.cell? ⟨gb101, 0, none⟩ = some (.int .i64 a0_0) := (blk_cell BK101.out 0).trans rfl
   have hcz6_1 : w3.cell? ⟨gb101, 1, none⟩ = some (.slice A0_1 l0_1.length c0_1) := (blk_cell BK101.out 1).trans rfl
   have hfz6_0 := blk_frozen BK101.out 0
   have hfz6_1 := blk_frozen BK101.out 1
   go_wp2_with (first | ((with_reducible refine gate_callee (f := 123) rfl ?_); refine goesL_ (some 9) rfl rfl Try.func123 (by kernel_rfl) rfl #[.int .i64 a0_0, .int .i64 1, .int .i64 16] rfl qz1 ?_; (with_reducible refine (impl_in.calls a0_0 1 16 true _ A4.out).mono ?_); rintro e w' ⟨rfl, ⟨nd, rfl⟩⟩; refine ⟨_, rfl, ?_⟩))
   go_meet
   case rel => exact ⟨_, (((l0_1.length : Int) != a0_0)), qz2, H', ⟨qz36⟩, ⟨qz8 BK101.out⟩, ⟨qz10 GE101.out⟩⟩
  ·replace c5 := Bool.eq_false_iff.mpr c5
   subst c5
   have H1 : (impl_isLat.j0 k true a0_0 l0_1) = some r := by rw [if_neg (show ¬ (false = true) by decide)] at H; exact H
   clear H
   have H := H1
   clear H1
   have H' := Aside0.mk H
   clear H
   have hcz7_0 : w3.cell? ⟨gb101, 0, none⟩ = some (.int .i64 a0_0) := (blk_cell BK101.out 0).trans rfl
   have hcz7_1 : w3.cell? ⟨gb101, 1, none⟩ = some (.slice A0_1 l0_1.length c0_1) := (blk_cell BK101.out 1).trans rfl
   have hfz7_0 := blk_frozen BK101.out 0
   have hfz7_1 := blk_frozen BK101.out 1
   go_wp2_with (first | ((with_reducible refine gate_callee (f := 123) rfl ?_); refine goesL_ (some 9) rfl rfl Try.func123 (by kernel_rfl) rfl #[.int .i64 a0_0, .int .i64 1, .int .i64 16] rfl qz1 ?_; (with_reducible refine (impl_in.calls a0_0 1 16 false _ A4.out).mono ?_); rintro e w' ⟨rfl, ⟨nd, rfl⟩⟩; refine ⟨_, rfl, ?_⟩))
   go_meet
   case rel => exact ⟨_, (true), qz2, H', ⟨qz36⟩, ⟨qz8 BK101.out⟩, ⟨qz10 GE101.out⟩⟩
 case rest =>
  clear HC2
  try clear c1
  try clear p2
  try clear c5
  try clear hcz6_0
  try clear hcz6_1
  try clear hcz7_0
  try clear hcz7_1
  try clear hfz6_0
  try clear hfz6_1
  try clear hfz7_0
  try clear hfz7_1
  obtain ⟨kq, x18_1, rfl, HA, HJ1, BK101, HB⟩ := hcut
  cases kq with
  | zero => exact absurd HA.out (by simp [impl_isLat.j0])
  | succ kj1 =>
   have H := HA.out
   clear HA
   simp only [impl_isLat.j0] at H
   by_cases c8 : x18_1 = true
   ·subst c8
    have H1 : (some false) = some r := by rw [if_pos rfl] at H; exact H
    clear H
    have H := H1
    clear H1
    obtain rfl := Option.some.inj H
    go_wp2
    go_ret
    exact ⟨qz13, qz10 GE101.out⟩
   ·replace c8 := Bool.eq_false_iff.mpr c8
    subst c8
    have H1 : (impl_isLat.l0 kj1 l0_1 (l0_1.length : Int) 0 a0_0 l0_1) = some r := by rw [if_neg (show ¬ (false = true) by decide)] at H; exact H
    clear H
    have H := H1
    clear H1
    have H' := Aside0.mk H
    clear H
    have hcz9_0 : wc.cell? ⟨gb101, 0, none⟩ = some (.int .i64 a0_0) := (blk_cell BK101.out 0).trans rfl
    have hcz9_1 : wc.cell? ⟨gb101, 1, none⟩ = some (.slice A0_1 l0_1.length c0_1) := (blk_cell BK101.out 1).trans rfl
    have hfz9_0 := blk_frozen BK101.out 0
    have hfz9_1 := blk_frozen BK101.out 1
    go_wp2
    go_loopg [22] kj1 (fun kq v22 w' => ∃ (x22_2 : Int), v22 = .int .i64 x22_2 ∧ Aside0 (impl_isLat.l0 kq l0_1 (l0_1.length : Int) x22_2 a0_0 l0_1 = some r) ∧ Aside0 (kq ≤ kj1) ∧ Aside0 (w'.heap[gb101]? = some (.cells #[.int .i64 a0_0, (.slice A0_1 l0_1.length c0_1)] 47 (0, 0))) ∧ Aside0 (Below w.heap.size w w'))
    case atStart => exact ⟨(0), qz2, H', ⟨Nat.le_refl _⟩, ⟨qz8 BK101.out⟩, ⟨qz10 GE101.out⟩⟩
    case round =>
     clear H'
     try clear c1
     try clear p2
     try clear c5
     try clear c8
     try clear hcz6_0
     try clear hcz6_1
     try clear hcz7_0
     try clear hcz7_1
     try clear hcz9_0
     try clear hcz9_1
     try clear hfz6_0
     try clear hfz6_1
     try clear hfz7_0
     try clear hfz7_1
     try clear hfz9_0
     try clear hfz9_1
     try clear p2
     obtain ⟨x22_2, rfl, HA, HK2, BK101, HB⟩ := hrel
     cases gk with
     | zero => exact absurd HA.out (by simp [impl_isLat.l0])
     | succ k2 =>
      have H := HA.out
      clear HA
      simp only [impl_isLat.l0] at H
      by_cases c10 : x22_2 < (l0_1.length : Int)
      ·rw [if_pos c10] at H
       have c10b0 : decide (x22_2 < (l0_1.length : Int)) = true := decide_eq_true c10
       clear c10
       by_cases c11 : 0 ≤ x22_2
       ·rw [if_pos c11] at H
        have c11b0 : decide (0 ≤ x22_2) = true := decide_eq_true c11
        clear c11
        by_cases c12 : x22_2 < (l0_1.length : Int)
        ·rw [if_pos c12] at H
         have c12b0 : decide (x22_2 < (l0_1.length : Int)) = true := decide_eq_true c12
         clear c12
         by_cases c13 : 0 ≤ a0_0
         ·rw [if_pos c13] at H
          have c13b0 := eq_true c13
          have c13b1 : decide (0 ≤ a0_0) = true := decide_eq_true c13
          clear c13
          obtain ⟨ji14, hji14⟩ : ∃ j_ : Int, (shr .u64 (rd l0_1 x22_2) a0_0) = j_ := ⟨_, rfl⟩
          replace H : (if (ji14) = 0 then (impl_isLat.l0 k2 l0_1 (l0_1.length : Int) (wrap64 (x22_2 + 1)) a0_0 l0_1) else (some false)) = some r := by first | (rw [hji14] at H; exact H) | (simp only [hji14] at H ⊢; exact H)
          have hji14_ : ((rd l0_1 x22_2) / 2 ^ min a0_0.toNat 64) = ji14 := hji14
          have hji14z : a0_0 ≤ 64 → ((rd l0_1 x22_2) / 2 ^ a0_0.toNat) = ji14 := shr_small hji14
          by_cases c15 : (ji14) = 0
          ·rw [if_pos c15] at H
           have c15b0 : ((ji14) == 0) = true := beq_iff_eq.mpr c15
           have c15b1 : ((ji14) != 0) = false := bne_eq_false_iff_eq.mpr c15
           clear c15
           have H' := Aside0.mk H
           clear H
           have p103 : 0 ≤ (x22_2 : Int) := of_decide_eq_true qz4
           have q103 : x22_2 < (l0_1.length : Int) := of_decide_eq_true qz4
           obtain ⟨ad103, e103, hx103_0⟩ := Kd.at_int HR0_1.out x22_2 p103 q103
           cases e103
           replace hx103_0 := qcb HB hx103_0
           replace p103 := eq_true p103
           replace q103 := eq_true q103
           have hcz16_0 : wr.cell? ⟨gb101, 0, none⟩ = some (.int .i64 a0_0) := (blk_cell BK101.out 0).trans rfl
           have hcz16_1 : wr.cell? ⟨gb101, 1, none⟩ = some (.slice (some ad103) l0_1.length c0_1) := (blk_cell BK101.out 1).trans rfl
           have hfz16_0 := blk_frozen BK101.out 0
           have hfz16_1 := blk_frozen BK101.out 1
           go_wp2
           go_roundg k2
           case measure => have := HJ1.out; have := HK2.out; omega
           case rel => exact ⟨(wrap64 (x22_2 + 1)), qz2, H', ⟨qz34 HJ1.out HK2.out⟩, ⟨qz8 BK101.out⟩, ⟨qz10 GE101.out⟩⟩
          ·rw [if_neg c15] at H
           have c15b0 : ((ji14) == 0) = false := beq_eq_false_iff_ne.mpr c15
           have c15b1 : ((ji14) != 0) = true := bne_iff_ne.mpr c15
           obtain rfl := Option.some.inj H
           have p103 : 0 ≤ (x22_2 : Int) := of_decide_eq_true qz4
           have q103 : x22_2 < (l0_1.length : Int) := of_decide_eq_true qz4
           obtain ⟨ad103, e103, hx103_0⟩ := Kd.at_int HR0_1.out x22_2 p103 q103
           cases e103
           replace hx103_0 := qcb HB hx103_0
           replace p103 := eq_true p103
           replace q103 := eq_true q103
           have hcz17_0 : wr.cell? ⟨gb101, 0, none⟩ = some (.int .i64 a0_0) := (blk_cell BK101.out 0).trans rfl
           have hcz17_1 : wr.cell? ⟨gb101, 1, none⟩ = some (.slice (some ad103) l0_1.length c0_1) := (blk_cell BK101.out 1).trans rfl
           have hfz17_0 := blk_frozen BK101.out 0
           have hfz17_1 := blk_frozen BK101.out 1
           go_wp2
           go_ret
           exact ⟨qz112, qz10 GE101.out⟩
         ·rw [if_neg c13] at H
          exact absurd H (by simp)
        ·rw [if_neg c12] at H
         exact absurd H (by simp)
       ·rw [if_neg c11] at H
        exact absurd H (by simp)
      ·rw [if_neg c10] at H
       have c10b0 : decide (x22_2 < (l0_1.length : Int)) = false := decide_eq_false c10
       clear c10
       replace H := Option.bind_eq_some_iff.mp H
       obtain ⟨t104, A180, H⟩ := H
       replace H : (if t104 = true then (impl_isLat.l1 k2 a0_0 0 a0_0 l0_1) else (some false)) = some r := H
       have A18 := Aside0.mk A180
       clear A180
       by_cases c19 : t104 = true
       ·subst c19
        have H1 : (impl_isLat.l1 k2 a0_0 0 a0_0 l0_1) = some r := by rw [if_pos rfl] at H; exact H
        clear H
        have H := H1
        clear H1
        have H' := Aside0.mk H
        clear H
        have hcz20_0 : wr.cell? ⟨gb101, 0, none⟩ = some (.int .i64 a0_0) := (blk_cell BK101.out 0).trans rfl
        have hcz20_1 : wr.cell? ⟨gb101, 1, none⟩ = some (.slice A0_1 l0_1.length c0_1) := (blk_cell BK101.out 1).trans rfl
        have hfz20_0 := blk_frozen BK101.out 0
        have hfz20_1 := blk_frozen BK101.out 1
        go_wp2_with (first | ((with_reducible refine gate_callee (f := 211) rfl ?_); refine goesL_ (some 33) rfl rfl Try.func211 (by kernel_rfl) rfl #[.agg #[.int .i64 a0_0, .slice A0_1 l0_1.length c0_1]] rfl qz1 ?_; (with_reducible refine (impl_Lat_isOrder.calls k2 a0_0 _ _ l0_1 true _ ?side1 ?side2 A18.out).mono ?_); (case side1 => exact qz17 HR0_1.out); (case side2 => exact HC0_1.out); rintro e w21 ⟨rfl, hb⟩; refine ⟨_, rfl, ?_⟩; have n0_ := Aside0.mk (blk_below (g := gb101) (o := .cells #[.int .i64 a0_0, .slice A0_1 l0_1.length c0_1] 47 (0, 0)) (qz8 BK101.out) hb); have n1_ := Aside0.mk (below_step (qz10 GE101.out) hb); clear BK101; clear HB; have BK101 := n0_; have HB := n1_; clear n0_ n1_; (try clear hb); (try clear hb2); (try clear hk); (try clear hi); have hcz22_0 : w21.cell? ⟨gb101, 0, none⟩ = some (.int .i64 a0_0) := (blk_cell BK101.out 0).trans rfl; have hcz22_1 : w21.cell? ⟨gb101, 1, none⟩ = some (.slice A0_1 l0_1.length c0_1) := (blk_cell BK101.out 1).trans rfl; have hfz22_0 := blk_frozen BK101.out 0; have hfz22_1 := blk_frozen BK101.out 1))
        go_loopg [37] k2 (fun kq v37 w' => ∃ (x37_3 : Int), v37 = .int .i64 x37_3 ∧ Aside0 (impl_isLat.l1 kq a0_0 x37_3 a0_0 l0_1 = some r) ∧ Aside0 (kq ≤ k2) ∧ Aside0 (w'.heap[gb101]? = some (.cells #[.int .i64 a0_0, (.slice A0_1 l0_1.length c0_1)] 47 (0, 0))) ∧ Aside0 (Below w.heap.size w w'))
        case atStart => exact ⟨(0), qz2, H', ⟨Nat.le_refl _⟩, ⟨qz8 BK101.out⟩, ⟨qz10 GE101.out⟩⟩
        case round =>
         clear H'
         try clear c1
         try clear p1
         try clear q1
         try clear hx1
         try clear c2
         try clear p2
         try clear c5
         try clear p6
         try clear c8
         try clear c10
         try clear c10b0
         try clear p10
         try clear q10
         try clear hx10
         try clear c11
         try clear c11b0
         try clear c12
         try clear c12b0
         try clear c13
         try clear c13b0
         try clear c13b1
         try clear c15
         try clear c15b0
         try clear c15b1
         try clear c19
         try clear c21
         try clear hcz16_0
         try clear hcz16_1
         try clear hcz17_0
         try clear hcz17_1
         try clear hcz20_0
         try clear hcz20_1
         try clear hcz22_0
         try clear hcz22_1
         try clear hcz6_0
         try clear hcz6_1
         try clear hcz7_0
         try clear hcz7_1
         try clear hcz9_0
         try clear hcz9_1
         try clear hfz16_0
         try clear hfz16_1
         try clear hfz17_0
         try clear hfz17_1
         try clear hfz20_0
         try clear hfz20_1
         try clear hfz22_0
         try clear hfz22_1
         try clear hfz6_0
         try clear hfz6_1
         try clear hfz7_0
         try clear hfz7_1
         try clear hfz9_0
         try clear hfz9_1
         try clear hx103_0
         try clear p103
         try clear p2
         try clear q103
         obtain ⟨x37_3, rfl, HA, HK3, BK101, HB⟩ := hrel
         cases gk with
         | zero => exact absurd HA.out (by simp [impl_isLat.l1])
         | succ k3 =>
          have H := HA.out
          clear HA
          simp only [impl_isLat.l1] at H
          by_cases c23 : x37_3 < a0_0
          ·rw [if_pos c23] at H
           have c23b0 : decide (x37_3 < a0_0) = true := decide_eq_true c23
           clear c23
           have H' := Aside0.mk H
           clear H
           have hcz24_0 : wr.cell? ⟨gb101, 0, none⟩ = some (.int .i64 a0_0) := (blk_cell BK101.out 0).trans rfl
           have hcz24_1 : wr.cell? ⟨gb101, 1, none⟩ = some (.slice A0_1 l0_1.length c0_1) := (blk_cell BK101.out 1).trans rfl
           have hfz24_0 := blk_frozen BK101.out 0
           have hfz24_1 := blk_frozen BK101.out 1
           go_wp2
           go_loopg [42] k3 (fun kq v42 w' => ∃ (x42_4 : Int), v42 = .int .i64 x42_4 ∧ Aside0 (impl_isLat.l2 kq x37_3 a0_0 x37_3 a0_0 x42_4 a0_0 l0_1 = some r) ∧ Aside0 (kq ≤ k3) ∧ Aside0 (w'.heap[gb101]? = some (.cells #[.int .i64 a0_0, (.slice A0_1 l0_1.length c0_1)] 47 (0, 0))) ∧ Aside0 (Below w.heap.size w w'))
           case atStart => exact ⟨(0), qz2, H', ⟨Nat.le_refl _⟩, ⟨qz8 BK101.out⟩, ⟨qz10 GE101.out⟩⟩
           case round =>
            clear H'
            try clear c1
            try clear p1
            try clear q1
            try clear hx1
            try clear c2
            try clear p2
            try clear c5
            try clear p6
            try clear c8
            try clear c10
            try clear c10b0
            try clear p10
            try clear q10
            try clear hx10
            try clear c11
            try clear c11b0
            try clear c12
            try clear c12b0
            try clear c13
            try clear c13b0
            try clear c13b1
            try clear c15
            try clear c15b0
            try clear c15b1
            try clear c19
            try clear c21
            try clear c23
            try clear c23b0
            try clear hcz16_0
            try clear hcz16_1
            try clear hcz17_0
            try clear hcz17_1
            try clear hcz20_0
            try clear hcz20_1
            try clear hcz22_0
            try clear hcz22_1
            try clear hcz24_0
            try clear hcz24_1
            try clear hcz6_0
            try clear hcz6_1
            try clear hcz7_0
            try clear hcz7_1
            try clear hcz9_0
            try clear hcz9_1
            try clear hfz16_0
            try clear hfz16_1
            try clear hfz17_0
            try clear hfz17_1
            try clear hfz20_0
            try clear hfz20_1
            try clear hfz22_0
            try clear hfz22_1
            try clear hfz24_0
            try clear hfz24_1
            try clear hfz6_0
            try clear hfz6_1
            try clear hfz7_0
            try clear hfz7_1
            try clear hfz9_0
            try clear hfz9_1
            try clear hx103_0
            try clear p1
            try clear p10
            try clear p103
            try clear p2
            try clear p6
            try clear q1
            try clear q10
            try clear q103
            obtain ⟨x42_4, rfl, HA, HK4, BK101, HB⟩ := hrel
            cases gk with
            | zero => exact absurd HA.out (by simp [impl_isLat.l2])
            | succ k4 =>
             have H := HA.out
             clear HA
             simp only [impl_isLat.l2] at H
             by_cases c25 : x42_4 < a0_0
             ·rw [if_pos c25] at H
              have c25b0 : decide (x42_4 < a0_0) = true := decide_eq_true c25
              clear c25
              replace H := Option.bind_eq_some_iff.mp H
              obtain ⟨t105, A260, H⟩ := H
              replace H : (if t105 < 0 then (some false) else ((impl_Lat_bound.f k4 a0_0 l0_1 x37_3 x42_4 false).bind fun t106 => (if t106 < 0 then (some false) else (impl_isLat.l2 k4 x37_3 a0_0 x37_3 a0_0 (wrap64 (x42_4 + 1)) a0_0 l0_1)))) = some r := H
              have A26 := Aside0.mk A260
              clear A260
              by_cases c27 : t105 < 0
              ·rw [if_pos c27] at H
               have c27b0 : decide (t105 < 0) = true := decide_eq_true c27
               clear c27
               obtain rfl := Option.some.inj H
               have hcz28_0 : wr.cell? ⟨gb101, 0, none⟩ = some (.int .i64 a0_0) := (blk_cell BK101.out 0).trans rfl
               have hcz28_1 : wr.cell? ⟨gb101, 1, none⟩ = some (.slice A0_1 l0_1.length c0_1) := (blk_cell BK101.out 1).trans rfl
               have hfz28_0 := blk_frozen BK101.out 0
               have hfz28_1 := blk_frozen BK101.out 1
               go_wp2_with (first | ((with_reducible refine gate_callee (f := 128) rfl ?_); refine goesL_ (some 48) rfl rfl Try.func128 (by kernel_rfl) rfl #[.agg #[.int .i64 a0_0, .slice A0_1 l0_1.length c0_1], .int .i64 x37_3, .int .i64 x42_4, .bool true] rfl qz1 ?_; (with_reducible refine (impl_Lat_bound.calls k4 a0_0 _ _ l0_1 x37_3 x42_4 true t105 _ ?side1 ?side2 A26.out).mono ?_); (case side1 => exact qz17 HR0_1.out); (case side2 => exact HC0_1.out); rintro e w29 ⟨rfl, hb⟩; refine ⟨_, rfl, ?_⟩; have n0_ := Aside0.mk (blk_below (g := gb101) (o := .cells #[.int .i64 a0_0, .slice A0_1 l0_1.length c0_1] 47 (0, 0)) (qz8 BK101.out) hb); have n1_ := Aside0.mk (below_step (qz10 GE101.out) hb); clear BK101; clear HB; have BK101 := n0_; have HB := n1_; clear n0_ n1_; (try clear hb); (try clear hb2); (try clear hk); (try clear hi)))
               go_ret
               exact ⟨qz13, qz10 GE101.out⟩
              ·rw [if_neg c27] at H
               have c27b0 : decide (t105 < 0) = false := decide_eq_false c27
               clear c27
               replace H := Option.bind_eq_some_iff.mp H
               obtain ⟨t106, A300, H⟩ := H
               replace H : (if t106 < 0 then (some false) else (impl_isLat.l2 k4 x37_3 a0_0 x37_3 a0_0 (wrap64 (x42_4 + 1)) a0_0 l0_1)) = some r := H
               have A30 := Aside0.mk A300
               clear A300
               by_cases c31 : t106 < 0
               ·rw [if_pos c31] at H
                have c31b0 : decide (t106 < 0) = true := decide_eq_true c31
                clear c31
                obtain rfl := Option.some.inj H
                have hcz32_0 : wr.cell? ⟨gb101, 0, none⟩ = some (.int .i64 a0_0) := (blk_cell BK101.out 0).trans rfl
                have hcz32_1 : wr.cell? ⟨gb101, 1, none⟩ = some (.slice A0_1 l0_1.length c0_1) := (blk_cell BK101.out 1).trans rfl
                have hfz32_0 := blk_frozen BK101.out 0
                have hfz32_1 := blk_frozen BK101.out 1
                go_wp2_with (first | ((with_reducible refine gate_callee (f := 128) rfl ?_); refine goesL_ (some 48) rfl rfl Try.func128 (by kernel_rfl) rfl #[.agg #[.int .i64 a0_0, .slice A0_1 l0_1.length c0_1], .int .i64 x37_3, .int .i64 x42_4, .bool true] rfl qz1 ?_; (with_reducible refine (impl_Lat_bound.calls k4 a0_0 _ _ l0_1 x37_3 x42_4 true t105 _ ?side1 ?side2 A26.out).mono ?_); (case side1 => exact qz17 HR0_1.out); (case side2 => exact HC0_1.out); rintro e w33 ⟨rfl, hb⟩; refine ⟨_, rfl, ?_⟩; have n0_ := Aside0.mk (blk_below (g := gb101) (o := .cells #[.int .i64 a0_0, .slice A0_1 l0_1.length c0_1] 47 (0, 0)) (qz8 BK101.out) hb); have n1_ := Aside0.mk (below_step (qz10 GE101.out) hb); clear BK101; clear HB; have BK101 := n0_; have HB := n1_; clear n0_ n1_; (try clear hb); (try clear hb2); (try clear hk); (try clear hi); have hcz34_0 : w33.cell? ⟨gb101, 0, none⟩ = some (.int .i64 a0_0) := (blk_cell BK101.out 0).trans rfl; have hcz34_1 : w33.cell? ⟨gb101, 1, none⟩ = some (.slice A0_1 l0_1.length c0_1) := (blk_cell BK101.out 1).trans rfl; have hfz34_0 := blk_frozen BK101.out 0; have hfz34_1 := blk_frozen BK101.out 1) | (go_at_call 128; (with_reducible refine (impl_Lat_bound.calls k4 a0_0 _ _ l0_1 x37_3 x42_4 false t106 _ ?side1 ?side2 A30.out).mono ?_); (case side1 => exact qz17 HR0_1.out); (case side2 => exact HC0_1.out); rintro e w35 ⟨rfl, hb⟩; have n0_ := Aside0.mk (blk_below (g := gb101) (o := .cells #[.int .i64 a0_0, .slice A0_1 l0_1.length c0_1] 47 (0, 0)) (qz8 BK101.out) hb); have n1_ := Aside0.mk (below_step (qz10 GE101.out) hb); clear BK101; clear HB; have BK101 := n0_; have HB := n1_; clear n0_ n1_; (try clear hb); (try clear hb2); (try clear hk); (try clear hi)))
                go_ret
                exact ⟨qz13, qz10 GE101.out⟩
               ·rw [if_neg c31] at H
                have c31b0 : decide (t106 < 0) = false := decide_eq_false c31
                clear c31
                have H' := Aside0.mk H
                clear H
                have hcz36_0 : wr.cell? ⟨gb101, 0, none⟩ = some (.int .i64 a0_0) := (blk_cell BK101.out 0).trans rfl
                have hcz36_1 : wr.cell? ⟨gb101, 1, none⟩ = some (.slice A0_1 l0_1.length c0_1) := (blk_cell BK101.out 1).trans rfl
                have hfz36_0 := blk_frozen BK101.out 0
                have hfz36_1 := blk_frozen BK101.out 1
                go_wp2_with (first | ((with_reducible refine gate_callee (f := 128) rfl ?_); refine goesL_ (some 48) rfl rfl Try.func128 (by kernel_rfl) rfl #[.agg #[.int .i64 a0_0, .slice A0_1 l0_1.length c0_1], .int .i64 x37_3, .int .i64 x42_4, .bool true] rfl qz1 ?_; (with_reducible refine (impl_Lat_bound.calls k4 a0_0 _ _ l0_1 x37_3 x42_4 true t105 _ ?side1 ?side2 A26.out).mono ?_); (case side1 => exact qz17 HR0_1.out); (case side2 => exact HC0_1.out); rintro e w37 ⟨rfl, hb⟩; refine ⟨_, rfl, ?_⟩; have n0_ := Aside0.mk (blk_below (g := gb101) (o := .cells #[.int .i64 a0_0, .slice A0_1 l0_1.length c0_1] 47 (0, 0)) (qz8 BK101.out) hb); have n1_ := Aside0.mk (below_step (qz10 GE101.out) hb); clear BK101; clear HB; have BK101 := n0_; have HB := n1_; clear n0_ n1_; (try clear hb); (try clear hb2); (try clear hk); (try clear hi); have hcz38_0 : w37.cell? ⟨gb101, 0, none⟩ = some (.int .i64 a0_0) := (blk_cell BK101.out 0).trans rfl; have hcz38_1 : w37.cell? ⟨gb101, 1, none⟩ = some (.slice A0_1 l0_1.length c0_1) := (blk_cell BK101.out 1).trans rfl; have hfz38_0 := blk_frozen BK101.out 0; have hfz38_1 := blk_frozen BK101.out 1) | (go_at_call 128; (with_reducible refine (impl_Lat_bound.calls k4 a0_0 _ _ l0_1 x37_3 x42_4 false t106 _ ?side1 ?side2 A30.out).mono ?_); (case side1 => exact qz17 HR0_1.out); (case side2 => exact HC0_1.out); rintro e w39 ⟨rfl, hb⟩; have n0_ := Aside0.mk (blk_below (g := gb101) (o := .cells #[.int .i64 a0_0, .slice A0_1 l0_1.length c0_1] 47 (0, 0)) (qz8 BK101.out) hb); have n1_ := Aside0.mk (below_step (qz10 GE101.out) hb); clear BK101; clear HB; have BK101 := n0_; have HB := n1_; clear n0_ n1_; (try clear hb); (try clear hb2); (try clear hk); (try clear hi)))
                go_roundg k4
                case measure => have := HJ1.out; have := HK2.out; have := HK3.out; have := HK4.out; omega
                case rel => exact ⟨(wrap64 (x42_4 + 1)), qz2, H', ⟨qz32 HJ1.out HK2.out HK3.out HK4.out⟩, ⟨qz8 BK101.out⟩, ⟨qz10 GE101.out⟩⟩
             ·rw [if_neg c25] at H
              have c25b0 : decide (x42_4 < a0_0) = false := decide_eq_false c25
              clear c25
              have H' := Aside0.mk H
              clear H
              go_wp2
              go_roundg k4
              case measure => have := HJ1.out; have := HK2.out; have := HK3.out; have := HK4.out; omega
              case rel => exact ⟨(wrap64 (x37_3 + 1)), qz2, H', ⟨qz32 HJ1.out HK2.out HK3.out HK4.out⟩, ⟨qz8 BK101.out⟩, ⟨qz10 GE101.out⟩⟩
          ·rw [if_neg c23] at H
           have c23b0 : decide (x37_3 < a0_0) = false := decide_eq_false c23
           clear c23
           obtain rfl := Option.some.inj H
           go_wp2
           go_ret
           exact ⟨qz13, qz10 GE101.out⟩
       ·replace c19 := Bool.eq_false_iff.mpr c19
        subst c19
        have H1 : (some false) = some r := by rw [if_neg (show ¬ (false = true) by decide)] at H; exact H
        clear H
        have H := H1
        clear H1
        obtain rfl := Option.some.inj H
        have hcz40_0 : wr.cell? ⟨gb101, 0, none⟩ = some (.int .i64 a0_0) := (blk_cell BK101.out 0).trans rfl
        have hcz40_1 : wr.cell? ⟨gb101, 1, none⟩ = some (.slice A0_1 l0_1.length c0_1) := (blk_cell BK101.out 1).trans rfl
        have hfz40_0 := blk_frozen BK101.out 0
        have hfz40_1 := blk_frozen BK101.out 1
        go_wp2_with (first | ((with_reducible refine gate_callee (f := 211) rfl ?_); refine goesL_ (some 33) rfl rfl Try.func211 (by kernel_rfl) rfl #[.agg #[.int .i64 a0_0, .slice A0_1 l0_1.length c0_1]] rfl qz1 ?_; (with_reducible refine (impl_Lat_isOrder.calls k2 a0_0 _ _ l0_1 false _ ?side1 ?side2 A18.out).mono ?_); (case side1 => exact qz17 HR0_1.out); (case side2 => exact HC0_1.out); rintro e w41 ⟨rfl, hb⟩; refine ⟨_, rfl, ?_⟩; have n0_ := Aside0.mk (blk_below (g := gb101) (o := .cells #[.int .i64 a0_0, .slice A0_1 l0_1.length c0_1] 47 (0, 0)) (qz8 BK101.out) hb); have n1_ := Aside0.mk (below_step (qz10 GE101.out) hb); clear BK101; clear HB; have BK101 := n0_; have HB := n1_; clear n0_ n1_; (try clear hb); (try clear hb2); (try clear hk); (try clear hi)))
        go_ret
        exact ⟨qz13, qz10 GE101.out⟩

end Go.Proofs.Ytjhfjnknajhanaa.P

namespace Go.Proofs.Ytjhfjnknajhanaa.P
open Go.RowKit Go.Proofs.YtjhfjnknajhanaaW.PrintWords Go.Proofs.YtjhfjnknajhanaaW.PrintLast Go.Proofs.YtjhfjnknajhanaaW.PrintMore
attribute [local go_sem] max2_int min2_int max_two min_two max_three min_three max_four min_four   -- for this text's walks alone
set_option linter.unusedVariables false
set_option linter.unusedSimpArgs false

/-! ### impl_LatEdges: function 29 -/
set_option maxHeartbeats 8000000 in
set_option maxRecDepth 100000 in
theorem impl_LatEdges.calls (k : Nat) (a0_0 : Int) (A0_1 : Option Addr) (c0_1 : Nat) (l0_1 : List Int) (r : List (S151)) (w : World) (hr0_1 : Kd.C (Kd.int .u64) w A0_1 l0_1.length l0_1) (hc0_1 : l0_1.length ≤ c0_1) (h : impl_LatEdges.f k a0_0 l0_1 = some r) :
  Calls Try.prog 29 #[.agg #[.int .i64 a0_0, .slice A0_1 l0_1.length c0_1]] w fun e w' => ∃ v0_ : Value, e = .returned (v0_) ∧ Kd.R k151 151 w' w.heap.size (fun _ => True) v0_ r ∧ Below w.heap.size w w' := by
 have hu47 := Try.underlying47
 have hu151 := Try.underlying151
 have HR0_1 := Aside0.mk hr0_1
 have HC0_1 := Aside0.mk hc0_1
 clear hr0_1 hc0_1
 have HB := Aside0.mk (Below.refl w.heap.size w)
 have H : ((impl_isLat.f k a0_0 l0_1).bind fun t102 => (if t102 = true then (impl_LatEdges.l0 k (([] : List (S151))) a0_0 0 a0_0 l0_1) else (some ([] : List (S151))))) = some r := h
 clear h
 replace H := Option.bind_eq_some_iff.mp H
 obtain ⟨t102, A20, H⟩ := H
 replace H : (if t102 = true then (impl_LatEdges.l0 k (([] : List (S151))) a0_0 0 a0_0 l0_1) else (some ([] : List (S151)))) = some r := H
 have A2 := Aside0.mk A20
 clear A20
 by_cases c3 : t102 = true
 ·subst c3
  have H1 : (impl_LatEdges.l0 k (([] : List (S151))) a0_0 0 a0_0 l0_1) = some r := by rw [if_pos rfl] at H; exact H
  clear H
  have H := H1
  clear H1
  obtain ⟨y103, hy103⟩ : ∃ y_ : List (S151), y_ = (([] : List (S151))) := ⟨_, rfl⟩
  replace H : (impl_LatEdges.l0 k y103 a0_0 0 a0_0 l0_1) = some r := by first | (rw [hy103]; with_reducible exact H) | (have H2_ := (Option.bind_some _ _).symm.trans H; rw [hy103]; with_reducible exact H2_) | (have H2_ := (Option.bind_some _ _).symm.trans H; with_reducible exact H2_) | with_reducible exact H | (rw [hy103]; exact H) | exact H
  have Ny103 := Aside0.mk hy103
  clear hy103
  have H' := Aside0.mk H
  clear H
  go_enter Try.func29, Try.ntmps29
  go_wp2_with (first | ((with_reducible refine gate_dst (N := 1) rfl ?_); refine box_event ?hg (N := 1) ?hd (cs := #[.int .i64 a0_0, .slice A0_1 l0_1.length c0_1]) (t := 47) ?hr ?_; (case hd => rfl); (case hg => rfl); (case hr => exact qz5); intro gb101 hg w4 hbox hb; have n0_ := Aside0.mk (below_step qz6 hb); have n1_ := Aside0.mk (hbox); have n2_ := Aside0.mk ((qz7 : w.heap.size ≤ gb101)); have n3_ := Aside0.mk ((qz7 : w.heap.size ≤ gb101)); clear HB; have HB := n0_; have BK101 := n1_; have GW101 := n2_; have GE101 := n3_; clear n0_ n1_ n2_ n3_; clear hb hbox hg; have hcz5_0 : w4.cell? ⟨gb101, 0, none⟩ = some (.int .i64 a0_0) := (blk_cell BK101.out 0).trans rfl; have hcz5_1 : w4.cell? ⟨gb101, 1, none⟩ = some (.slice A0_1 l0_1.length c0_1) := (blk_cell BK101.out 1).trans rfl; have hfz5_0 := blk_frozen BK101.out 0; have hfz5_1 := blk_frozen BK101.out 1) | ((with_reducible refine gate_callee (f := 118) rfl ?_); refine goesL_ (some 9) rfl rfl Try.func118 (by kernel_rfl) rfl #[.agg #[.int .i64 a0_0, .slice A0_1 l0_1.length c0_1]] rfl qz1 ?_; (with_reducible refine (impl_isLat.calls k a0_0 _ _ l0_1 true _ ?side1 ?side2 A2.out).mono ?_); (case side1 => exact qz17 HR0_1.out); (case side2 => exact HC0_1.out); rintro e w6 ⟨rfl, hb⟩; refine ⟨_, rfl, ?_⟩; have n0_ := Aside0.mk (blk_below (g := gb101) (o := .cells #[.int .i64 a0_0, .slice A0_1 l0_1.length c0_1] 47 (0, 0)) (qz8 BK101.out) hb); have n1_ := Aside0.mk (below_step (qz10 GE101.out) hb); clear BK101; clear HB; have BK101 := n0_; have HB := n1_; clear n0_ n1_; (try clear hb); (try clear hb2); (try clear hk); (try clear hi)) | ((with_reducible refine gate_dst (N := 11) rfl ?_); refine Kd.R_lit k151 _ 151 ?hg (N := 11) ?hd (xs := ([] : List (S151))) (inner := []) (ok := fun _ => True) (okp := fun _ => True) ?hr ?hp (fun _ hk => hk) trivial (Below.refl _ _) (Nat.le_refl _) (by simp) ?_; (case hd => rfl); (case hg => rfl); (case hr => exact qz5); (case hp => exact qz22); intro v104 w7 ho8 hb hg_ hnew_; clear hg_ hnew_; (first | rw [← Ny103.out] at ho8 | (simp only [Int.reduceToNat] at ho8; rw [← Ny103.out] at ho8)); have n0_ := Aside0.mk (Kd.R_lower ho8 (below_size (qz10 GE101.out))); have n1_ := Aside0.mk (blk_below (g := gb101) (o := .cells #[.int .i64 a0_0, .slice A0_1 l0_1.length c0_1] 47 (0, 0)) (qz8 BK101.out) hb); have n2_ := Aside0.mk (below_step (qz10 GE101.out) hb); clear BK101; clear HB; have HO105 := n0_; have BK101 := n1_; have HB := n2_; clear n0_ n1_ n2_; clear hb ho8; have hcz9_0 : w7.cell? ⟨gb101, 0, none⟩ = some (.int .i64 a0_0) := (blk_cell BK101.out 0).trans rfl; have hcz9_1 : w7.cell? ⟨gb101, 1, none⟩ = some (.slice A0_1 l0_1.length c0_1) := (blk_cell BK101.out 1).trans rfl; have hfz9_0 := blk_frozen BK101.out 0; have hfz9_1 := blk_frozen BK101.out 1))
  go_loopg [3, 14] k (fun kq v3 v14 w' => ∃ (x3_1 : List (S151)) (x14_1 : Int), v14 = .int .i64 x14_1 ∧ Aside0 (impl_LatEdges.l0 kq x3_1 a0_0 x14_1 a0_0 l0_1 = some r) ∧ Aside0 (kq ≤ k) ∧ Aside0 (Kd.R k151 151 w' w.heap.size (fun _ => True) v3 x3_1) ∧ Aside0 (w'.heap[gb101]? = some (.cells #[.int .i64 a0_0, (.slice A0_1 l0_1.length c0_1)] 47 (0, 0))) ∧ Aside0 (Below w.heap.size w w'))
  case atStart => exact ⟨(y103), (0), qz2, H', ⟨Nat.le_refl _⟩, ⟨qz21 HO105.out⟩, ⟨qz8 BK101.out⟩, ⟨qz10 GE101.out⟩⟩
  case round =>
   clear H'
   try clear c1
   try clear c2
   try clear p2
   try clear c3
   try clear hcz5_0
   try clear hcz5_1
   try clear hcz9_0
   try clear hcz9_1
   try clear hfz5_0
   try clear hfz5_1
   try clear hfz9_0
   try clear hfz9_1
   obtain ⟨x3_1, x14_1, rfl, HA, HK1, HO_3, BK101, HB⟩ := hrel
   cases gk with
   | zero => exact absurd HA.out (by simp [impl_LatEdges.l0])
   | succ k1 =>
    have H := HA.out
    clear HA
    simp only [impl_LatEdges.l0] at H
    by_cases c10 : x14_1 < a0_0
    ·rw [if_pos c10] at H
     have c10b0 : decide (x14_1 < a0_0) = true := decide_eq_true c10
     clear c10
     have H' := Aside0.mk H
     clear H
     have hcz11_0 : wr.cell? ⟨gb101, 0, none⟩ = some (.int .i64 a0_0) := (blk_cell BK101.out 0).trans rfl
     have hcz11_1 : wr.cell? ⟨gb101, 1, none⟩ = some (.slice A0_1 l0_1.length c0_1) := (blk_cell BK101.out 1).trans rfl
     have hfz11_0 := blk_frozen BK101.out 0
     have hfz11_1 := blk_frozen BK101.out 1
     go_wp2
     go_loopg [3, 19] k1 (fun kq v3 v19 w' => ∃ (x3_2 : List (S151)) (x19_2 : Int), v19 = .int .i64 x19_2 ∧ Aside0 (impl_LatEdges.l1 kq x3_2 x14_1 a0_0 x14_1 a0_0 x19_2 a0_0 l0_1 = some r) ∧ Aside0 (kq ≤ k1) ∧ Aside0 (Kd.R k151 151 w' w.heap.size (fun _ => True) v3 x3_2) ∧ Aside0 (w'.heap[gb101]? = some (.cells #[.int .i64 a0_0, (.slice A0_1 l0_1.length c0_1)] 47 (0, 0))) ∧ Aside0 (Below w.heap.size w w'))
     case atStart => exact ⟨(x3_1), (0), qz2, H', ⟨Nat.le_refl _⟩, ⟨qz29⟩, ⟨qz8 BK101.out⟩, ⟨qz10 GE101.out⟩⟩
     case round =>
      clear H'
      try clear c1
      try clear c2
      try clear p2
      try clear c3
      try clear c10
      try clear c10b0
      try clear c11
      try clear hcz11_0
      try clear hcz11_1
      try clear hcz5_0
      try clear hcz5_1
      try clear hcz9_0
      try clear hcz9_1
      try clear hfz11_0
      try clear hfz11_1
      try clear hfz5_0
      try clear hfz5_1
      try clear hfz9_0
      try clear hfz9_1
      try clear p2
      obtain ⟨x3_2, x19_2, rfl, HA, HK2, HO_3, BK101, HB⟩ := hrel
      cases gk with
      | zero => exact absurd HA.out (by simp [impl_LatEdges.l1])
      | succ k2 =>
       have H := HA.out
       clear HA
       simp only [impl_LatEdges.l1] at H
       by_cases c12 : x19_2 < a0_0
       ·rw [if_pos c12] at H
        have c12b0 : decide (x19_2 < a0_0) = true := decide_eq_true c12
        clear c12
        have HC13 := Aside0.mk H
        clear H
        go_upto_region 10 with (fail)
        go_cut [31] (fun v31 wc => ∃ (kq : Nat) (x31_12 : Bool), v31 = .bool x31_12 ∧ Aside0 (impl_LatEdges.j2 kq x3_2 x14_1 x19_2 a0_0 x14_1 a0_0 x19_2 x31_12 a0_0 l0_1 = some r) ∧ Aside0 (kq ≤ k2) ∧ Aside0 (Kd.R k151 151 wc w.heap.size (fun _ => True) u3 x3_2) ∧ Aside0 (wc.heap[gb101]? = some (.cells #[.int .i64 a0_0, (.slice A0_1 l0_1.length c0_1)] 47 (0, 0))) ∧ Aside0 (Below w.heap.size w wc))
        case first =>
         have H := HC13.out
         clear HC13
         by_cases c14 : x14_1 = x19_2
         ·rw [if_pos c14] at H
          have c14b0 : (x14_1 == x19_2) = true := beq_iff_eq.mpr c14
          have c14b1 : (x14_1 != x19_2) = false := bne_eq_false_iff_eq.mpr c14
          clear c14
          (first | rw [c14b0] | (simp only [i64_w, i32_w]; rw [c14b0]) | skip)
          have H' := Aside0.mk H
          clear H
          go_wp2
          go_meet
          case rel => exact ⟨_, (true), qz2, H', ⟨qz30 HK1.out HK2.out⟩, ⟨qz29⟩, ⟨qz8 BK101.out⟩, ⟨qz10 GE101.out⟩⟩
         ·rw [if_neg c14] at H
          have c14b0 : (x14_1 == x19_2) = false := beq_eq_false_iff_ne.mpr c14
          have c14b1 : (x14_1 != x19_2) = true := bne_iff_ne.mpr c14
          (first | rw [c14b0] | (simp only [i64_w, i32_w]; rw [c14b0]) | skip)
          replace H := Option.bind_eq_some_iff.mp H
          obtain ⟨t106, A150, H⟩ := H
          replace H : (impl_LatEdges.j2 k2 x3_2 x14_1 x19_2 a0_0 x14_1 a0_0 x19_2 (!t106) a0_0 l0_1) = some r := H
          have A15 := Aside0.mk A150
          clear A150
          have H' := Aside0.mk H
          clear H
          have hcz16_0 : wr.cell? ⟨gb101, 0, none⟩ = some (.int .i64 a0_0) := (blk_cell BK101.out 0).trans rfl
          have hcz16_1 : wr.cell? ⟨gb101, 1, none⟩ = some (.slice A0_1 l0_1.length c0_1) := (blk_cell BK101.out 1).trans rfl
          have hfz16_0 := blk_frozen BK101.out 0
          have hfz16_1 := blk_frozen BK101.out 1
          go_wp2_with (first | (go_at_call 119; (with_reducible refine (impl_Lat_le.calls a0_0 _ _ l0_1 x14_1 x19_2 t106 _ ?side1 ?side2 A15.out).mono ?_); (case side1 => exact qz17 HR0_1.out); (case side2 => exact HC0_1.out); rintro e w17 ⟨rfl, hb⟩; have n0_ := Aside0.mk (Kd.R_below qz29 hb); have n1_ := Aside0.mk (blk_below (g := gb101) (o := .cells #[.int .i64 a0_0, .slice A0_1 l0_1.length c0_1] 47 (0, 0)) (qz8 BK101.out) hb); have n2_ := Aside0.mk (below_step (qz10 GE101.out) hb); clear HO_3; clear BK101; clear HB; have HO_3 := n0_; have BK101 := n1_; have HB := n2_; clear n0_ n1_ n2_; (try clear hb); (try clear hb2); (try clear hk); (try clear hi)))
          go_meet
          case rel => exact ⟨_, (!t106), qz2, H', ⟨qz30 HK1.out HK2.out⟩, ⟨qz29⟩, ⟨qz8 BK101.out⟩, ⟨qz10 GE101.out⟩⟩
        case rest =>
         clear HC13
         try clear c1
         try clear c2
         try clear p2
         try clear c3
         try clear c10
         try clear c10b0
         try clear c11
         try clear c12
         try clear c12b0
         try clear c14
         try clear c14b0
         try clear c14b1
         try clear hcz11_0
         try clear hcz11_1
         try clear hcz16_0
         try clear hcz16_1
         try clear hcz5_0
         try clear hcz5_1
         try clear hcz9_0
         try clear hcz9_1
         try clear hfz11_0
         try clear hfz11_1
         try clear hfz16_0
         try clear hfz16_1
         try clear hfz5_0
         try clear hfz5_1
         try clear hfz9_0
         try clear hfz9_1
         try clear p2
         obtain ⟨kq, x31_12, rfl, HA, HJ12, HO_3, BK101, HB⟩ := hcut
         cases kq with
         | zero => exact absurd HA.out (by simp [impl_LatEdges.j2])
         | succ kj12 =>
          have H := HA.out
          clear HA
          simp only [impl_LatEdges.j2] at H
          by_cases c18 : x31_12 = true
          ·subst c18
           have H1 : (impl_LatEdges.l1 kj12 x3_2 x14_1 a0_0 x14_1 a0_0 (wrap64 (x19_2 + 1)) a0_0 l0_1) = some r := by rw [if_pos rfl] at H; exact H
           clear H
           have H := H1
           clear H1
           have H' := Aside0.mk H
           clear H
           go_wp2
           go_roundg kj12
           case measure => have := HK1.out; have := HK2.out; have := HJ12.out; omega
           case rel => exact ⟨(x3_2), (wrap64 (x19_2 + 1)), qz2, H', ⟨qz31 HK1.out HK2.out HJ12.out⟩, ⟨qz29⟩, ⟨qz8 BK101.out⟩, ⟨qz10 GE101.out⟩⟩
          ·replace c18 := Bool.eq_false_iff.mpr c18
           subst c18
           have H1 : (impl_LatEdges.l2 kj12 x3_2 x14_1 x19_2 false a0_0 x14_1 a0_0 x19_2 a0_0 0 a0_0 l0_1) = some r := by rw [if_neg (show ¬ (false = true) by decide)] at H; exact H
           clear H
           have H := H1
           clear H1
           have H' := Aside0.mk H
           clear H
           have hcz19_0 : wc.cell? ⟨gb101, 0, none⟩ = some (.int .i64 a0_0) := (blk_cell BK101.out 0).trans rfl
           have hcz19_1 : wc.cell? ⟨gb101, 1, none⟩ = some (.slice A0_1 l0_1.length c0_1) := (blk_cell BK101.out 1).trans rfl
           have hfz19_0 := blk_frozen BK101.out 0
           have hfz19_1 := blk_frozen BK101.out 1
           go_wp2
           go_loopg [6, 34] kj12 (fun kq v6 v34 w' => ∃ (x6_4 : Bool) (x34_4 : Int), v6 = .bool x6_4 ∧ v34 = .int .i64 x34_4 ∧ Aside0 (impl_LatEdges.l2 kq x3_2 x14_1 x19_2 x6_4 a0_0 x14_1 a0_0 x19_2 a0_0 x34_4 a0_0 l0_1 = some r) ∧ Aside0 (kq ≤ kj12) ∧ Aside0 (Kd.R k151 151 w' w.heap.size (fun _ => True) u3 x3_2) ∧ Aside0 (w'.heap[gb101]? = some (.cells #[.int .i64 a0_0, (.slice A0_1 l0_1.length c0_1)] 47 (0, 0))) ∧ Aside0 (Below w.heap.size w w'))
           case atStart => exact ⟨(false), (0), qz2, qz2, H', ⟨Nat.le_refl _⟩, ⟨qz29⟩, ⟨qz8 BK101.out⟩, ⟨qz10 GE101.out⟩⟩
           case round =>
            clear H'
            try clear c1
            try clear c2
            try clear p2
            try clear c3
            try clear p6
            try clear c10
            try clear c10b0
            try clear c11
            try clear c12
            try clear c12b0
            try clear c14
            try clear c14b0
            try clear c14b1
            try clear c18
            try clear hcz11_0
            try clear hcz11_1
            try clear hcz16_0
            try clear hcz16_1
            try clear hcz19_0
            try clear hcz19_1
            try clear hcz5_0
            try clear hcz5_1
            try clear hcz9_0
            try clear hcz9_1
            try clear hfz11_0
            try clear hfz11_1
            try clear hfz16_0
            try clear hfz16_1
            try clear hfz19_0
            try clear hfz19_1
            try clear hfz5_0
            try clear hfz5_1
            try clear hfz9_0
            try clear hfz9_1
            try clear p2
            obtain ⟨x6_4, x34_4, rfl, rfl, HA, HK4, HO_3, BK101, HB⟩ := hrel
            cases gk with
            | zero => exact absurd HA.out (by simp [impl_LatEdges.l2])
            | succ k4 =>
             have H := HA.out
             clear HA
             simp only [impl_LatEdges.l2] at H
             by_cases c20 : x34_4 < a0_0
             ·rw [if_pos c20] at H
              have c20b0 : decide (x34_4 < a0_0) = true := decide_eq_true c20
              clear c20
              by_cases c21 : x6_4 = true
              ·subst c21
               have H1 : (impl_LatEdges.l2 k4 x3_2 x14_1 x19_2 true a0_0 x14_1 a0_0 x19_2 a0_0 (wrap64 (x34_4 + 1)) a0_0 l0_1) = some r := by rw [if_pos rfl] at H; exact H
               clear H
               have H := H1
               clear H1
               have H' := Aside0.mk H
               clear H
               go_wp2
               go_roundg k4
               case measure => have := HK1.out; have := HK2.out; have := HJ12.out; have := HK4.out; omega
               case rel => exact ⟨(true), (wrap64 (x34_4 + 1)), qz2, qz2, H', ⟨qz32 HK1.out HK2.out HJ12.out HK4.out⟩, ⟨qz29⟩, ⟨qz8 BK101.out⟩, ⟨qz10 GE101.out⟩⟩
              ·replace c21 := Bool.eq_false_iff.mpr c21
               subst c21
               have H1 : (if x34_4 = x14_1 then (impl_LatEdges.l2 k4 x3_2 x14_1 x19_2 false a0_0 x14_1 a0_0 x19_2 a0_0 (wrap64 (x34_4 + 1)) a0_0 l0_1) else (if x34_4 = x19_2 then (impl_LatEdges.l2 k4 x3_2 x14_1 x19_2 false a0_0 x14_1 a0_0 x19_2 a0_0 (wrap64 (x34_4 + 1)) a0_0 l0_1) else ((impl_Lat_le.f a0_0 l0_1 x14_1 x34_4).bind fun t107 => (if t107 = true then ((impl_Lat_le.f a0_0 l0_1 x34_4 x19_2).bind fun t108 => (impl_LatEdges.l2 k4 x3_2 x14_1 x19_2 t108 a0_0 x14_1 a0_0 x19_2 a0_0 (wrap64 (x34_4 + 1)) a0_0 l0_1)) else (impl_LatEdges.l2 k4 x3_2 x14_1 x19_2 false a0_0 x14_1 a0_0 x19_2 a0_0 (wrap64 (x34_4 + 1)) a0_0 l0_1))))) = some r := by rw [if_neg (show ¬ (false = true) by decide)] at H; exact H
               clear H
               have H := H1
               clear H1
               by_cases c22 : x34_4 = x14_1
               ·rw [if_pos c22] at H
                have c22b0 : (x34_4 == x14_1) = true := beq_iff_eq.mpr c22
                have c22b1 : (x34_4 != x14_1) = false := bne_eq_false_iff_eq.mpr c22
                clear c22
                have H' := Aside0.mk H
                clear H
                go_wp2
                go_roundg k4
                case measure => have := HK1.out; have := HK2.out; have := HJ12.out; have := HK4.out; omega
                case rel => exact ⟨(false), (wrap64 (x34_4 + 1)), qz2, qz2, H', ⟨qz32 HK1.out HK2.out HJ12.out HK4.out⟩, ⟨qz29⟩, ⟨qz8 BK101.out⟩, ⟨qz10 GE101.out⟩⟩
               ·rw [if_neg c22] at H
                have c22b0 : (x34_4 == x14_1) = false := beq_eq_false_iff_ne.mpr c22
                have c22b1 : (x34_4 != x14_1) = true := bne_iff_ne.mpr c22
                by_cases c23 : x34_4 = x19_2
                ·rw [if_pos c23] at H
                 have c23b0 : (x34_4 == x19_2) = true := beq_iff_eq.mpr c23
                 have c23b1 : (x34_4 != x19_2) = false := bne_eq_false_iff_eq.mpr c23
                 clear c23
                 have H' := Aside0.mk H
                 clear H
                 go_wp2
                 go_roundg k4
                 case measure => have := HK1.out; have := HK2.out; have := HJ12.out; have := HK4.out; omega
                 case rel => exact ⟨(false), (wrap64 (x34_4 + 1)), qz2, qz2, H', ⟨qz32 HK1.out HK2.out HJ12.out HK4.out⟩, ⟨qz29⟩, ⟨qz8 BK101.out⟩, ⟨qz10 GE101.out⟩⟩
                ·rw [if_neg c23] at H
                 have c23b0 : (x34_4 == x19_2) = false := beq_eq_false_iff_ne.mpr c23
                 have c23b1 : (x34_4 != x19_2) = true := bne_iff_ne.mpr c23
                 replace H := Option.bind_eq_some_iff.mp H
                 obtain ⟨t107, A240, H⟩ := H
                 replace H : (if t107 = true then ((impl_Lat_le.f a0_0 l0_1 x34_4 x19_2).bind fun t108 => (impl_LatEdges.l2 k4 x3_2 x14_1 x19_2 t108 a0_0 x14_1 a0_0 x19_2 a0_0 (wrap64 (x34_4 + 1)) a0_0 l0_1)) else (impl_LatEdges.l2 k4 x3_2 x14_1 x19_2 false a0_0 x14_1 a0_0 x19_2 a0_0 (wrap64 (x34_4 + 1)) a0_0 l0_1)) = some r := H
                 have A24 := Aside0.mk A240
                 clear A240
                 by_cases c25 : t107 = true
                 ·subst c25
                  have H1 : ((impl_Lat_le.f a0_0 l0_1 x34_4 x19_2).bind fun t108 => (impl_LatEdges.l2 k4 x3_2 x14_1 x19_2 t108 a0_0 x14_1 a0_0 x19_2 a0_0 (wrap64 (x34_4 + 1)) a0_0 l0_1)) = some r := by rw [if_pos rfl] at H; exact H
                  clear H
                  have H := H1
                  clear H1
                  replace H := Option.bind_eq_some_iff.mp H
                  obtain ⟨t108, A260, H⟩ := H
                  replace H : (impl_LatEdges.l2 k4 x3_2 x14_1 x19_2 t108 a0_0 x14_1 a0_0 x19_2 a0_0 (wrap64 (x34_4 + 1)) a0_0 l0_1) = some r := H
                  have A26 := Aside0.mk A260
                  clear A260
                  have H' := Aside0.mk H
                  clear H
                  have hcz27_0 : wr.cell? ⟨gb101, 0, none⟩ = some (.int .i64 a0_0) := (blk_cell BK101.out 0).trans rfl
                  have hcz27_1 : wr.cell? ⟨gb101, 1, none⟩ = some (.slice A0_1 l0_1.length c0_1) := (blk_cell BK101.out 1).trans rfl
                  have hfz27_0 := blk_frozen BK101.out 0
                  have hfz27_1 := blk_frozen BK101.out 1
                  go_wp2_with (first | (go_at_call 119; (with_reducible refine (impl_Lat_le.calls a0_0 _ _ l0_1 x14_1 x34_4 true _ ?side1 ?side2 A24.out).mono ?_); (case side1 => exact qz17 HR0_1.out); (case side2 => exact HC0_1.out); rintro e w28 ⟨rfl, hb⟩; have n0_ := Aside0.mk (Kd.R_below qz29 hb); have n1_ := Aside0.mk (blk_below (g := gb101) (o := .cells #[.int .i64 a0_0, .slice A0_1 l0_1.length c0_1] 47 (0, 0)) (qz8 BK101.out) hb); have n2_ := Aside0.mk (below_step (qz10 GE101.out) hb); clear HO_3; clear BK101; clear HB; have HO_3 := n0_; have BK101 := n1_; have HB := n2_; clear n0_ n1_ n2_; (try clear hb); (try clear hb2); (try clear hk); (try clear hi); have hcz29_0 : w28.cell? ⟨gb101, 0, none⟩ = some (.int .i64 a0_0) := (blk_cell BK101.out 0).trans rfl; have hcz29_1 : w28.cell? ⟨gb101, 1, none⟩ = some (.slice A0_1 l0_1.length c0_1) := (blk_cell BK101.out 1).trans rfl; have hfz29_0 := blk_frozen BK101.out 0; have hfz29_1 := blk_frozen BK101.out 1) | (go_at_call 119; (with_reducible refine (impl_Lat_le.calls a0_0 _ _ l0_1 x34_4 x19_2 t108 _ ?side1 ?side2 A26.out).mono ?_); (case side1 => exact qz17 HR0_1.out); (case side2 => exact HC0_1.out); rintro e w30 ⟨rfl, hb⟩; have n0_ := Aside0.mk (Kd.R_below qz29 hb); have n1_ := Aside0.mk (blk_below (g := gb101) (o := .cells #[.int .i64 a0_0, .slice A0_1 l0_1.length c0_1] 47 (0, 0)) (qz8 BK101.out) hb); have n2_ := Aside0.mk (below_step (qz10 GE101.out) hb); clear HO_3; clear BK101; clear HB; have HO_3 := n0_; have BK101 := n1_; have HB := n2_; clear n0_ n1_ n2_; (try clear hb); (try clear hb2); (try clear hk); (try clear hi)))
                  go_roundg k4
                  case measure => have := HK1.out; have := HK2.out; have := HJ12.out; have := HK4.out; omega
                  case rel => exact ⟨(t108), (wrap64 (x34_4 + 1)), qz2, qz2, H', ⟨qz32 HK1.out HK2.out HJ12.out HK4.out⟩, ⟨qz29⟩, ⟨qz8 BK101.out⟩, ⟨qz10 GE101.out⟩⟩
                 ·replace c25 := Bool.eq_false_iff.mpr c25
                  subst c25
                  have H1 : (impl_LatEdges.l2 k4 x3_2 x14_1 x19_2 false a0_0 x14_1 a0_0 x19_2 a0_0 (wrap64 (x34_4 + 1)) a0_0 l0_1) = some r := by rw [if_neg (show ¬ (false = true) by decide)] at H; exact H
                  clear H
                  have H := H1
                  clear H1
                  have H' := Aside0.mk H
                  clear H
                  have hcz31_0 : wr.cell? ⟨gb101, 0, none⟩ = some (.int .i64 a0_0) := (blk_cell BK101.out 0).trans rfl
                  have hcz31_1 : wr.cell? ⟨gb101, 1, none⟩ = some (.slice A0_1 l0_1.length c0_1) := (blk_cell BK101.out 1).trans rfl
                  have hfz31_0 := blk_frozen BK101.out 0
                  have hfz31_1 := blk_frozen BK101.out 1
                  go_wp2_with (first | (go_at_call 119; (with_reducible refine (impl_Lat_le.calls a0_0 _ _ l0_1 x14_1 x34_4 false _ ?side1 ?side2 A24.out).mono ?_); (case side1 => exact qz17 HR0_1.out); (case side2 => exact HC0_1.out); rintro e w32 ⟨rfl, hb⟩; have n0_ := Aside0.mk (Kd.R_below qz29 hb); have n1_ := Aside0.mk (blk_below (g := gb101) (o := .cells #[.int .i64 a0_0, .slice A0_1 l0_1.length c0_1] 47 (0, 0)) (qz8 BK101.out) hb); have n2_ := Aside0.mk (below_step (qz10 GE101.out) hb); clear HO_3; clear BK101; clear HB; have HO_3 := n0_; have BK101 := n1_; have HB := n2_; clear n0_ n1_ n2_; (try clear hb); (try clear hb2); (try clear hk); (try clear hi)))
                  go_roundg k4
                  case measure => have := HK1.out; have := HK2.out; have := HJ12.out; have := HK4.out; omega
                  case rel => exact ⟨(false), (wrap64 (x34_4 + 1)), qz2, qz2, H', ⟨qz32 HK1.out HK2.out HJ12.out HK4.out⟩, ⟨qz29⟩, ⟨qz8 BK101.out⟩, ⟨qz10 GE101.out⟩⟩
             ·rw [if_neg c20] at H
              have c20b0 : decide (x34_4 < a0_0) = false := decide_eq_false c20
              clear c20
              by_cases c33 : x6_4 = true
              ·subst c33
               have H1 : (impl_LatEdges.l1 k4 x3_2 x14_1 a0_0 x14_1 a0_0 (wrap64 (x19_2 + 1)) a0_0 l0_1) = some r := by rw [if_pos rfl] at H; exact H
               clear H
               have H := H1
               clear H1
               have H' := Aside0.mk H
               clear H
               go_wp2
               go_roundg k4
               case measure => have := HK1.out; have := HK2.out; have := HJ12.out; have := HK4.out; omega
               case rel => exact ⟨(x3_2), (wrap64 (x19_2 + 1)), qz2, H', ⟨qz32 HK1.out HK2.out HJ12.out HK4.out⟩, ⟨qz29⟩, ⟨qz8 BK101.out⟩, ⟨qz10 GE101.out⟩⟩
              ·replace c33 := Bool.eq_false_iff.mpr c33
               subst c33
               have H1 : (if x3_2.length < 8796093022208 then (impl_LatEdges.l1 k4 (x3_2 ++ [(⟨x14_1, x19_2⟩ : S151)]) x14_1 a0_0 x14_1 a0_0 (wrap64 (x19_2 + 1)) a0_0 l0_1) else (none)) = some r := by rw [if_neg (show ¬ (false = true) by decide)] at H; exact H
               clear H
               have H := H1
               clear H1
               by_cases c34 : x3_2.length < 8796093022208
               ·rw [if_pos c34] at H
                have LMc34 := Aside0.mk c34
                clear c34
                obtain ⟨y109, hy109⟩ : ∃ y_ : List (S151), y_ = (x3_2 ++ [(⟨x14_1, x19_2⟩ : S151)]) := ⟨_, rfl⟩
                replace H : (impl_LatEdges.l1 k4 y109 x14_1 a0_0 x14_1 a0_0 (wrap64 (x19_2 + 1)) a0_0 l0_1) = some r := by first | (rw [hy109]; with_reducible exact H) | (have H2_ := (Option.bind_some _ _).symm.trans H; rw [hy109]; with_reducible exact H2_) | (have H2_ := (Option.bind_some _ _).symm.trans H; with_reducible exact H2_) | with_reducible exact H | (rw [hy109]; exact H) | exact H
                have Ny109 := Aside0.mk hy109
                clear hy109
                have H' := Aside0.mk H
                clear H
                go_wp2_with (first | ((with_reducible refine gate_builtin (b := .append) (xs := #[.tmp 63, .tmp 67]) rfl ?_); at_builtin; refine Kd.R_append k151 (w0 := w) w.heap.size rfl (.tmp 63) (.tmp 67) 49 151 (.agg #[(.int .i64 0), (.int .i64 0)]) 16 rfl Try.underlying49 info151 rfl (by decide) (by omega) u3 x3_2 (⟨x14_1, x19_2⟩ : S151) [.int .i64 x14_1, .int .i64 x19_2] (fun _ => True) (fun _ => False) rfl rfl ?aP (fun _ hk => hk.elim) ?aF ?aO ?aB ?aS ?aL ?_; (case aP => exact k151_mkM _ _ _ (⟨x14_1, x19_2⟩ : S151)); (case aB => exact qz25 GE101.out); (case aF => exact qz26); (case aO => exact qz33); (case aS => exact qz28 GE101.out); (case aL => have := LMc34.out; omega); intro v110 w35 ho hb hg hat; rw [← Ny109.out] at ho; have n0_ := Aside0.mk (blk_grown (g := gb101) (o := .cells #[.int .i64 a0_0, .slice A0_1 l0_1.length c0_1] 47 (0, 0)) (qz8 BK101.out) hg (Kd.R_ne HO_3.out BK101.out (by decide))); have n1_ := Aside0.mk (hb); have n2_ := Aside0.mk (ho); clear BK101; clear HB; clear HO_3; have BK101 := n0_; have HB := n1_; have HO111 := n2_; clear n0_ n1_ n2_; clear ho hb hg hat))
                go_roundg k4
                case measure => have := HK1.out; have := HK2.out; have := HJ12.out; have := HK4.out; omega
                case rel => exact ⟨(y109), (wrap64 (x19_2 + 1)), qz2, H', ⟨qz32 HK1.out HK2.out HJ12.out HK4.out⟩, ⟨qz21 HO111.out⟩, ⟨qz8 BK101.out⟩, ⟨qz10 GE101.out⟩⟩
               ·rw [if_neg c34] at H
                exact absurd H (by simp)
       ·rw [if_neg c12] at H
        have c12b0 : decide (x19_2 < a0_0) = false := decide_eq_false c12
        clear c12
        have H' := Aside0.mk H
        clear H
        go_wp2
        go_roundg k2
        case measure => have := HK1.out; have := HK2.out; omega
        case rel => exact ⟨(x3_2), (wrap64 (x14_1 + 1)), qz2, H', ⟨qz34 HK1.out HK2.out⟩, ⟨qz29⟩, ⟨qz8 BK101.out⟩, ⟨qz10 GE101.out⟩⟩
    ·rw [if_neg c10] at H
     have c10b0 : decide (x14_1 < a0_0) = false := decide_eq_false c10
     clear c10
     obtain rfl := Option.some.inj H
     go_wp2
     go_ret
     exact ⟨_, qz13, qz29, qz10 GE101.out⟩
 ·replace c3 := Bool.eq_false_iff.mpr c3
  subst c3
  have H1 : (some ([] : List (S151))) = some r := by rw [if_neg (show ¬ (false = true) by decide)] at H; exact H
  clear H
  have H := H1
  clear H1
  obtain rfl := Option.some.inj H
  go_enter Try.func29, Try.ntmps29
  go_wp2_with (first | ((with_reducible refine gate_dst (N := 1) rfl ?_); refine box_event ?hg (N := 1) ?hd (cs := #[.int .i64 a0_0, .slice A0_1 l0_1.length c0_1]) (t := 47) ?hr ?_; (case hd => rfl); (case hg => rfl); (case hr => exact qz5); intro gb101 hg w36 hbox hb; have n0_ := Aside0.mk (below_step qz6 hb); have n1_ := Aside0.mk (hbox); have n2_ := Aside0.mk ((qz7 : w.heap.size ≤ gb101)); have n3_ := Aside0.mk ((qz7 : w.heap.size ≤ gb101)); clear HB; have HB := n0_; have BK101 := n1_; have GW101 := n2_; have GE101 := n3_; clear n0_ n1_ n2_ n3_; clear hb hbox hg; have hcz37_0 : w36.cell? ⟨gb101, 0, none⟩ = some (.int .i64 a0_0) := (blk_cell BK101.out 0).trans rfl; have hcz37_1 : w36.cell? ⟨gb101, 1, none⟩ = some (.slice A0_1 l0_1.length c0_1) := (blk_cell BK101.out 1).trans rfl; have hfz37_0 := blk_frozen BK101.out 0; have hfz37_1 := blk_frozen BK101.out 1) | ((with_reducible refine gate_callee (f := 118) rfl ?_); refine goesL_ (some 9) rfl rfl Try.func118 (by kernel_rfl) rfl #[.agg #[.int .i64 a0_0, .slice A0_1 l0_1.length c0_1]] rfl qz1 ?_; (with_reducible refine (impl_isLat.calls k a0_0 _ _ l0_1 false _ ?side1 ?side2 A2.out).mono ?_); (case side1 => exact qz17 HR0_1.out); (case side2 => exact HC0_1.out); rintro e w38 ⟨rfl, hb⟩; refine ⟨_, rfl, ?_⟩; have n0_ := Aside0.mk (blk_below (g := gb101) (o := .cells #[.int .i64 a0_0, .slice A0_1 l0_1.length c0_1] 47 (0, 0)) (qz8 BK101.out) hb); have n1_ := Aside0.mk (below_step (qz10 GE101.out) hb); clear BK101; clear HB; have BK101 := n0_; have HB := n1_; clear n0_ n1_; (try clear hb); (try clear hb2); (try clear hk); (try clear hi)))
  go_ret
  exact ⟨_, qz13, qz15, qz10 GE101.out⟩

end Go.Proofs.Ytjhfjnknajhanaa.P

namespace Go.Proofs.Ytjhfjnknajhanaa.P
open Go.RowKit Go.Proofs.YtjhfjnknajhanaaW.PrintWords Go.Proofs.YtjhfjnknajhanaaW.PrintLast Go.Proofs.YtjhfjnknajhanaaW.PrintMore
attribute [local go_sem] max2_int min2_int max_two min_two max_three min_three max_four min_four   -- for this text's walks alone
set_option linter.unusedVariables false
set_option linter.unusedSimpArgs false

/-! ### impl_Lat_has: function 124 -/
set_option maxHeartbeats 8000000 in
set_option maxRecDepth 100000 in
theorem impl_Lat_has.calls (a0_0 : Int) (A0_1 : Option Addr) (c0_1 : Nat) (l0_1 : List Int) (a1 : Int) (r : Bool) (w : World) (hr0_1 : Kd.C (Kd.int .u64) w A0_1 l0_1.length l0_1) (hc0_1 : l0_1.length ≤ c0_1) (h : impl_Lat_has.f a0_0 l0_1 a1 = some r) :
  Calls Try.prog 124 #[.agg #[.int .i64 a0_0, .slice A0_1 l0_1.length c0_1], .int .i64 a1] w fun e w' => e = .returned (.bool r) ∧ Below w.heap.size w w' := by
 have hu47 := Try.underlying47
 have HR0_1 := Aside0.mk hr0_1
 have HC0_1 := Aside0.mk hc0_1
 clear hr0_1 hc0_1
 have HB := Aside0.mk (Below.refl w.heap.size w)
 have H : ((impl_in.f a1 0 (wrap64 (a0_0 - 1))).bind fun t102 => (some t102)) = some r := h
 clear h
 replace H := Option.bind_eq_some_iff.mp H
 obtain ⟨t102, A30, H⟩ := H
 replace H : (some t102) = some r := H
 have A3 := Aside0.mk A30
 clear A30
 obtain rfl := Option.some.inj H
 go_enter Try.func124, Try.ntmps124
 go_wp2_with (first | ((with_reducible refine gate_dst (N := 2) rfl ?_); refine box_event ?hg (N := 2) ?hd (cs := #[.int .i64 a0_0, .slice A0_1 l0_1.length c0_1]) (t := 47) ?hr ?_; (case hd => rfl); (case hg => rfl); (case hr => exact qz5); intro gb101 hg w4 hbox hb; have n0_ := Aside0.mk (below_step qz6 hb); have n1_ := Aside0.mk (hbox); have n2_ := Aside0.mk ((qz7 : w.heap.size ≤ gb101)); have n3_ := Aside0.mk ((qz7 : w.heap.size ≤ gb101)); clear HB; have HB := n0_; have BK101 := n1_; have GW101 := n2_; have GE101 := n3_; clear n0_ n1_ n2_ n3_; clear hb hbox hg; have hcz5_0 : w4.cell? ⟨gb101, 0, none⟩ = some (.int .i64 a0_0) := (blk_cell BK101.out 0).trans rfl; have hcz5_1 : w4.cell? ⟨gb101, 1, none⟩ = some (.slice A0_1 l0_1.length c0_1) := (blk_cell BK101.out 1).trans rfl; have hfz5_0 := blk_frozen BK101.out 0; have hfz5_1 := blk_frozen BK101.out 1) | ((with_reducible refine gate_callee (f := 123) rfl ?_); refine goesL_ (some 9) rfl rfl Try.func123 (by kernel_rfl) rfl #[.int .i64 a1, .int .i64 0, .int .i64 (wrap64 (a0_0 - 1))] rfl qz1 ?_; (with_reducible refine (impl_in.calls a1 0 (wrap64 (a0_0 - 1)) t102 _ A3.out).mono ?_); rintro e w' ⟨rfl, ⟨nd, rfl⟩⟩; refine ⟨_, rfl, ?_⟩))
 go_ret
 exact ⟨qz13, qz10 GE101.out⟩

end Go.Proofs.Ytjhfjnknajhanaa.P

namespace Go.Proofs.Ytjhfjnknajhanaa.P
open Go.RowKit Go.Proofs.YtjhfjnknajhanaaW.PrintWords Go.Proofs.YtjhfjnknajhanaaW.PrintLast Go.Proofs.YtjhfjnknajhanaaW.PrintMore
attribute [local go_sem] max2_int min2_int max_two min_two max_three min_three max_four min_four   -- for this text's walks alone
set_option linter.unusedVariables false
set_option linter.unusedSimpArgs false

/-! ### impl_LatOf: function 31 -/
def impl_LatOf.T14 : Bool × List (List Nat × List Nat) := (true, [([], []), ([0], [0]), ([], []), ([2], [2]), ([1, 3], [1, 3]), ([4], [4]), ([], []), ([6], [6]), ([7], [7]), ([5, 8], [5, 8]), ([1, 3, 0, 1, 2, 3, 4, 5, 6, 7, 8, 9], [1, 3]), ([10, 9, 0, 1, 2, 3, 4, 5, 6, 7, 8, 9], [9, 10])])
def impl_LatOf.B14 : List Nat := [0, 1, 0, 4, 15, 31, 0, 64, 192, 511, 1023, 2047]
theorem impl_LatOf.tab14 : rtab .any (opsOf Try.f31 14) = impl_LatOf.T14 := by kernel_rfl
theorem impl_LatOf.bits14 : waitsOk impl_LatOf.T14.2 impl_LatOf.B14 = true := by kernel_rfl
def impl_LatOf.T23 : Bool × List (List Nat × List Nat) := (true, [([], []), ([0], [0]), ([], []), ([1, 2], [1, 2]), ([3], [3]), ([], []), ([5], [5]), ([], []), ([6, 7], [6, 7]), ([8], [8]), ([4, 9], [4, 9]), ([1, 2, 0, 1, 2, 3, 4, 5, 6, 7, 8, 9, 10], [1, 2]), ([11, 10, 0, 1, 2, 3, 4, 5, 6, 7, 8, 9, 10], [10, 11])])
def impl_LatOf.B23 : List Nat := [0, 1, 0, 7, 15, 0, 32, 0, 224, 480, 1023, 2047, 4095]
theorem impl_LatOf.tab23 : rtab .any (opsOf Try.f31 23) = impl_LatOf.T23 := by kernel_rfl
theorem impl_LatOf.bits23 : waitsOk impl_LatOf.T23.2 impl_LatOf.B23 = true := by kernel_rfl
set_option maxHeartbeats 8000000 in
set_option maxRecDepth 100000 in
theorem impl_LatOf.calls (k : Nat) (a0 : Int) (A1 : Option Addr) (c1 : Nat) (l1 : List (S151)) (r1 : Int) (r2 : List Int) (r3 : Bool) (w : World) (hr1 : Kd.C k151 w A1 l1.length l1) (hc1 : l1.length ≤ c1) (h : impl_LatOf.f k a0 l1 = some (r1, r2, r3)) :
  Calls Try.prog 31 #[.int .i64 a0, .slice A1 l1.length c1] w fun e w' => ∃ v1_ : Value, e = .returned (.tuple #[.agg #[.int .i64 r1, v1_], .bool r3]) ∧ Kd.R (Kd.int .u64) 153 w' w.heap.size (fun _ => True) v1_ r2 ∧ Below w.heap.size w w' := by
 have hu47 := Try.underlying47
 have hu151 := Try.underlying151
 have HR1 := Aside0.mk hr1
 have HC1 := Aside0.mk hc1
 clear hr1 hc1
 have HB := Aside0.mk (Below.refl w.heap.size w)
 have H : ((impl_in.f a0 1 16).bind fun t102 => (if t102 = true then (impl_LatOf.j0 k a0 l1 (decide ((l1.length : Int) > 100))) else (impl_LatOf.j0 k a0 l1 true))) = some (r1, r2, r3) := h
 clear h
 have HC3 := Aside0.mk H
 clear H
 go_enter Try.func31, Try.ntmps31
 go_upto_region 1 with (first | ((with_reducible refine gate_dst (N := 4) rfl ?_); (try (refine gate_guard (by rfl) ?_; dsimp only)); refine box_event ?hg (N := 4) ?hd (cs := #[.int .i64 0, .slice none 0 0]) (t := 47) ?hr ?_; (case hd => rfl); (case hg => rfl); (case hr => exact qz5); intro gb101 hg w4 hbox hb; have n0_ := Aside0.mk (below_step qz6 hb); have n1_ := Aside0.mk (hbox); have n2_ := Aside0.mk ((qz7 : w.heap.size ≤ gb101)); have n3_ := Aside0.mk ((qz7 : w.heap.size ≤ gb101)); clear HB; have HB := n0_; have BK101 := n1_; have GW101 := n2_; have GE101 := n3_; clear n0_ n1_ n2_ n3_; clear hb hbox hg))
 (try simp only [Act.put, List.setIfInBounds_toArray, List.set_cons_zero, List.set_cons_succ])
 go_cut [19] (fun v19 wc => ∃ (kq : Nat) (x19_2 : Bool), v19 = .bool x19_2 ∧ Aside0 (impl_LatOf.j0 kq a0 l1 x19_2 = some (r1, r2, r3)) ∧ Aside0 (kq ≤ k) ∧ Aside0 (wc.heap[gb101]? = some (.cells #[.int .i64 0, (.slice none 0 0)] 47 (0, 0))) ∧ Aside0 (Below w.heap.size w wc))
 case first =>
  have H := HC3.out
  clear HC3
  replace H := Option.bind_eq_some_iff.mp H
  obtain ⟨t102, A50, H⟩ := H
  replace H : (if t102 = true then (impl_LatOf.j0 k a0 l1 (decide ((l1.length : Int) > 100))) else (impl_LatOf.j0 k a0 l1 true)) = some (r1, r2, r3) := H
  have A5 := Aside0.mk A50
  clear A50
  by_cases c6 : t102 = true
  ·subst c6
   have H1 : (impl_LatOf.j0 k a0 l1 (decide ((l1.length : Int) > 100))) = some (r1, r2, r3) := by rw [if_pos rfl] at H; exact H
   clear H
   have H := H1
   clear H1
   have H' := Aside0.mk H
   clear H
   go_wp2_with (first | ((with_reducible refine gate_callee (f := 123) rfl ?_); refine goesL_ (some 13) rfl rfl Try.func123 (by kernel_rfl) rfl #[.int .i64 a0, .int .i64 1, .int .i64 16] rfl qz1 ?_; (with_reducible refine (impl_in.calls a0 1 16 true _ A5.out).mono ?_); rintro e w' ⟨rfl, ⟨nd, rfl⟩⟩; refine ⟨_, rfl, ?_⟩))
   go_meet
   case rel => exact ⟨_, (decide ((l1.length : Int) > 100)), qz2, H', ⟨qz36⟩, ⟨qz8 BK101.out⟩, ⟨qz10 GE101.out⟩⟩
  ·replace c6 := Bool.eq_false_iff.mpr c6
   subst c6
   have H1 : (impl_LatOf.j0 k a0 l1 true) = some (r1, r2, r3) := by rw [if_neg (show ¬ (false = true) by decide)] at H; exact H
   clear H
   have H := H1
   clear H1
   have H' := Aside0.mk H
   clear H
   go_wp2_with (first | ((with_reducible refine gate_callee (f := 123) rfl ?_); refine goesL_ (some 13) rfl rfl Try.func123 (by kernel_rfl) rfl #[.int .i64 a0, .int .i64 1, .int .i64 16] rfl qz1 ?_; (with_reducible refine (impl_in.calls a0 1 16 false _ A5.out).mono ?_); rintro e w' ⟨rfl, ⟨nd, rfl⟩⟩; refine ⟨_, rfl, ?_⟩))
   go_meet
   case rel => exact ⟨_, (true), qz2, H', ⟨qz36⟩, ⟨qz8 BK101.out⟩, ⟨qz10 GE101.out⟩⟩
 case rest =>
  clear HC3
  try clear c1
  try clear p2
  try clear c3
  try clear c6
  obtain ⟨kq, x19_2, rfl, HA, HJ2, BK101, HB⟩ := hcut
  cases kq with
  | zero => exact absurd HA.out (by simp [impl_LatOf.j0])
  | succ kj2 =>
   have H := HA.out
   clear HA
   simp only [impl_LatOf.j0] at H
   by_cases c7 : x19_2 = true
   ·subst c7
    have H1 : (some (0, ([] : List Int), false)) = some (r1, r2, r3) := by rw [if_pos rfl] at H; exact H
    clear H
    have H := H1
    clear H1
    simp only [Option.some.injEq, Prod.mk.injEq] at H
    obtain ⟨rfl, rfl, rfl⟩ := H
    have hcz8_0 : wc.cell? ⟨gb101, 0, none⟩ = some (.int .i64 0) := (blk_cell BK101.out 0).trans rfl
    have hcz8_1 : wc.cell? ⟨gb101, 1, none⟩ = some (.slice none 0 0) := (blk_cell BK101.out 1).trans rfl
    have hfz8_0 := blk_frozen BK101.out 0
    have hfz8_1 := blk_frozen BK101.out 1
    go_wp2
    refine bodyPost_ret (results_ct rfl _ _ gb101 47 #[.int .i64 0, .slice none 0 0] (0, 0) _ rfl (qz37 BK101.out) Try.underlying47 rfl (by kernel_rfl)) rfl ?_
    exact ⟨_, qz13, qz15, qz10 GE101.out⟩
   ·replace c7 := Bool.eq_false_iff.mpr c7
    subst c7
    have H1 : (if 0 ≤ a0 then (if (a0 : Int).toNat ≤ 35184372088832 then (impl_LatOf.l0 kj2 a0 l1 a0 0 a0 (List.replicate (a0 : Int).toNat 0)) else (none)) else (none)) = some (r1, r2, r3) := by rw [if_neg (show ¬ (false = true) by decide)] at H; exact H
    clear H
    have H := H1
    clear H1
    by_cases c9 : 0 ≤ a0
    ·rw [if_pos c9] at H
     have c9b0 := eq_true c9
     have c9b1 : decide (0 ≤ a0) = true := decide_eq_true c9
     clear c9
     by_cases c10 : (a0 : Int).toNat ≤ 35184372088832
     ·rw [if_pos c10] at H
      have c10b0 := eq_true c10
      have c10b1 : decide ((a0 : Int).toNat ≤ 35184372088832) = true := decide_eq_true c10
      clear c10
      obtain ⟨y103, hy103⟩ : ∃ y_ : List Int, y_ = (List.replicate (a0 : Int).toNat 0) := ⟨_, rfl⟩
      replace H : (impl_LatOf.l0 kj2 a0 l1 a0 0 a0 y103) = some (r1, r2, r3) := by first | (rw [hy103]; with_reducible exact H) | (have H2_ := (Option.bind_some _ _).symm.trans H; rw [hy103]; with_reducible exact H2_) | (have H2_ := (Option.bind_some _ _).symm.trans H; with_reducible exact H2_) | with_reducible exact H | (rw [hy103]; exact H) | exact H
      have Ny103 := Aside0.mk hy103
      clear hy103
      have H' := Aside0.mk H
      clear H
      go_wp2_with (first | ((with_reducible refine gate_dst (N := 23) rfl ?_); (try (refine gate_guard (by rfl) ?_; dsimp only)); refine Kd.R_make (Kd.int .u64) _ 153 rfl (N := 23) rfl 45 _ _ rfl a0 rfl rfl Try.underlying45 (.int .u64 0) 8 info153 rfl (by decide) (by omega) 0 (ok := fun _ => True) (okp := fun _ => True) rfl (fun _ hk => hk) trivial (of_decide_eq_true qz4) (Nat.le_trans (Nat.mul_le_mul_right _ (of_decide_eq_true qz4 : a0.toNat ≤ 35184372088832)) (by omega)) (Below.refl _ _) (Nat.le_refl _) ?_; intro v104 w11 ho12 hb hg_ hnew_; clear hg_ hnew_; (first | rw [← Ny103.out] at ho12 | (simp only [Int.reduceToNat] at ho12; rw [← Ny103.out] at ho12)); have n0_ := Aside0.mk (Kd.R_lower ho12 (below_size (qz10 GE101.out))); have n1_ := Aside0.mk (blk_below (g := gb101) (o := .cells #[.int .i64 0, .slice none 0 0] 47 (0, 0)) (qz8 BK101.out) hb); have n2_ := Aside0.mk (below_step (qz10 GE101.out) hb); clear BK101; clear HB; have HO105 := n0_; have BK101 := n1_; have HB := n2_; clear n0_ n1_ n2_; clear hb ho12; obtain ⟨Ao13, co13, eo13⟩ := Kd.R_slice HO105.out; subst eo13) | ((with_reducible refine gate_dst (N := 6) rfl ?_); (try (refine gate_guard (by rfl) ?_; dsimp only)); refine box_event ?hg (N := 6) ?hd (cs := #[.int .i64 0, .slice none 0 0]) (t := 47) ?hr ?_; (case hd => rfl); (case hg => rfl); (case hr => exact qz5); intro gb106 hg w14 hbox hb; have n0_ := Aside0.mk (Kd.R_below (qz21 HO105.out) hb); have n1_ := Aside0.mk (blk_below (g := gb101) (o := .cells #[.int .i64 0, .slice none 0 0] 47 (0, 0)) (qz8 BK101.out) hb); have n2_ := Aside0.mk (below_step (qz10 GE101.out) hb); have n3_ := Aside0.mk (hbox); have n4_ := Aside0.mk ((qz38 GE101.out : w.heap.size ≤ gb106)); have n5_ := Aside0.mk ((qz38 GE101.out : w.heap.size ≤ gb106)); have n6_ := Aside0.mk ((qz39 BK101.out : gb101 ≠ gb106)); have n7_ := Aside0.mk ((qz40 BK101.out : gb106 ≠ gb101)); clear HO105; clear BK101; clear HB; have HO105 := n0_; have BK101 := n1_; have HB := n2_; have BK106 := n3_; have GW106 := n4_; have GE106 := n5_; have NB101_106 := n6_; have NB106_101 := n7_; clear n0_ n1_ n2_ n3_ n4_ n5_ n6_ n7_; clear hb hbox hg; have hnb15 := NB106_101.out; have hnc15 := NB101_106.out; have hcz16_0 : w14.cell? ⟨gb106, 0, none⟩ = some (.int .i64 0) := (blk_cell BK106.out 0).trans rfl; have hcz16_1 : w14.cell? ⟨gb106, 1, none⟩ = some (.slice none 0 0) := (blk_cell BK106.out 1).trans rfl; have hfz16_0 := blk_frozen BK106.out 0; have hfz16_1 := blk_frozen BK106.out 1))
      go_loopg [26] kj2 (fun kq v26 w' => ∃ (x26_2 : Int) (x107001_2 : List Int) (u107001 : Value), v26 = .int .i64 x26_2 ∧ Aside0 (impl_LatOf.l0 kq a0 l1 a0 x26_2 a0 x107001_2 = some (r1, r2, r3)) ∧ Aside0 (kq ≤ kj2) ∧ Aside0 (Kd.R (Kd.int .u64) 153 w' w.heap.size (fun _ => True) u107001 x107001_2) ∧ Aside0 (w'.heap[gb101]? = some (.cells #[.int .i64 0, (.slice none 0 0)] 47 (0, 0))) ∧ Aside0 (w'.heap[gb106]? = some (.cells #[.int .i64 a0, u107001] 47 (0, 0))) ∧ Aside0 (Below w.heap.size w w'))
      case atStart => exact ⟨(0), (y103), (.slice Ao13 y103.length co13), qz2, H', ⟨Nat.le_refl _⟩, ⟨by (with_reducible repeat (first | apply Kd.R_alloc | apply Kd.R_drewN | apply Kd.R_drew)); exact Kd.R_mono (Kd.R_far (p := ⟨gb106, 1, none⟩) (Kd.R_far (p := ⟨gb106, 0, none⟩) (Kd.R_types HO105.out BK106.out (by decide)) (fun _ hk => hk.2) (.int .i64 a0)) (fun _ hk => hk.2) (.slice Ao13 y103.length co13)) (fun _ hk => trivial)⟩, ⟨qz41 NB101_106.out BK101.out⟩, ⟨qz42 BK106.out⟩, ⟨qz43 GE101.out GE106.out⟩⟩
      case round =>
       clear H'
       try clear c1
       try clear p2
       try clear c3
       try clear c6
       try clear c7
       try clear c9
       try clear c9b0
       try clear c9b1
       try clear c10
       try clear c10b0
       try clear c10b1
       try clear c12
       try clear c15
       try clear hcz16_0
       try clear hcz16_1
       try clear hcz8_0
       try clear hcz8_1
       try clear hfz16_0
       try clear hfz16_1
       try clear hfz8_0
       try clear hfz8_1
       try clear p2
       obtain ⟨x26_2, x107001_2, u107001, rfl, HA, HK2, HO_107001, BK101, BK106, HB⟩ := hrel
       cases gk with
       | zero => exact absurd HA.out (by simp [impl_LatOf.l0])
       | succ k2 =>
        have H := HA.out
        clear HA
        simp only [impl_LatOf.l0] at H
        by_cases c17 : x26_2 < a0
        ·rw [if_pos c17] at H
         have c17b0 : decide (x26_2 < a0) = true := decide_eq_true c17
         clear c17
         by_cases c18 : 0 ≤ x26_2
         ·rw [if_pos c18] at H
          have c18b0 := eq_true c18
          have c18b1 : decide (0 ≤ x26_2) = true := decide_eq_true c18
          clear c18
          obtain ⟨ji19, hji19⟩ : ∃ j_ : Int, (shl .u64 1 x26_2) = j_ := ⟨_, rfl⟩
          replace H : (if x26_2 < (x107001_2.length : Int) then (impl_LatOf.l0 k2 a0 l1 a0 (wrap64 (x26_2 + 1)) a0 (x107001_2.set (x26_2 : Int).toNat (ji19))) else (none)) = some (r1, r2, r3) := by first | (rw [hji19] at H; exact H) | (simp only [hji19] at H ⊢; exact H)
          have hji19_ : (IntKind.u64.wrap (1 * 2 ^ min x26_2.toNat 64)) = ji19 := hji19
          have hji19z : x26_2 ≤ 64 → (IntKind.u64.wrap (1 * 2 ^ x26_2.toNat)) = ji19 := shl_small hji19
          have hji19u : (IntKind.u64.wrap (2 ^ min x26_2.toNat 64)) = ji19 := by have h_ := hji19_; rw [Int.one_mul] at h_; exact h_
          have hji19v : x26_2 ≤ 64 → (IntKind.u64.wrap (2 ^ x26_2.toNat)) = ji19 := fun hle_ => by have h_ := hji19z hle_; rw [Int.one_mul] at h_; exact h_
          by_cases c20 : x26_2 < (x107001_2.length : Int)
          ·rw [if_pos c20] at H
           have c20b0 : decide (x26_2 < (x107001_2.length : Int)) = true := decide_eq_true c20
           clear c20
           obtain ⟨y107, hy107⟩ : ∃ y_ : List Int, y_ = (x107001_2.set (x26_2 : Int).toNat (ji19)) := ⟨_, rfl⟩
           replace H : (impl_LatOf.l0 k2 a0 l1 a0 (wrap64 (x26_2 + 1)) a0 y107) = some (r1, r2, r3) := by first | (rw [hy107]; with_reducible exact H) | (have H2_ := (Option.bind_some _ _).symm.trans H; rw [hy107]; with_reducible exact H2_) | (have H2_ := (Option.bind_some _ _).symm.trans H; with_reducible exact H2_) | with_reducible exact H | (rw [hy107]; exact H) | exact H
           have Ny107 := Aside0.mk hy107
           clear hy107
           have H' := Aside0.mk H
           clear H
           try go_wp2
           have n0_ := Aside0.mk (Kd.R_drew HO_107001.out)
           have n1_ := Aside0.mk (blk_drew BK101.out)
           have n2_ := Aside0.mk (blk_drew BK106.out)
           have n3_ := Aside0.mk (below_drew1 HB.out)
           clear HO_107001
           clear BK101
           clear BK106
           clear HB
           have HO_107001 := n0_
           have BK101 := n1_
           have BK106 := n2_
           have HB := n3_
           clear n0_ n1_ n2_ n3_
           have p21 : 0 ≤ (x26_2 : Int) := of_decide_eq_true qz4
           have q21 : (x26_2 : Int) < ((x107001_2.length : Int) : Int) := of_decide_eq_true qz4
           obtain ⟨go21, co21, eo21, gb21, gl21, cl21, HG21⟩ := Kd.R_form HO_107001.out (by omega)
           (first | cases eo21 | (injection eo21 with ea_ en_ ec_; (first | subst ea_ | (injection ea_ with ea_; subst ea_)); subst ec_; clear en_))
           have GB21 := Aside0.mk gb21
           have GG21 := Aside0.mk HG21
           clear gb21 gl21 HG21
           obtain ⟨hx21_0, hf21_0⟩ := Kd.R_celln 0 HO_107001.out (x26_2 : Int) p21 q21
           replace p21 := eq_true p21
           replace q21 := eq_true q21
           have HP23 := Kd.R_putn HO_107001.out (x26_2 : Int) ji19
           rw [← Ny107.out] at HP23
           have HQ23 := Aside0.mk HP23
           clear HP23
           refine start_ (n := 7) (S := fun w' => w'.cell? ⟨gb106, 0, none⟩ = some (.int .i64 a0) ∧ w'.cell? ⟨gb106, 1, none⟩ = some (.slice (some ⟨go21, 0, none⟩) x107001_2.length co21)) (ds := [6]) #[false, false, false, false, false, false, false] (by kernel_rfl) rfl rfl ⟨(blk_cell BK106.out 0).trans rfl, (blk_cell BK106.out 1).trans rfl⟩ (fun hHeld => ?_)
           generalize wr.drew = w22 at HO_107001 BK101 BK106 HB GG21 HQ23 hf21_0 hx21_0 hHeld ⊢
           refine pure_ (i := 0) (N := some 29) (v := ?_) (a' := ?_) #[true, false, false, false, false, false, false] rfl rfl (by kernel_rfl) (fun _ _ _ h => h) (Or.inl ⟨by rfl, ?_⟩) ?_ ?_
           rotate_left
           ·intro w'
            go_simp
            with_reducible rfl
           rotate_left
           ·simp only [Act.put, List.setIfInBounds_toArray, List.set_cons_zero, List.set_cons_succ, i64_w, i32_w]
            rfl
           refine pure_ (i := 2) (N := some 31) (v := ?_) (a' := ?_) #[true, false, true, false, false, false, false] rfl rfl (by kernel_rfl) (fun _ _ _ h => h) (Or.inl ⟨by rfl, ?_⟩) ?_ ?_
           rotate_left
           ·intro w'
            go_simp
            with_reducible rfl
           rotate_left
           ·simp only [Act.put, List.setIfInBounds_toArray, List.set_cons_zero, List.set_cons_succ, i64_w, i32_w]
            rfl
           refine pure_ (i := 3) (N := some 32) (v := ?_) (a' := ?_) #[true, false, true, true, false, false, false] rfl rfl (by kernel_rfl) (fun _ _ _ h => h) (Or.inl ⟨by rfl, ?_⟩) ?_ ?_
           rotate_left
           ·intro w'
            go_simp
            with_reducible rfl
           rotate_left
           ·simp only [Act.put, List.setIfInBounds_toArray, List.set_cons_zero, List.set_cons_succ, i64_w, i32_w]
            rfl
           refine pure_ (i := 4) (N := some 33) (v := ?_) (a' := ?_) #[true, false, true, true, true, false, false] rfl rfl (by kernel_rfl) (fun _ _ _ h => h) (Or.inl ⟨by rfl, ?_⟩) ?_ ?_
           rotate_left
           ·intro w'
            go_simp
            with_reducible rfl
           rotate_left
           ·simp only [Act.put, List.setIfInBounds_toArray, List.set_cons_zero, List.set_cons_succ, i64_w, i32_w]
            rfl
           refine take_ (i := 1) (N := some 30) (v := ?_) (a' := ?_) #[true, true, true, true, true, false, false] rfl rfl (by kernel_rfl) (fun _ _ _ h => h) (Or.inl ⟨by rfl, ?_⟩) hHeld ?_ ?_
           rotate_left
           ·rintro w' ⟨s0, s1⟩
            go_simp
            with_reducible rfl
           rotate_left
           ·simp only [Act.put, List.setIfInBounds_toArray, List.set_cons_zero, List.set_cons_succ, i64_w, i32_w]
            rfl
           refine pure_ (i := 5) (N := some 34) (v := ?_) (a' := ?_) #[true, true, true, true, true, true, false] rfl rfl (by kernel_rfl) (fun _ _ _ h => h) (Or.inl ⟨by rfl, ?_⟩) ?_ ?_
           rotate_left
           ·intro w'
            go_simp
            with_reducible rfl
           rotate_left
           ·simp only [Act.put, List.setIfInBounds_toArray, List.set_cons_zero, List.set_cons_succ, i64_w, i32_w]
            rfl
           refine last_ (i := 6) (N := none) #[true, true, true, true, true, true, true] rfl rfl (by kernel_rfl) (by decide) (fun K hK => ?_)
           refine skip_ (w1 := ?_) (by rfl) rfl ?_ ?_
           rotate_left
           ·go_simp
            rfl
           refine hK.out _ _ ?_
           clear hK K
           refine done_ (by kernel_rfl) ?_
           try go_wp2
           go_roundg k2
           case measure => have := HJ2.out; have := HK2.out; omega
           case rel => exact ⟨(wrap64 (x26_2 + 1)), (y107), (.slice (some ⟨go21, 0, none⟩) x107001_2.length co21), qz2, H', ⟨qz34 HJ2.out HK2.out⟩, ⟨qz21 HQ23.out⟩, ⟨qz45 BK101.out⟩, ⟨qz45 BK106.out⟩, ⟨qz46 GB21.out GE101.out GE106.out⟩⟩
          ·rw [if_neg c20] at H
           exact absurd H (by simp)
         ·rw [if_neg c18] at H
          exact absurd H (by simp)
        ·rw [if_neg c17] at H
         have c17b0 : decide (x26_2 < a0) = false := decide_eq_false c17
         clear c17
         have H' := Aside0.mk H
         clear H
         go_wp2
         go_loopg [38] k2 (fun kq v38 w' => ∃ (x38_3 : Int) (x102000_3 : Int) (x107001_3 : List Int) (u107001 : Value), v38 = .int .i64 x38_3 ∧ Aside0 (impl_LatOf.l1 kq a0 l1 (l1.length : Int) x38_3 a0 x107001_3 = some (r1, r2, r3)) ∧ Aside0 (kq ≤ k2) ∧ Aside0 (Kd.R (Kd.int .u64) 153 w' w.heap.size (fun _ => True) u107001 x107001_3) ∧ Aside0 (w'.heap[gb101]? = some (.cells #[.int .i64 x102000_3, (.slice none 0 0)] 47 (0, 0))) ∧ Aside0 (w'.heap[gb106]? = some (.cells #[.int .i64 a0, u107001] 47 (0, 0))) ∧ Aside0 (Below w.heap.size w w'))
         case atStart => exact ⟨(0), (0), (x107001_2), (u107001), qz2, H', ⟨Nat.le_refl _⟩, ⟨qz47⟩, ⟨qz8 BK101.out⟩, ⟨qz8 BK106.out⟩, ⟨qz43 GE101.out GE106.out⟩⟩
         case round =>
          clear H'
          try clear c1
          try clear c2
          try clear p2
          try clear q2
          try clear hx2
          try clear hf2
          try clear c3
          try clear c6
          try clear p6
          try clear c7
          try clear c9
          try clear c9b0
          try clear c9b1
          try clear c10
          try clear c10b0
          try clear c10b1
          try clear c12
          try clear c15
          try clear c17
          try clear c17b0
          try clear c18
          try clear c18b0
          try clear c18b1
          try clear c20
          try clear c20b0
          try clear p21
          try clear q21
          try clear hx21
          try clear hf21
          try clear hcz16_0
          try clear hcz16_1
          try clear hcz8_0
          try clear hcz8_1
          try clear hfz16_0
          try clear hfz16_1
          try clear hfz8_0
          try clear hfz8_1
          try clear hx21_0
          try clear p2
          try clear p21
          try clear q21
          obtain ⟨x38_3, x102000_3, x107001_3, u107001, rfl, HA, HK3, HO_107001, BK101, BK106, HB⟩ := hrel
          cases gk with
          | zero => exact absurd HA.out (by simp [impl_LatOf.l1])
          | succ k3 =>
           have H := HA.out
           clear HA
           simp only [impl_LatOf.l1] at H
           by_cases c24 : x38_3 < (l1.length : Int)
           ·rw [if_pos c24] at H
            have c24b0 : decide (x38_3 < (l1.length : Int)) = true := decide_eq_true c24
            clear c24
            by_cases c25 : 0 ≤ x38_3
            ·rw [if_pos c25] at H
             have c25b0 : decide (0 ≤ x38_3) = true := decide_eq_true c25
             clear c25
             by_cases c26 : x38_3 < (l1.length : Int)
             ·rw [if_pos c26] at H
              have c26b0 : decide (x38_3 < (l1.length : Int)) = true := decide_eq_true c26
              clear c26
              replace H := Option.bind_eq_some_iff.mp H
              obtain ⟨t110, A270, H⟩ := H
              replace H : (if t110 = true then ((impl_Lat_has.f a0 x107001_3 ((rd_T151 l1 x38_3).f1)).bind fun t111 => (if t111 = true then (if 0 ≤ ((rd_T151 l1 x38_3).f0) then (if ((rd_T151 l1 x38_3).f0) < (x107001_3.length : Int) then (if 0 ≤ ((rd_T151 l1 x38_3).f1) then (impl_LatOf.l1 k3 a0 l1 (l1.length : Int) (wrap64 (x38_3 + 1)) a0 (x107001_3.set (((rd_T151 l1 x38_3).f0) : Int).toNat (Go.bits .or .u64 (rd x107001_3 ((rd_T151 l1 x38_3).f0)) (shl .u64 1 ((rd_T151 l1 x38_3).f1))))) else (none)) else (none)) else (none)) else (some (0, ([] : List Int), false)))) else (some (0, ([] : List Int), false))) = some (r1, r2, r3) := H
              have A27 := Aside0.mk A270
              clear A270
              by_cases c28 : t110 = true
              ·subst c28
               have H1 : ((impl_Lat_has.f a0 x107001_3 ((rd_T151 l1 x38_3).f1)).bind fun t111 => (if t111 = true then (if 0 ≤ ((rd_T151 l1 x38_3).f0) then (if ((rd_T151 l1 x38_3).f0) < (x107001_3.length : Int) then (if 0 ≤ ((rd_T151 l1 x38_3).f1) then (impl_LatOf.l1 k3 a0 l1 (l1.length : Int) (wrap64 (x38_3 + 1)) a0 (x107001_3.set (((rd_T151 l1 x38_3).f0) : Int).toNat (Go.bits .or .u64 (rd x107001_3 ((rd_T151 l1 x38_3).f0)) (shl .u64 1 ((rd_T151 l1 x38_3).f1))))) else (none)) else (none)) else (none)) else (some (0, ([] : List Int), false)))) = some (r1, r2, r3) := by rw [if_pos rfl] at H; exact H
               clear H
               have H := H1
               clear H1
               replace H := Option.bind_eq_some_iff.mp H
               obtain ⟨t111, A290, H⟩ := H
               replace H : (if t111 = true then (if 0 ≤ ((rd_T151 l1 x38_3).f0) then (if ((rd_T151 l1 x38_3).f0) < (x107001_3.length : Int) then (if 0 ≤ ((rd_T151 l1 x38_3).f1) then (impl_LatOf.l1 k3 a0 l1 (l1.length : Int) (wrap64 (x38_3 + 1)) a0 (x107001_3.set (((rd_T151 l1 x38_3).f0) : Int).toNat (Go.bits .or .u64 (rd x107001_3 ((rd_T151 l1 x38_3).f0)) (shl .u64 1 ((rd_T151 l1 x38_3).f1))))) else (none)) else (none)) else (none)) else (some (0, ([] : List Int), false))) = some (r1, r2, r3) := H
               have A29 := Aside0.mk A290
               clear A290
               by_cases c30 : t111 = true
               ·subst c30
                have H1 : (if 0 ≤ ((rd_T151 l1 x38_3).f0) then (if ((rd_T151 l1 x38_3).f0) < (x107001_3.length : Int) then (if 0 ≤ ((rd_T151 l1 x38_3).f1) then (impl_LatOf.l1 k3 a0 l1 (l1.length : Int) (wrap64 (x38_3 + 1)) a0 (x107001_3.set (((rd_T151 l1 x38_3).f0) : Int).toNat (Go.bits .or .u64 (rd x107001_3 ((rd_T151 l1 x38_3).f0)) (shl .u64 1 ((rd_T151 l1 x38_3).f1))))) else (none)) else (none)) else (none)) = some (r1, r2, r3) := by rw [if_pos rfl] at H; exact H
                clear H
                have H := H1
                clear H1
                by_cases c31 : 0 ≤ ((rd_T151 l1 x38_3).f0)
                ·rw [if_pos c31] at H
                 have c31b0 : decide (0 ≤ ((rd_T151 l1 x38_3).f0)) = true := decide_eq_true c31
                 clear c31
                 by_cases c32 : ((rd_T151 l1 x38_3).f0) < (x107001_3.length : Int)
                 ·rw [if_pos c32] at H
                  have c32b0 : decide (((rd_T151 l1 x38_3).f0) < (x107001_3.length : Int)) = true := decide_eq_true c32
                  clear c32
                  by_cases c33 : 0 ≤ ((rd_T151 l1 x38_3).f1)
                  ·rw [if_pos c33] at H
                   have c33b0 := eq_true c33
                   have c33b1 : decide (0 ≤ ((rd_T151 l1 x38_3).f1)) = true := decide_eq_true c33
                   clear c33
                   obtain ⟨ji34, hji34⟩ : ∃ j_ : Int, (shl .u64 1 ((rd_T151 l1 x38_3).f1)) = j_ := ⟨_, rfl⟩
                   replace H : (impl_LatOf.l1 k3 a0 l1 (l1.length : Int) (wrap64 (x38_3 + 1)) a0 (x107001_3.set (((rd_T151 l1 x38_3).f0) : Int).toNat (Go.bits .or .u64 (rd x107001_3 ((rd_T151 l1 x38_3).f0)) (ji34)))) = some (r1, r2, r3) := by first | (rw [hji34] at H; exact H) | (simp only [hji34] at H ⊢; exact H)
                   (try rw [hji34] at A27)
                   (try rw [hji34] at A29)
                   have hji34_ : (IntKind.u64.wrap (1 * 2 ^ min ((rd_T151 l1 x38_3).f1).toNat 64)) = ji34 := hji34
                   have hji34z : ((rd_T151 l1 x38_3).f1) ≤ 64 → (IntKind.u64.wrap (1 * 2 ^ ((rd_T151 l1 x38_3).f1).toNat)) = ji34 := shl_small hji34
                   have hji34u : (IntKind.u64.wrap (2 ^ min ((rd_T151 l1 x38_3).f1).toNat 64)) = ji34 := by have h_ := hji34_; rw [Int.one_mul] at h_; exact h_
                   have hji34v : ((rd_T151 l1 x38_3).f1) ≤ 64 → (IntKind.u64.wrap (2 ^ ((rd_T151 l1 x38_3).f1).toNat)) = ji34 := fun hle_ => by have h_ := hji34z hle_; rw [Int.one_mul] at h_; exact h_
                   obtain ⟨y113, hy113⟩ : ∃ y_ : List Int, y_ = (x107001_3.set (((rd_T151 l1 x38_3).f0) : Int).toNat (Go.bits .or .u64 (rd x107001_3 ((rd_T151 l1 x38_3).f0)) (ji34))) := ⟨_, rfl⟩
                   replace H : (impl_LatOf.l1 k3 a0 l1 (l1.length : Int) (wrap64 (x38_3 + 1)) a0 y113) = some (r1, r2, r3) := by first | (rw [hy113]; with_reducible exact H) | (have H2_ := (Option.bind_some _ _).symm.trans H; rw [hy113]; with_reducible exact H2_) | (have H2_ := (Option.bind_some _ _).symm.trans H; with_reducible exact H2_) | with_reducible exact H | (rw [hy113]; exact H) | exact H
                   have Ny113 := Aside0.mk hy113
                   clear hy113
                   have H' := Aside0.mk H
                   clear H
                   have p108 : 0 ≤ (x38_3 : Int) := of_decide_eq_true qz4
                   have q108 : x38_3 < (l1.length : Int) := of_decide_eq_true qz4
                   obtain ⟨ad108, e108, hx108_0, hx108_1⟩ := at_T151 HR1.out x38_3 p108 q108
                   cases e108
                   replace hx108_0 := qcb HB hx108_0
                   replace hx108_1 := qcb HB hx108_1
                   replace p108 := eq_true p108
                   replace q108 := eq_true q108
                   try go_wp2_with (first | ((with_reducible refine gate_dst (N := 9) rfl ?_); (try (refine gate_guard (by rfl) ?_; dsimp only)); refine box_event ?hg (N := 9) ?hd (cs := #[.int .i64 0, .int .i64 0]) (t := 151) ?hr ?_; (case hd => rfl); (case hg => rfl); (case hr => exact qz5); intro gb109 hg w36 hbox hb; have n0_ := Aside0.mk (Kd.R_below qz47 hb); have n1_ := Aside0.mk (blk_below (g := gb101) (o := .cells #[.int .i64 x102000_3, .slice none 0 0] 47 (0, 0)) (qz8 BK101.out) hb); have n2_ := Aside0.mk (blk_below (g := gb106) (o := .cells #[.int .i64 a0, u107001] 47 (0, 0)) (qz8 BK106.out) hb); have n3_ := Aside0.mk (below_step (qz43 GE101.out GE106.out) hb); have n4_ := Aside0.mk (hbox); have n5_ := Aside0.mk ((qz48 GE101.out GE106.out : w.heap.size ≤ gb109)); have n6_ := Aside0.mk ((qz48 GE101.out GE106.out : w.heap.size ≤ gb109)); have n7_ := Aside0.mk ((qz49 BK101.out : gb101 ≠ gb109)); have n8_ := Aside0.mk ((qz50 BK101.out : gb109 ≠ gb101)); have n9_ := Aside0.mk ((qz51 BK106.out : gb106 ≠ gb109)); have n10_ := Aside0.mk ((qz52 BK106.out : gb109 ≠ gb106)); clear HO_107001; clear BK101; clear BK106; clear HB; have HO_107001 := n0_; have BK101 := n1_; have BK106 := n2_; have HB := n3_; have BK109 := n4_; have GW109 := n5_; have GE109 := n6_; have NB101_109 := n7_; have NB109_101 := n8_; have NB106_109 := n9_; have NB109_106 := n10_; clear n0_ n1_ n2_ n3_ n4_ n5_ n6_ n7_ n8_ n9_ n10_; clear hb hbox hg; have hnb37 := NB109_101.out; have hnc37 := NB101_109.out; have hnb38 := NB109_106.out; have hnc38 := NB106_109.out; have hcz39_0 : w36.cell? ⟨gb109, 0, none⟩ = some (.int .i64 0) := (blk_cell BK109.out 0).trans rfl; have hcz39_1 : w36.cell? ⟨gb109, 1, none⟩ = some (.int .i64 0) := (blk_cell BK109.out 1).trans rfl; have hfz39_0 := blk_frozen BK109.out 0; have hfz39_1 := blk_frozen BK109.out 1; have hnb40 := NB106_101.out; have hnc40 := NB101_106.out; have hcz41_0 : w36.cell? ⟨gb106, 0, none⟩ = some (.int .i64 a0) := (blk_cell BK106.out 0).trans rfl; have hcz41_1 : w36.cell? ⟨gb106, 1, none⟩ = some (u107001) := (blk_cell BK106.out 1).trans rfl; have hfz41_0 := blk_frozen BK106.out 0; have hfz41_1 := blk_frozen BK106.out 1; obtain ⟨Ao42, co42, eo42⟩ := Kd.R_slice HO_107001.out; subst eo42) | ((with_reducible refine gate_callee (f := 124) rfl ?_); refine goesL_ (some 45) rfl rfl Try.func124 (by kernel_rfl) rfl #[.agg #[.int .i64 a0, .slice Ao42 x107001_3.length co42], .int .i64 ((rd_T151 l1 x38_3).f0)] rfl qz1 ?_; (with_reducible refine (impl_Lat_has.calls a0 _ _ x107001_3 ((rd_T151 l1 x38_3).f0) true _ ?side1 ?side2 A27.out).mono ?_); (case side1 => refine (Kd.R_reads' (e := 153) (base := w.heap.size) (ok := fun k_ => True) (n := x107001_3.length) (c := co42) ?_).2.2; exact (qz53 BK109.out)); (case side2 => exact qz54); rintro e w43 ⟨rfl, hb⟩; refine ⟨_, rfl, ?_⟩; have n0_ := Aside0.mk (Kd.R_below (qz53 BK109.out) hb); have n1_ := Aside0.mk (blk_below (g := gb101) (o := .cells #[.int .i64 x102000_3, .slice none 0 0] 47 (0, 0)) (qz41 NB101_109.out BK101.out) hb); have n2_ := Aside0.mk (blk_below (g := gb106) (o := .cells #[.int .i64 a0, .slice Ao42 x107001_3.length co42] 47 (0, 0)) (qz41 NB106_109.out BK106.out) hb); have n3_ := Aside0.mk (blk_below (g := gb109) (o := .cells #[.int .i64 ((rd_T151 l1 x38_3).f0), .int .i64 ((rd_T151 l1 x38_3).f1)] 151 (0, 0)) (qz55 BK109.out) hb); have n4_ := Aside0.mk (below_step (qz46 GE101.out GE106.out GE109.out) hb); clear HO_107001; clear BK101; clear BK106; clear BK109; clear HB; have HO_107001 := n0_; have BK101 := n1_; have BK106 := n2_; have BK109 := n3_; have HB := n4_; clear n0_ n1_ n2_ n3_ n4_; (try clear hb); (try clear hb2); (try clear hk); (try clear hi); have hcz44_0 : w43.cell? ⟨gb106, 0, none⟩ = some (.int .i64 a0) := (blk_cell BK106.out 0).trans rfl; have hcz44_1 : w43.cell? ⟨gb106, 1, none⟩ = some (.slice Ao42 x107001_3.length co42) := (blk_cell BK106.out 1).trans rfl; have hfz44_0 := blk_frozen BK106.out 0; have hfz44_1 := blk_frozen BK106.out 1; have hcz45_0 : w43.cell? ⟨gb109, 0, none⟩ = some (.int .i64 ((rd_T151 l1 x38_3).f0)) := (blk_cell BK109.out 0).trans rfl; have hcz45_1 : w43.cell? ⟨gb109, 1, none⟩ = some (.int .i64 ((rd_T151 l1 x38_3).f1)) := (blk_cell BK109.out 1).trans rfl; have hfz45_0 := blk_frozen BK109.out 0; have hfz45_1 := blk_frozen BK109.out 1) | (go_at_call 124; (with_reducible refine (impl_Lat_has.calls a0 _ _ x107001_3 ((rd_T151 l1 x38_3).f1) true _ ?side1 ?side2 A29.out).mono ?_); (case side1 => exact qz56); (case side2 => exact qz54); rintro e w46 ⟨rfl, hb⟩; have n0_ := Aside0.mk (Kd.R_below qz47 hb); have n1_ := Aside0.mk (blk_below (g := gb101) (o := .cells #[.int .i64 x102000_3, .slice none 0 0] 47 (0, 0)) (qz8 BK101.out) hb); have n2_ := Aside0.mk (blk_below (g := gb106) (o := .cells #[.int .i64 a0, .slice Ao42 x107001_3.length co42] 47 (0, 0)) (qz8 BK106.out) hb); have n3_ := Aside0.mk (blk_below (g := gb109) (o := .cells #[.int .i64 ((rd_T151 l1 x38_3).f0), .int .i64 ((rd_T151 l1 x38_3).f1)] 151 (0, 0)) (qz8 BK109.out) hb); have n4_ := Aside0.mk (below_step (qz46 GE101.out GE106.out GE109.out) hb); clear HO_107001; clear BK101; clear BK106; clear BK109; clear HB; have HO_107001 := n0_; have BK101 := n1_; have BK106 := n2_; have BK109 := n3_; have HB := n4_; clear n0_ n1_ n2_ n3_ n4_; (try clear hb); (try clear hb2); (try clear hk); (try clear hi)))
                   have n0_ := Aside0.mk (Kd.R_drew HO_107001.out)
                   have n1_ := Aside0.mk (blk_drew BK101.out)
                   have n2_ := Aside0.mk (blk_drew BK106.out)
                   have n3_ := Aside0.mk (blk_drew BK109.out)
                   have n4_ := Aside0.mk (below_drew1 HB.out)
                   clear HO_107001
                   clear BK101
                   clear BK106
                   clear BK109
                   clear HB
                   have HO_107001 := n0_
                   have BK101 := n1_
                   have BK106 := n2_
                   have BK109 := n3_
                   have HB := n4_
                   clear n0_ n1_ n2_ n3_ n4_
                   have p112 : 0 ≤ (((rd_T151 l1 x38_3).f0) : Int) := of_decide_eq_true qz4
                   have q112 : ((rd_T151 l1 x38_3).f0) < (x107001_3.length : Int) := of_decide_eq_true qz4
                   obtain ⟨ad112, e112, hx112_0⟩ := Kd.at_int (Kd.R_reads' HO_107001.out).2.2 ((rd_T151 l1 x38_3).f0) p112 q112
                   cases e112
                   replace p112 := eq_true p112
                   replace q112 := eq_true q112
                   have p35 : 0 ≤ (((rd_T151 l1 x38_3).f0) : Int) := of_decide_eq_true qz4
                   have q35 : (((rd_T151 l1 x38_3).f0) : Int) < ((x107001_3.length : Int) : Int) := of_decide_eq_true qz4
                   obtain ⟨go35, co35, eo35, gb35, gl35, cl35, HG35⟩ := Kd.R_form HO_107001.out (by omega)
                   (first | cases eo35 | (injection eo35 with ea_ en_ ec_; (first | subst ea_ | (injection ea_ with ea_; subst ea_)); subst ec_; clear en_))
                   have GB35 := Aside0.mk gb35
                   have GG35 := Aside0.mk HG35
                   clear gb35 gl35 HG35
                   (first | simp only [add_plain] at hx112_0 | skip)
                   obtain ⟨hx35_0, hf35_0⟩ := Kd.R_celln 0 HO_107001.out (((rd_T151 l1 x38_3).f0) : Int) p35 q35
                   replace p35 := eq_true p35
                   replace q35 := eq_true q35
                   have HP48 := Kd.R_putn HO_107001.out (((rd_T151 l1 x38_3).f0) : Int) (Go.bits .or .u64 (rd x107001_3 ((rd_T151 l1 x38_3).f0)) (ji34))
                   rw [← Ny113.out] at HP48
                   have HQ48 := Aside0.mk HP48
                   clear HP48
                   refine start_ (n := 12) (S := fun w' => w'.cell? ⟨gb106, 0, none⟩ = some (.int .i64 a0) ∧ w'.cell? ⟨gb106, 1, none⟩ = some (.slice (some ⟨go35, 0, none⟩) x107001_3.length co42) ∧ w'.cell? ⟨gb109, 0, none⟩ = some (.int .i64 ((rd_T151 l1 x38_3).f0)) ∧ w'.cell? ⟨gb109, 1, none⟩ = some (.int .i64 ((rd_T151 l1 x38_3).f1)) ∧ w'.cell? ⟨go35, ((rd_T151 l1 x38_3).f0).toNat, none⟩ = some (.int .u64 (rd x107001_3 ((rd_T151 l1 x38_3).f0)))) (ds := [11]) #[false, false, false, false, false, false, false, false, false, false, false, false] (by kernel_rfl) rfl rfl ⟨(blk_cell BK106.out 0).trans rfl, (blk_cell BK106.out 1).trans rfl, (blk_cell BK109.out 0).trans rfl, (blk_cell BK109.out 1).trans rfl, hx112_0⟩ (fun hHeld => ?_); refine with_tabW impl_LatOf.tab14 impl_LatOf.bits14 (fun HT_ HW_ => ?_)
                   generalize w46.drew = w47 at HO_107001 BK101 BK106 BK109 HB GG35 HQ48 hf35_0 hx112_0 hx35_0 hHeld ⊢
                   refine pure_ (i := 0) (N := some 55) (v := ?_) (a' := ?_) #[true, false, false, false, false, false, false, false, false, false, false, false] rfl rfl (any_of HT_.out (by kernel_rfl)) (fun _ _ _ h => h) (Or.inl ⟨by rfl, ?_⟩) ?_ ?_
                   rotate_left
                   ·intro w'
                    go_simp
                    with_reducible rfl
                   rotate_left
                   ·simp only [Act.put, List.setIfInBounds_toArray, List.set_cons_zero, List.set_cons_succ, i64_w, i32_w]
                    rfl
                   refine pure_ (i := 2) (N := some 57) (v := ?_) (a' := ?_) #[true, false, true, false, false, false, false, false, false, false, false, false] rfl rfl (any_of HT_.out (by kernel_rfl)) (fun _ _ _ h => h) (Or.inl ⟨by rfl, ?_⟩) ?_ ?_
                   rotate_left
                   ·intro w'
                    go_simp
                    with_reducible rfl
                   rotate_left
                   ·simp only [Act.put, List.setIfInBounds_toArray, List.set_cons_zero, List.set_cons_succ, i64_w, i32_w]
                    rfl
                   refine pure_ (i := 6) (N := some 61) (v := ?_) (a' := ?_) #[true, false, true, false, false, false, true, false, false, false, false, false] rfl rfl (any_of HT_.out (by kernel_rfl)) (fun _ _ _ h => h) (Or.inl ⟨by rfl, ?_⟩) ?_ ?_
                   rotate_left
                   ·intro w'
                    go_simp
                    with_reducible rfl
                   rotate_left
                   ·simp only [Act.put, List.setIfInBounds_toArray, List.set_cons_zero, List.set_cons_succ, i64_w, i32_w]
                    rfl
                   refine take_ (i := 1) (N := some 56) (v := ?_) (a' := ?_) #[true, true, true, false, false, false, true, false, false, false, false, false] rfl rfl (take_ofW HT_.out HW_.out (by kernel_rfl)) (fun _ _ _ h => h) (Or.inl ⟨by rfl, ?_⟩) hHeld ?_ ?_
                   rotate_left
                   ·rintro w' ⟨s0, s1, s2, s3, s4⟩
                    go_simp
                    with_reducible rfl
                   rotate_left
                   ·simp only [Act.put, List.setIfInBounds_toArray, List.set_cons_zero, List.set_cons_succ, i64_w, i32_w]
                    rfl
                   refine take_ (i := 3) (N := some 58) (v := ?_) (a' := ?_) #[true, true, true, true, false, false, true, false, false, false, false, false] rfl rfl (take_ofW HT_.out HW_.out (by kernel_rfl)) (fun _ _ _ h => h) (Or.inl ⟨by rfl, ?_⟩) hHeld ?_ ?_
                   rotate_left
                   ·rintro w' ⟨s0, s1, s2, s3, s4⟩
                    go_simp
                    with_reducible rfl
                   rotate_left
                   ·simp only [Act.put, List.setIfInBounds_toArray, List.set_cons_zero, List.set_cons_succ, i64_w, i32_w]
                    rfl
                   refine pure_ (i := 4) (N := some 59) (v := ?_) (a' := ?_) #[true, true, true, true, true, false, true, false, false, false, false, false] rfl rfl (any_of HT_.out (by kernel_rfl)) (fun _ _ _ h => h) (Or.inl ⟨by rfl, ?_⟩) ?_ ?_
                   rotate_left
                   ·intro w'
                    go_simp
                    with_reducible rfl
                   rotate_left
                   ·simp only [Act.put, List.setIfInBounds_toArray, List.set_cons_zero, List.set_cons_succ, i64_w, i32_w]
                    rfl
                   refine take_ (i := 5) (N := some 60) (v := ?_) (a' := ?_) #[true, true, true, true, true, true, true, false, false, false, false, false] rfl rfl (take_ofW HT_.out HW_.out (by kernel_rfl)) (fun _ _ _ h => h) (Or.inl ⟨by rfl, ?_⟩) hHeld ?_ ?_
                   rotate_left
                   ·rintro w' ⟨s0, s1, s2, s3, s4⟩
                    go_simp
                    with_reducible rfl
                   rotate_left
                   ·simp only [Act.put, List.setIfInBounds_toArray, List.set_cons_zero, List.set_cons_succ, i64_w, i32_w]
                    rfl
                   refine take_ (i := 7) (N := some 62) (v := ?_) (a' := ?_) #[true, true, true, true, true, true, true, true, false, false, false, false] rfl rfl (take_ofW HT_.out HW_.out (by kernel_rfl)) (fun _ _ _ h => h) (Or.inl ⟨by rfl, ?_⟩) hHeld ?_ ?_
                   rotate_left
                   ·rintro w' ⟨s0, s1, s2, s3, s4⟩
                    go_simp
                    with_reducible rfl
                   rotate_left
                   ·simp only [Act.put, List.setIfInBounds_toArray, List.set_cons_zero, List.set_cons_succ, i64_w, i32_w]
                    rfl
                   refine pure_ (i := 8) (N := some 63) (v := ?_) (a' := ?_) #[true, true, true, true, true, true, true, true, true, false, false, false] rfl rfl (any_of HT_.out (by kernel_rfl)) (fun _ _ _ h => h) (Or.inl ⟨by rfl, ?_⟩) ?_ ?_
                   rotate_left
                   ·intro w'
                    go_simp
                    with_reducible rfl
                   rotate_left
                   ·simp only [Act.put, List.setIfInBounds_toArray, List.set_cons_zero, List.set_cons_succ, i64_w, i32_w]
                    rfl
                   refine pure_ (i := 9) (N := some 64) (v := ?_) (a' := ?_) #[true, true, true, true, true, true, true, true, true, true, false, false] rfl rfl (any_of HT_.out (by kernel_rfl)) (fun _ _ _ h => h) (Or.inl ⟨by rfl, ?_⟩) ?_ ?_
                   rotate_left
                   ·intro w'
                    go_simp
                    with_reducible rfl
                   rotate_left
                   ·simp only [Act.put, List.setIfInBounds_toArray, List.set_cons_zero, List.set_cons_succ, i64_w, i32_w]
                    rfl
                   refine pure_ (i := 10) (N := some 65) (v := ?_) (a' := ?_) #[true, true, true, true, true, true, true, true, true, true, true, false] rfl rfl (any_of HT_.out (by kernel_rfl)) (fun _ _ _ h => h) (Or.inl ⟨by rfl, ?_⟩) ?_ ?_
                   rotate_left
                   ·intro w'
                    go_simp
                    with_reducible rfl
                   rotate_left
                   ·simp only [Act.put, List.setIfInBounds_toArray, List.set_cons_zero, List.set_cons_succ, i64_w, i32_w]
                    rfl
                   refine last_ (i := 11) (N := none) #[true, true, true, true, true, true, true, true, true, true, true, true] rfl rfl (one_of HT_.out (by kernel_rfl)) (by decide) (fun K hK => ?_)
                   refine skip_ (w1 := ?_) (by rfl) rfl ?_ ?_
                   rotate_left
                   ·go_simp
                    rfl
                   refine hK.out _ _ ?_
                   clear hK K
                   refine done_ (done_of HT_.out (by kernel_rfl)) ?_
                   try go_wp2
                   go_roundg k3
                   case measure => have := HJ2.out; have := HK2.out; have := HK3.out; omega
                   case rel => exact ⟨(wrap64 (x38_3 + 1)), (x102000_3), (y113), (.slice (some ⟨go35, 0, none⟩) x107001_3.length co42), qz2, H', ⟨qz31 HJ2.out HK2.out HK3.out⟩, ⟨qz21 HQ48.out⟩, ⟨qz45 BK101.out⟩, ⟨qz45 BK106.out⟩, ⟨qz57 GB35.out GE101.out GE106.out GE109.out⟩⟩
                  ·rw [if_neg c33] at H
                   exact absurd H (by simp)
                 ·rw [if_neg c32] at H
                  exact absurd H (by simp)
                ·rw [if_neg c31] at H
                 exact absurd H (by simp)
               ·replace c30 := Bool.eq_false_iff.mpr c30
                subst c30
                have H1 : (some (0, ([] : List Int), false)) = some (r1, r2, r3) := by rw [if_neg (show ¬ (false = true) by decide)] at H; exact H
                clear H
                have H := H1
                clear H1
                simp only [Option.some.injEq, Prod.mk.injEq] at H
                obtain ⟨rfl, rfl, rfl⟩ := H
                have p108 : 0 ≤ (x38_3 : Int) := of_decide_eq_true qz4
                have q108 : x38_3 < (l1.length : Int) := of_decide_eq_true qz4
                obtain ⟨ad108, e108, hx108_0, hx108_1⟩ := at_T151 HR1.out x38_3 p108 q108
                cases e108
                replace hx108_0 := qcb HB hx108_0
                replace hx108_1 := qcb HB hx108_1
                replace p108 := eq_true p108
                replace q108 := eq_true q108
                go_wp2_with (first | ((with_reducible refine gate_dst (N := 9) rfl ?_); (try (refine gate_guard (by rfl) ?_; dsimp only)); refine box_event ?hg (N := 9) ?hd (cs := #[.int .i64 0, .int .i64 0]) (t := 151) ?hr ?_; (case hd => rfl); (case hg => rfl); (case hr => exact qz5); intro gb109 hg w49 hbox hb; have n0_ := Aside0.mk (Kd.R_below qz47 hb); have n1_ := Aside0.mk (blk_below (g := gb101) (o := .cells #[.int .i64 x102000_3, .slice none 0 0] 47 (0, 0)) (qz8 BK101.out) hb); have n2_ := Aside0.mk (blk_below (g := gb106) (o := .cells #[.int .i64 a0, u107001] 47 (0, 0)) (qz8 BK106.out) hb); have n3_ := Aside0.mk (below_step (qz43 GE101.out GE106.out) hb); have n4_ := Aside0.mk (hbox); have n5_ := Aside0.mk ((qz48 GE101.out GE106.out : w.heap.size ≤ gb109)); have n6_ := Aside0.mk ((qz48 GE101.out GE106.out : w.heap.size ≤ gb109)); have n7_ := Aside0.mk ((qz49 BK101.out : gb101 ≠ gb109)); have n8_ := Aside0.mk ((qz50 BK101.out : gb109 ≠ gb101)); have n9_ := Aside0.mk ((qz51 BK106.out : gb106 ≠ gb109)); have n10_ := Aside0.mk ((qz52 BK106.out : gb109 ≠ gb106)); clear HO_107001; clear BK101; clear BK106; clear HB; have HO_107001 := n0_; have BK101 := n1_; have BK106 := n2_; have HB := n3_; have BK109 := n4_; have GW109 := n5_; have GE109 := n6_; have NB101_109 := n7_; have NB109_101 := n8_; have NB106_109 := n9_; have NB109_106 := n10_; clear n0_ n1_ n2_ n3_ n4_ n5_ n6_ n7_ n8_ n9_ n10_; clear hb hbox hg; have hnb50 := NB109_101.out; have hnc50 := NB101_109.out; have hnb51 := NB109_106.out; have hnc51 := NB106_109.out; have hcz52_0 : w49.cell? ⟨gb109, 0, none⟩ = some (.int .i64 0) := (blk_cell BK109.out 0).trans rfl; have hcz52_1 : w49.cell? ⟨gb109, 1, none⟩ = some (.int .i64 0) := (blk_cell BK109.out 1).trans rfl; have hfz52_0 := blk_frozen BK109.out 0; have hfz52_1 := blk_frozen BK109.out 1; have hnb53 := NB106_101.out; have hnc53 := NB101_106.out; have hcz54_0 : w49.cell? ⟨gb106, 0, none⟩ = some (.int .i64 a0) := (blk_cell BK106.out 0).trans rfl; have hcz54_1 : w49.cell? ⟨gb106, 1, none⟩ = some (u107001) := (blk_cell BK106.out 1).trans rfl; have hfz54_0 := blk_frozen BK106.out 0; have hfz54_1 := blk_frozen BK106.out 1; obtain ⟨Ao55, co55, eo55⟩ := Kd.R_slice HO_107001.out; subst eo55) | ((with_reducible refine gate_callee (f := 124) rfl ?_); refine goesL_ (some 45) rfl rfl Try.func124 (by kernel_rfl) rfl #[.agg #[.int .i64 a0, .slice Ao55 x107001_3.length co55], .int .i64 ((rd_T151 l1 x38_3).f0)] rfl qz1 ?_; (with_reducible refine (impl_Lat_has.calls a0 _ _ x107001_3 ((rd_T151 l1 x38_3).f0) true _ ?side1 ?side2 A27.out).mono ?_); (case side1 => refine (Kd.R_reads' (e := 153) (base := w.heap.size) (ok := fun k_ => True) (n := x107001_3.length) (c := co55) ?_).2.2; exact (qz53 BK109.out)); (case side2 => exact qz54); rintro e w56 ⟨rfl, hb⟩; refine ⟨_, rfl, ?_⟩; have n0_ := Aside0.mk (Kd.R_below (qz53 BK109.out) hb); have n1_ := Aside0.mk (blk_below (g := gb101) (o := .cells #[.int .i64 x102000_3, .slice none 0 0] 47 (0, 0)) (qz41 NB101_109.out BK101.out) hb); have n2_ := Aside0.mk (blk_below (g := gb106) (o := .cells #[.int .i64 a0, .slice Ao55 x107001_3.length co55] 47 (0, 0)) (qz41 NB106_109.out BK106.out) hb); have n3_ := Aside0.mk (blk_below (g := gb109) (o := .cells #[.int .i64 ((rd_T151 l1 x38_3).f0), .int .i64 ((rd_T151 l1 x38_3).f1)] 151 (0, 0)) (qz55 BK109.out) hb); have n4_ := Aside0.mk (below_step (qz46 GE101.out GE106.out GE109.out) hb); clear HO_107001; clear BK101; clear BK106; clear BK109; clear HB; have HO_107001 := n0_; have BK101 := n1_; have BK106 := n2_; have BK109 := n3_; have HB := n4_; clear n0_ n1_ n2_ n3_ n4_; (try clear hb); (try clear hb2); (try clear hk); (try clear hi); have hcz57_0 : w56.cell? ⟨gb106, 0, none⟩ = some (.int .i64 a0) := (blk_cell BK106.out 0).trans rfl; have hcz57_1 : w56.cell? ⟨gb106, 1, none⟩ = some (.slice Ao55 x107001_3.length co55) := (blk_cell BK106.out 1).trans rfl; have hfz57_0 := blk_frozen BK106.out 0; have hfz57_1 := blk_frozen BK106.out 1; have hcz58_0 : w56.cell? ⟨gb109, 0, none⟩ = some (.int .i64 ((rd_T151 l1 x38_3).f0)) := (blk_cell BK109.out 0).trans rfl; have hcz58_1 : w56.cell? ⟨gb109, 1, none⟩ = some (.int .i64 ((rd_T151 l1 x38_3).f1)) := (blk_cell BK109.out 1).trans rfl; have hfz58_0 := blk_frozen BK109.out 0; have hfz58_1 := blk_frozen BK109.out 1) | (go_at_call 124; (with_reducible refine (impl_Lat_has.calls a0 _ _ x107001_3 ((rd_T151 l1 x38_3).f1) false _ ?side1 ?side2 A29.out).mono ?_); (case side1 => exact qz56); (case side2 => exact qz54); rintro e w59 ⟨rfl, hb⟩; have n0_ := Aside0.mk (Kd.R_below qz47 hb); have n1_ := Aside0.mk (blk_below (g := gb101) (o := .cells #[.int .i64 x102000_3, .slice none 0 0] 47 (0, 0)) (qz8 BK101.out) hb); have n2_ := Aside0.mk (blk_below (g := gb106) (o := .cells #[.int .i64 a0, .slice Ao55 x107001_3.length co55] 47 (0, 0)) (qz8 BK106.out) hb); have n3_ := Aside0.mk (blk_below (g := gb109) (o := .cells #[.int .i64 ((rd_T151 l1 x38_3).f0), .int .i64 ((rd_T151 l1 x38_3).f1)] 151 (0, 0)) (qz8 BK109.out) hb); have n4_ := Aside0.mk (below_step (qz46 GE101.out GE106.out GE109.out) hb); clear HO_107001; clear BK101; clear BK106; clear BK109; clear HB; have HO_107001 := n0_; have BK101 := n1_; have BK106 := n2_; have BK109 := n3_; have HB := n4_; clear n0_ n1_ n2_ n3_ n4_; (try clear hb); (try clear hb2); (try clear hk); (try clear hi); have hcz60_0 : w59.cell? ⟨gb101, 0, none⟩ = some (.int .i64 x102000_3) := (blk_cell BK101.out 0).trans rfl; have hcz60_1 : w59.cell? ⟨gb101, 1, none⟩ = some (.slice none 0 0) := (blk_cell BK101.out 1).trans rfl; have hfz60_0 := blk_frozen BK101.out 0; have hfz60_1 := blk_frozen BK101.out 1))
                refine bodyPost_ret (results_ct rfl _ _ gb101 47 #[.int .i64 0, .slice none 0 0] (0, 0) _ rfl (qz58 BK101.out) Try.underlying47 rfl (by kernel_rfl)) rfl ?_
                exact ⟨_, qz13, qz15, qz46 GE101.out GE106.out GE109.out⟩
              ·replace c28 := Bool.eq_false_iff.mpr c28
               subst c28
               have H1 : (some (0, ([] : List Int), false)) = some (r1, r2, r3) := by rw [if_neg (show ¬ (false = true) by decide)] at H; exact H
               clear H
               have H := H1
               clear H1
               simp only [Option.some.injEq, Prod.mk.injEq] at H
               obtain ⟨rfl, rfl, rfl⟩ := H
               have p108 : 0 ≤ (x38_3 : Int) := of_decide_eq_true qz4
               have q108 : x38_3 < (l1.length : Int) := of_decide_eq_true qz4
               obtain ⟨ad108, e108, hx108_0, hx108_1⟩ := at_T151 HR1.out x38_3 p108 q108
               cases e108
               replace hx108_0 := qcb HB hx108_0
               replace hx108_1 := qcb HB hx108_1
               replace p108 := eq_true p108
               replace q108 := eq_true q108
               go_wp2_with (first | ((with_reducible refine gate_dst (N := 9) rfl ?_); (try (refine gate_guard (by rfl) ?_; dsimp only)); refine box_event ?hg (N := 9) ?hd (cs := #[.int .i64 0, .int .i64 0]) (t := 151) ?hr ?_; (case hd => rfl); (case hg => rfl); (case hr => exact qz5); intro gb109 hg w61 hbox hb; have n0_ := Aside0.mk (Kd.R_below qz47 hb); have n1_ := Aside0.mk (blk_below (g := gb101) (o := .cells #[.int .i64 x102000_3, .slice none 0 0] 47 (0, 0)) (qz8 BK101.out) hb); have n2_ := Aside0.mk (blk_below (g := gb106) (o := .cells #[.int .i64 a0, u107001] 47 (0, 0)) (qz8 BK106.out) hb); have n3_ := Aside0.mk (below_step (qz43 GE101.out GE106.out) hb); have n4_ := Aside0.mk (hbox); have n5_ := Aside0.mk ((qz48 GE101.out GE106.out : w.heap.size ≤ gb109)); have n6_ := Aside0.mk ((qz48 GE101.out GE106.out : w.heap.size ≤ gb109)); have n7_ := Aside0.mk ((qz49 BK101.out : gb101 ≠ gb109)); have n8_ := Aside0.mk ((qz50 BK101.out : gb109 ≠ gb101)); have n9_ := Aside0.mk ((qz51 BK106.out : gb106 ≠ gb109)); have n10_ := Aside0.mk ((qz52 BK106.out : gb109 ≠ gb106)); clear HO_107001; clear BK101; clear BK106; clear HB; have HO_107001 := n0_; have BK101 := n1_; have BK106 := n2_; have HB := n3_; have BK109 := n4_; have GW109 := n5_; have GE109 := n6_; have NB101_109 := n7_; have NB109_101 := n8_; have NB106_109 := n9_; have NB109_106 := n10_; clear n0_ n1_ n2_ n3_ n4_ n5_ n6_ n7_ n8_ n9_ n10_; clear hb hbox hg; have hnb62 := NB109_101.out; have hnc62 := NB101_109.out; have hnb63 := NB109_106.out; have hnc63 := NB106_109.out; have hcz64_0 : w61.cell? ⟨gb109, 0, none⟩ = some (.int .i64 0) := (blk_cell BK109.out 0).trans rfl; have hcz64_1 : w61.cell? ⟨gb109, 1, none⟩ = some (.int .i64 0) := (blk_cell BK109.out 1).trans rfl; have hfz64_0 := blk_frozen BK109.out 0; have hfz64_1 := blk_frozen BK109.out 1; have hnb65 := NB106_101.out; have hnc65 := NB101_106.out; have hcz66_0 : w61.cell? ⟨gb106, 0, none⟩ = some (.int .i64 a0) := (blk_cell BK106.out 0).trans rfl; have hcz66_1 : w61.cell? ⟨gb106, 1, none⟩ = some (u107001) := (blk_cell BK106.out 1).trans rfl; have hfz66_0 := blk_frozen BK106.out 0; have hfz66_1 := blk_frozen BK106.out 1; obtain ⟨Ao67, co67, eo67⟩ := Kd.R_slice HO_107001.out; subst eo67) | ((with_reducible refine gate_callee (f := 124) rfl ?_); refine goesL_ (some 45) rfl rfl Try.func124 (by kernel_rfl) rfl #[.agg #[.int .i64 a0, .slice Ao67 x107001_3.length co67], .int .i64 ((rd_T151 l1 x38_3).f0)] rfl qz1 ?_; (with_reducible refine (impl_Lat_has.calls a0 _ _ x107001_3 ((rd_T151 l1 x38_3).f0) false _ ?side1 ?side2 A27.out).mono ?_); (case side1 => refine (Kd.R_reads' (e := 153) (base := w.heap.size) (ok := fun k_ => True) (n := x107001_3.length) (c := co67) ?_).2.2; exact (qz53 BK109.out)); (case side2 => exact qz54); rintro e w68 ⟨rfl, hb⟩; refine ⟨_, rfl, ?_⟩; have n0_ := Aside0.mk (Kd.R_below (qz53 BK109.out) hb); have n1_ := Aside0.mk (blk_below (g := gb101) (o := .cells #[.int .i64 x102000_3, .slice none 0 0] 47 (0, 0)) (qz41 NB101_109.out BK101.out) hb); have n2_ := Aside0.mk (blk_below (g := gb106) (o := .cells #[.int .i64 a0, .slice Ao67 x107001_3.length co67] 47 (0, 0)) (qz41 NB106_109.out BK106.out) hb); have n3_ := Aside0.mk (blk_below (g := gb109) (o := .cells #[.int .i64 ((rd_T151 l1 x38_3).f0), .int .i64 ((rd_T151 l1 x38_3).f1)] 151 (0, 0)) (qz55 BK109.out) hb); have n4_ := Aside0.mk (below_step (qz46 GE101.out GE106.out GE109.out) hb); clear HO_107001; clear BK101; clear BK106; clear BK109; clear HB; have HO_107001 := n0_; have BK101 := n1_; have BK106 := n2_; have BK109 := n3_; have HB := n4_; clear n0_ n1_ n2_ n3_ n4_; (try clear hb); (try clear hb2); (try clear hk); (try clear hi); have hcz69_0 : w68.cell? ⟨gb101, 0, none⟩ = some (.int .i64 x102000_3) := (blk_cell BK101.out 0).trans rfl; have hcz69_1 : w68.cell? ⟨gb101, 1, none⟩ = some (.slice none 0 0) := (blk_cell BK101.out 1).trans rfl; have hfz69_0 := blk_frozen BK101.out 0; have hfz69_1 := blk_frozen BK101.out 1))
               refine bodyPost_ret (results_ct rfl _ _ gb101 47 #[.int .i64 0, .slice none 0 0] (0, 0) _ rfl (qz58 BK101.out) Try.underlying47 rfl (by kernel_rfl)) rfl ?_
               exact ⟨_, qz13, qz15, qz46 GE101.out GE106.out GE109.out⟩
             ·rw [if_neg c26] at H
              exact absurd H (by simp)
            ·rw [if_neg c25] at H
             exact absurd H (by simp)
           ·rw [if_neg c24] at H
            have c24b0 : decide (x38_3 < (l1.length : Int)) = false := decide_eq_false c24
            clear c24
            have H' := Aside0.mk H
            clear H
            go_wp2
            go_loopg [68] k3 (fun kq v68 w' => ∃ (x68_4 : Int) (x107001_4 : List Int) (u107001 : Value), v68 = .int .i64 x68_4 ∧ Aside0 (impl_LatOf.l2 kq a0 a0 x68_4 a0 x107001_4 = some (r1, r2, r3)) ∧ Aside0 (kq ≤ k3) ∧ Aside0 (Kd.R (Kd.int .u64) 153 w' w.heap.size (fun _ => True) u107001 x107001_4) ∧ Aside0 (w'.heap[gb101]? = some (.cells #[.int .i64 x102000_3, (.slice none 0 0)] 47 (0, 0))) ∧ Aside0 (w'.heap[gb106]? = some (.cells #[.int .i64 a0, u107001] 47 (0, 0))) ∧ Aside0 (Below w.heap.size w w'))
            case atStart => exact ⟨(0), (x107001_3), (u107001), qz2, H', ⟨Nat.le_refl _⟩, ⟨qz47⟩, ⟨qz8 BK101.out⟩, ⟨qz8 BK106.out⟩, ⟨qz43 GE101.out GE106.out⟩⟩
            case round =>
             clear H'
             try clear c1
             try clear p1
             try clear q1
             try clear hx1
             try clear c2
             try clear p2
             try clear q2
             try clear hx2
             try clear hf2
             try clear c3
             try clear p3
             try clear q3
             try clear hx3
             try clear hf3
             try clear c4
             try clear c5
             try clear c6
             try clear p6
             try clear c7
             try clear c9
             try clear c9b0
             try clear c9b1
             try clear c10
             try clear c10b0
             try clear c10b1
             try clear p10
             try clear q10
             try clear hx10
             try clear p11
             try clear q11
             try clear hx11
             try clear c12
             try clear c15
             try clear c17
             try clear c17b0
             try clear c18
             try clear c18b0
             try clear c18b1
             try clear c20
             try clear c20b0
             try clear p21
             try clear q21
             try clear hx21
             try clear hf21
             try clear c24
             try clear c24b0
             try clear c25
             try clear c25b0
             try clear c26
             try clear c26b0
             try clear c28
             try clear c30
             try clear c31
             try clear c31b0
             try clear c32
             try clear c32b0
             try clear c33
             try clear c33b0
             try clear c33b1
             try clear p35
             try clear q35
             try clear hx35
             try clear hf35
             try clear c37
             try clear c38
             try clear c40
             try clear c50
             try clear c51
             try clear c53
             try clear c62
             try clear c63
             try clear p64
             try clear c65
             try clear hcz16_0
             try clear hcz16_1
             try clear hcz39_0
             try clear hcz39_1
             try clear hcz41_0
             try clear hcz41_1
             try clear hcz44_0
             try clear hcz44_1
             try clear hcz45_0
             try clear hcz45_1
             try clear hcz52_0
             try clear hcz52_1
             try clear hcz54_0
             try clear hcz54_1
             try clear hcz57_0
             try clear hcz57_1
             try clear hcz58_0
             try clear hcz58_1
             try clear hcz60_0
             try clear hcz60_1
             try clear hcz64_0
             try clear hcz64_1
             try clear hcz66_0
             try clear hcz66_1
             try clear hcz69_0
             try clear hcz69_1
             try clear hcz8_0
             try clear hcz8_1
             try clear hfz16_0
             try clear hfz16_1
             try clear hfz39_0
             try clear hfz39_1
             try clear hfz41_0
             try clear hfz41_1
             try clear hfz44_0
             try clear hfz44_1
             try clear hfz45_0
             try clear hfz45_1
             try clear hfz52_0
             try clear hfz52_1
             try clear hfz54_0
             try clear hfz54_1
             try clear hfz57_0
             try clear hfz57_1
             try clear hfz58_0
             try clear hfz58_1
             try clear hfz60_0
             try clear hfz60_1
             try clear hfz64_0
             try clear hfz64_1
             try clear hfz66_0
             try clear hfz66_1
             try clear hfz69_0
             try clear hfz69_1
             try clear hfz8_0
             try clear hfz8_1
             try clear hx108_0
             try clear hx108_1
             try clear hx112_0
             try clear hx21_0
             try clear hx35_0
             try clear p108
             try clear p112
             try clear p2
             try clear p21
             try clear p35
             try clear p6
             try clear q108
             try clear q112
             try clear q2
             try clear q21
             try clear q35
             obtain ⟨x68_4, x107001_4, u107001, rfl, HA, HK4, HO_107001, BK101, BK106, HB⟩ := hrel
             cases gk with
             | zero => exact absurd HA.out (by simp [impl_LatOf.l2])
             | succ k4 =>
              have H := HA.out
              clear HA
              simp only [impl_LatOf.l2] at H
              by_cases c70 : x68_4 < a0
              ·rw [if_pos c70] at H
               have c70b0 : decide (x68_4 < a0) = true := decide_eq_true c70
               clear c70
               have H' := Aside0.mk H
               clear H
               go_wp2
               go_loopg [72] k4 (fun kq v72 w' => ∃ (x72_5 : Int) (x107001_5 : List Int) (u107001 : Value), v72 = .int .i64 x72_5 ∧ Aside0 (impl_LatOf.l3 kq a0 x68_4 a0 x68_4 a0 x72_5 a0 x107001_5 = some (r1, r2, r3)) ∧ Aside0 (kq ≤ k4) ∧ Aside0 (Kd.R (Kd.int .u64) 153 w' w.heap.size (fun _ => True) u107001 x107001_5) ∧ Aside0 (w'.heap[gb101]? = some (.cells #[.int .i64 x102000_3, (.slice none 0 0)] 47 (0, 0))) ∧ Aside0 (w'.heap[gb106]? = some (.cells #[.int .i64 a0, u107001] 47 (0, 0))) ∧ Aside0 (Below w.heap.size w w'))
               case atStart => exact ⟨(0), (x107001_4), (u107001), qz2, H', ⟨Nat.le_refl _⟩, ⟨qz47⟩, ⟨qz8 BK101.out⟩, ⟨qz8 BK106.out⟩, ⟨qz43 GE101.out GE106.out⟩⟩
               case round =>
                clear H'
                try clear c1
                try clear p1
                try clear q1
                try clear hx1
                try clear c2
                try clear p2
                try clear q2
                try clear hx2
                try clear hf2
                try clear c3
                try clear p3
                try clear q3
                try clear hx3
                try clear hf3
                try clear c4
                try clear c5
                try clear c6
                try clear p6
                try clear c7
                try clear c9
                try clear c9b0
                try clear c9b1
                try clear c10
                try clear c10b0
                try clear c10b1
                try clear p10
                try clear q10
                try clear hx10
                try clear p11
                try clear q11
                try clear hx11
                try clear c12
                try clear c15
                try clear c17
                try clear c17b0
                try clear c18
                try clear c18b0
                try clear c18b1
                try clear c20
                try clear c20b0
                try clear p21
                try clear q21
                try clear hx21
                try clear hf21
                try clear c24
                try clear c24b0
                try clear c25
                try clear c25b0
                try clear c26
                try clear c26b0
                try clear c28
                try clear c30
                try clear c31
                try clear c31b0
                try clear c32
                try clear c32b0
                try clear c33
                try clear c33b0
                try clear c33b1
                try clear p35
                try clear q35
                try clear hx35
                try clear hf35
                try clear c37
                try clear c38
                try clear c40
                try clear c50
                try clear c51
                try clear c53
                try clear c62
                try clear c63
                try clear p64
                try clear c65
                try clear c70
                try clear c70b0
                try clear hcz16_0
                try clear hcz16_1
                try clear hcz39_0
                try clear hcz39_1
                try clear hcz41_0
                try clear hcz41_1
                try clear hcz44_0
                try clear hcz44_1
                try clear hcz45_0
                try clear hcz45_1
                try clear hcz52_0
                try clear hcz52_1
                try clear hcz54_0
                try clear hcz54_1
                try clear hcz57_0
                try clear hcz57_1
                try clear hcz58_0
                try clear hcz58_1
                try clear hcz60_0
                try clear hcz60_1
                try clear hcz64_0
                try clear hcz64_1
                try clear hcz66_0
                try clear hcz66_1
                try clear hcz69_0
                try clear hcz69_1
                try clear hcz8_0
                try clear hcz8_1
                try clear hfz16_0
                try clear hfz16_1
                try clear hfz39_0
                try clear hfz39_1
                try clear hfz41_0
                try clear hfz41_1
                try clear hfz44_0
                try clear hfz44_1
                try clear hfz45_0
                try clear hfz45_1
                try clear hfz52_0
                try clear hfz52_1
                try clear hfz54_0
                try clear hfz54_1
                try clear hfz57_0
                try clear hfz57_1
                try clear hfz58_0
                try clear hfz58_1
                try clear hfz60_0
                try clear hfz60_1
                try clear hfz64_0
                try clear hfz64_1
                try clear hfz66_0
                try clear hfz66_1
                try clear hfz69_0
                try clear hfz69_1
                try clear hfz8_0
                try clear hfz8_1
                try clear hx108_0
                try clear hx108_1
                try clear hx112_0
                try clear hx21_0
                try clear hx35_0
                try clear p1
                try clear p10
                try clear p108
                try clear p11
                try clear p112
                try clear p2
                try clear p21
                try clear p3
                try clear p35
                try clear p6
                try clear p64
                try clear q1
                try clear q10
                try clear q108
                try clear q11
                try clear q112
                try clear q2
                try clear q21
                try clear q3
                try clear q35
                obtain ⟨x72_5, x107001_5, u107001, rfl, HA, HK5, HO_107001, BK101, BK106, HB⟩ := hrel
                cases gk with
                | zero => exact absurd HA.out (by simp [impl_LatOf.l3])
                | succ k5 =>
                 have H := HA.out
                 clear HA
                 simp only [impl_LatOf.l3] at H
                 by_cases c71 : x72_5 < a0
                 ·rw [if_pos c71] at H
                  have c71b0 : decide (x72_5 < a0) = true := decide_eq_true c71
                  clear c71
                  replace H := Option.bind_eq_some_iff.mp H
                  obtain ⟨t115, A720, H⟩ := H
                  replace H : (if t115 = true then (if 0 ≤ x72_5 then (if x72_5 < (x107001_5.length : Int) then (if 0 ≤ x68_4 then (if x68_4 < (x107001_5.length : Int) then (impl_LatOf.l3 k5 a0 x68_4 a0 x68_4 a0 (wrap64 (x72_5 + 1)) a0 (x107001_5.set (x72_5 : Int).toNat (Go.bits .or .u64 (rd x107001_5 x72_5) (rd x107001_5 x68_4)))) else (none)) else (none)) else (none)) else (none)) else (impl_LatOf.l3 k5 a0 x68_4 a0 x68_4 a0 (wrap64 (x72_5 + 1)) a0 x107001_5)) = some (r1, r2, r3) := H
                  have A72 := Aside0.mk A720
                  clear A720
                  by_cases c73 : t115 = true
                  ·subst c73
                   have H1 : (if 0 ≤ x72_5 then (if x72_5 < (x107001_5.length : Int) then (if 0 ≤ x68_4 then (if x68_4 < (x107001_5.length : Int) then (impl_LatOf.l3 k5 a0 x68_4 a0 x68_4 a0 (wrap64 (x72_5 + 1)) a0 (x107001_5.set (x72_5 : Int).toNat (Go.bits .or .u64 (rd x107001_5 x72_5) (rd x107001_5 x68_4)))) else (none)) else (none)) else (none)) else (none)) = some (r1, r2, r3) := by rw [if_pos rfl] at H; exact H
                   clear H
                   have H := H1
                   clear H1
                   by_cases c74 : 0 ≤ x72_5
                   ·rw [if_pos c74] at H
                    have c74b0 : decide (0 ≤ x72_5) = true := decide_eq_true c74
                    clear c74
                    by_cases c75 : x72_5 < (x107001_5.length : Int)
                    ·rw [if_pos c75] at H
                     have c75b0 : decide (x72_5 < (x107001_5.length : Int)) = true := decide_eq_true c75
                     clear c75
                     by_cases c76 : 0 ≤ x68_4
                     ·rw [if_pos c76] at H
                      have c76b0 : decide (0 ≤ x68_4) = true := decide_eq_true c76
                      clear c76
                      by_cases c77 : x68_4 < (x107001_5.length : Int)
                      ·rw [if_pos c77] at H
                       have c77b0 : decide (x68_4 < (x107001_5.length : Int)) = true := decide_eq_true c77
                       clear c77
                       obtain ⟨y118, hy118⟩ : ∃ y_ : List Int, y_ = (x107001_5.set (x72_5 : Int).toNat (Go.bits .or .u64 (rd x107001_5 x72_5) (rd x107001_5 x68_4))) := ⟨_, rfl⟩
                       replace H : (impl_LatOf.l3 k5 a0 x68_4 a0 x68_4 a0 (wrap64 (x72_5 + 1)) a0 y118) = some (r1, r2, r3) := by first | (rw [hy118]; with_reducible exact H) | (have H2_ := (Option.bind_some _ _).symm.trans H; rw [hy118]; with_reducible exact H2_) | (have H2_ := (Option.bind_some _ _).symm.trans H; with_reducible exact H2_) | with_reducible exact H | (rw [hy118]; exact H) | exact H
                       have Ny118 := Aside0.mk hy118
                       clear hy118
                       have H' := Aside0.mk H
                       clear H
                       have hnb79 := NB106_101.out
                       have hnc79 := NB101_106.out
                       have hcz80_0 : wr.cell? ⟨gb106, 0, none⟩ = some (.int .i64 a0) := (blk_cell BK106.out 0).trans rfl
                       have hcz80_1 : wr.cell? ⟨gb106, 1, none⟩ = some (u107001) := (blk_cell BK106.out 1).trans rfl
                       have hfz80_0 := blk_frozen BK106.out 0
                       have hfz80_1 := blk_frozen BK106.out 1
                       obtain ⟨Ao81, co81, eo81⟩ := Kd.R_slice HO_107001.out
                       subst eo81
                       try go_wp2_with (first | ((with_reducible refine gate_callee (f := 119) rfl ?_); refine goesL_ (some 78) rfl rfl Try.func119 (by kernel_rfl) rfl #[.agg #[.int .i64 a0, .slice Ao81 x107001_5.length co81], .int .i64 x72_5, .int .i64 x68_4] rfl qz1 ?_; (with_reducible refine (impl_Lat_le.calls a0 _ _ x107001_5 x72_5 x68_4 true _ ?side1 ?side2 A72.out).mono ?_); (case side1 => exact qz56); (case side2 => exact qz54); rintro e w82 ⟨rfl, hb⟩; refine ⟨_, rfl, ?_⟩; have n0_ := Aside0.mk (Kd.R_below qz47 hb); have n1_ := Aside0.mk (blk_below (g := gb101) (o := .cells #[.int .i64 x102000_3, .slice none 0 0] 47 (0, 0)) (qz8 BK101.out) hb); have n2_ := Aside0.mk (blk_below (g := gb106) (o := .cells #[.int .i64 a0, .slice Ao81 x107001_5.length co81] 47 (0, 0)) (qz8 BK106.out) hb); have n3_ := Aside0.mk (below_step (qz43 GE101.out GE106.out) hb); clear HO_107001; clear BK101; clear BK106; clear HB; have HO_107001 := n0_; have BK101 := n1_; have BK106 := n2_; have HB := n3_; clear n0_ n1_ n2_ n3_; (try clear hb); (try clear hb2); (try clear hk); (try clear hi)))
                       have n0_ := Aside0.mk (Kd.R_drew HO_107001.out)
                       have n1_ := Aside0.mk (blk_drew BK101.out)
                       have n2_ := Aside0.mk (blk_drew BK106.out)
                       have n3_ := Aside0.mk (below_drew1 HB.out)
                       clear HO_107001
                       clear BK101
                       clear BK106
                       clear HB
                       have HO_107001 := n0_
                       have BK101 := n1_
                       have BK106 := n2_
                       have HB := n3_
                       clear n0_ n1_ n2_ n3_
                       have p116 : 0 ≤ (x72_5 : Int) := of_decide_eq_true qz4
                       have q116 : x72_5 < (x107001_5.length : Int) := of_decide_eq_true qz4
                       obtain ⟨ad116, e116, hx116_0⟩ := Kd.at_int (Kd.R_reads' HO_107001.out).2.2 x72_5 p116 q116
                       cases e116
                       replace p116 := eq_true p116
                       replace q116 := eq_true q116
                       have p117 : 0 ≤ (x68_4 : Int) := of_decide_eq_true qz4
                       have q117 : x68_4 < (x107001_5.length : Int) := of_decide_eq_true qz4
                       obtain ⟨ad117, e117, hx117_0⟩ := Kd.at_int (Kd.R_reads' HO_107001.out).2.2 x68_4 p117 q117
                       obtain rfl : ad116 = ad117 := (by injection e117)
                       replace p117 := eq_true p117
                       replace q117 := eq_true q117
                       have p78 : 0 ≤ (x72_5 : Int) := of_decide_eq_true qz4
                       have q78 : (x72_5 : Int) < ((x107001_5.length : Int) : Int) := of_decide_eq_true qz4
                       obtain ⟨go78, co78, eo78, gb78, gl78, cl78, HG78⟩ := Kd.R_form HO_107001.out (by omega)
                       (first | cases eo78 | (injection eo78 with ea_ en_ ec_; (first | subst ea_ | (injection ea_ with ea_; subst ea_)); subst ec_; clear en_))
                       have GB78 := Aside0.mk gb78
                       have GG78 := Aside0.mk HG78
                       clear gb78 gl78 HG78
                       (first | simp only [add_plain] at hx116_0 | skip)
                       (first | simp only [add_plain] at hx117_0 | skip)
                       obtain ⟨hx78_0, hf78_0⟩ := Kd.R_celln 0 HO_107001.out (x72_5 : Int) p78 q78
                       replace p78 := eq_true p78
                       replace q78 := eq_true q78
                       have HP84 := Kd.R_putn HO_107001.out (x72_5 : Int) (Go.bits .or .u64 (rd x107001_5 x72_5) (rd x107001_5 x68_4))
                       rw [← Ny118.out] at HP84
                       have HQ84 := Aside0.mk HP84
                       clear HP84
                       refine start_ (n := 13) (S := fun w' => w'.cell? ⟨gb106, 0, none⟩ = some (.int .i64 a0) ∧ w'.cell? ⟨gb106, 1, none⟩ = some (.slice (some ⟨go78, 0, none⟩) x107001_5.length co81) ∧ w'.cell? ⟨go78, (x72_5).toNat, none⟩ = some (.int .u64 (rd x107001_5 x72_5)) ∧ w'.cell? ⟨go78, (x68_4).toNat, none⟩ = some (.int .u64 (rd x107001_5 x68_4))) (ds := [12]) #[false, false, false, false, false, false, false, false, false, false, false, false, false] (by kernel_rfl) rfl rfl ⟨(blk_cell BK106.out 0).trans rfl, (blk_cell BK106.out 1).trans rfl, hx116_0, hx117_0⟩ (fun hHeld => ?_); refine with_tabW impl_LatOf.tab23 impl_LatOf.bits23 (fun HT_ HW_ => ?_)
                       generalize w82.drew = w83 at HO_107001 BK101 BK106 HB GG78 HQ84 hf78_0 hx116_0 hx117_0 hx78_0 hHeld ⊢
                       refine pure_ (i := 0) (N := some 79) (v := ?_) (a' := ?_) #[true, false, false, false, false, false, false, false, false, false, false, false, false] rfl rfl (any_of HT_.out (by kernel_rfl)) (fun _ _ _ h => h) (Or.inl ⟨by rfl, ?_⟩) ?_ ?_
                       rotate_left
                       ·intro w'
                        go_simp
                        with_reducible rfl
                       rotate_left
                       ·simp only [Act.put, List.setIfInBounds_toArray, List.set_cons_zero, List.set_cons_succ, i64_w, i32_w]
                        rfl
                       refine pure_ (i := 2) (N := some 81) (v := ?_) (a' := ?_) #[true, false, true, false, false, false, false, false, false, false, false, false, false] rfl rfl (any_of HT_.out (by kernel_rfl)) (fun _ _ _ h => h) (Or.inl ⟨by rfl, ?_⟩) ?_ ?_
                       rotate_left
                       ·intro w'
                        go_simp
                        with_reducible rfl
                       rotate_left
                       ·simp only [Act.put, List.setIfInBounds_toArray, List.set_cons_zero, List.set_cons_succ, i64_w, i32_w]
                        rfl
                       refine pure_ (i := 5) (N := some 84) (v := ?_) (a' := ?_) #[true, false, true, false, false, true, false, false, false, false, false, false, false] rfl rfl (any_of HT_.out (by kernel_rfl)) (fun _ _ _ h => h) (Or.inl ⟨by rfl, ?_⟩) ?_ ?_
                       rotate_left
                       ·intro w'
                        go_simp
                        with_reducible rfl
                       rotate_left
                       ·simp only [Act.put, List.setIfInBounds_toArray, List.set_cons_zero, List.set_cons_succ, i64_w, i32_w]
                        rfl
                       refine pure_ (i := 7) (N := some 86) (v := ?_) (a' := ?_) #[true, false, true, false, false, true, false, true, false, false, false, false, false] rfl rfl (any_of HT_.out (by kernel_rfl)) (fun _ _ _ h => h) (Or.inl ⟨by rfl, ?_⟩) ?_ ?_
                       rotate_left
                       ·intro w'
                        go_simp
                        with_reducible rfl
                       rotate_left
                       ·simp only [Act.put, List.setIfInBounds_toArray, List.set_cons_zero, List.set_cons_succ, i64_w, i32_w]
                        rfl
                       refine take_ (i := 1) (N := some 80) (v := ?_) (a' := ?_) #[true, true, true, false, false, true, false, true, false, false, false, false, false] rfl rfl (take_ofW HT_.out HW_.out (by kernel_rfl)) (fun _ _ _ h => h) (Or.inl ⟨by rfl, ?_⟩) hHeld ?_ ?_
                       rotate_left
                       ·rintro w' ⟨s0, s1, s2, s3⟩
                        go_simp
                        with_reducible rfl
                       rotate_left
                       ·simp only [Act.put, List.setIfInBounds_toArray, List.set_cons_zero, List.set_cons_succ, i64_w, i32_w]
                        rfl
                       refine pure_ (i := 3) (N := some 82) (v := ?_) (a' := ?_) #[true, true, true, true, false, true, false, true, false, false, false, false, false] rfl rfl (any_of HT_.out (by kernel_rfl)) (fun _ _ _ h => h) (Or.inl ⟨by rfl, ?_⟩) ?_ ?_
                       rotate_left
                       ·intro w'
                        go_simp
                        with_reducible rfl
                       rotate_left
                       ·simp only [Act.put, List.setIfInBounds_toArray, List.set_cons_zero, List.set_cons_succ, i64_w, i32_w]
                        rfl
                       refine take_ (i := 4) (N := some 83) (v := ?_) (a' := ?_) #[true, true, true, true, true, true, false, true, false, false, false, false, false] rfl rfl (take_ofW HT_.out HW_.out (by kernel_rfl)) (fun _ _ _ h => h) (Or.inl ⟨by rfl, ?_⟩) hHeld ?_ ?_
                       rotate_left
                       ·rintro w' ⟨s0, s1, s2, s3⟩
                        go_simp
                        with_reducible rfl
                       rotate_left
                       ·simp only [Act.put, List.setIfInBounds_toArray, List.set_cons_zero, List.set_cons_succ, i64_w, i32_w]
                        rfl
                       refine take_ (i := 6) (N := some 85) (v := ?_) (a' := ?_) #[true, true, true, true, true, true, true, true, false, false, false, false, false] rfl rfl (take_ofW HT_.out HW_.out (by kernel_rfl)) (fun _ _ _ h => h) (Or.inl ⟨by rfl, ?_⟩) hHeld ?_ ?_
                       rotate_left
                       ·rintro w' ⟨s0, s1, s2, s3⟩
                        go_simp
                        with_reducible rfl
                       rotate_left
                       ·simp only [Act.put, List.setIfInBounds_toArray, List.set_cons_zero, List.set_cons_succ, i64_w, i32_w]
                        rfl
                       refine pure_ (i := 8) (N := some 87) (v := ?_) (a' := ?_) #[true, true, true, true, true, true, true, true, true, false, false, false, false] rfl rfl (any_of HT_.out (by kernel_rfl)) (fun _ _ _ h => h) (Or.inl ⟨by rfl, ?_⟩) ?_ ?_
                       rotate_left
                       ·intro w'
                        go_simp
                        with_reducible rfl
                       rotate_left
                       ·simp only [Act.put, List.setIfInBounds_toArray, List.set_cons_zero, List.set_cons_succ, i64_w, i32_w]
                        rfl
                       refine take_ (i := 9) (N := some 88) (v := ?_) (a' := ?_) #[true, true, true, true, true, true, true, true, true, true, false, false, false] rfl rfl (take_ofW HT_.out HW_.out (by kernel_rfl)) (fun _ _ _ h => h) (Or.inl ⟨by rfl, ?_⟩) hHeld ?_ ?_
                       rotate_left
                       ·rintro w' ⟨s0, s1, s2, s3⟩
                        go_simp
                        with_reducible rfl
                       rotate_left
                       ·simp only [Act.put, List.setIfInBounds_toArray, List.set_cons_zero, List.set_cons_succ, i64_w, i32_w]
                        rfl
                       refine pure_ (i := 10) (N := some 89) (v := ?_) (a' := ?_) #[true, true, true, true, true, true, true, true, true, true, true, false, false] rfl rfl (any_of HT_.out (by kernel_rfl)) (fun _ _ _ h => h) (Or.inl ⟨by rfl, ?_⟩) ?_ ?_
                       rotate_left
                       ·intro w'
                        go_simp
                        with_reducible rfl
                       rotate_left
                       ·simp only [Act.put, List.setIfInBounds_toArray, List.set_cons_zero, List.set_cons_succ, i64_w, i32_w]
                        rfl
                       refine pure_ (i := 11) (N := some 90) (v := ?_) (a' := ?_) #[true, true, true, true, true, true, true, true, true, true, true, true, false] rfl rfl (any_of HT_.out (by kernel_rfl)) (fun _ _ _ h => h) (Or.inl ⟨by rfl, ?_⟩) ?_ ?_
                       rotate_left
                       ·intro w'
                        go_simp
                        with_reducible rfl
                       rotate_left
                       ·simp only [Act.put, List.setIfInBounds_toArray, List.set_cons_zero, List.set_cons_succ, i64_w, i32_w]
                        rfl
                       refine last_ (i := 12) (N := none) #[true, true, true, true, true, true, true, true, true, true, true, true, true] rfl rfl (one_of HT_.out (by kernel_rfl)) (by decide) (fun K hK => ?_)
                       refine skip_ (w1 := ?_) (by rfl) rfl ?_ ?_
                       rotate_left
                       ·go_simp
                        rfl
                       refine hK.out _ _ ?_
                       clear hK K
                       refine done_ (done_of HT_.out (by kernel_rfl)) ?_
                       try go_wp2
                       go_roundg k5
                       case measure => have := HJ2.out; have := HK2.out; have := HK3.out; have := HK4.out; have := HK5.out; omega
                       case rel => exact ⟨(wrap64 (x72_5 + 1)), (y118), (.slice (some ⟨go78, 0, none⟩) x107001_5.length co81), qz2, H', ⟨qz59⟩, ⟨qz21 HQ84.out⟩, ⟨qz45 BK101.out⟩, ⟨qz45 BK106.out⟩, ⟨qz46 GB78.out GE101.out GE106.out⟩⟩
                      ·rw [if_neg c77] at H
                       exact absurd H (by simp)
                     ·rw [if_neg c76] at H
                      exact absurd H (by simp)
                    ·rw [if_neg c75] at H
                     exact absurd H (by simp)
                   ·rw [if_neg c74] at H
                    exact absurd H (by simp)
                  ·replace c73 := Bool.eq_false_iff.mpr c73
                   subst c73
                   have H1 : (impl_LatOf.l3 k5 a0 x68_4 a0 x68_4 a0 (wrap64 (x72_5 + 1)) a0 x107001_5) = some (r1, r2, r3) := by rw [if_neg (show ¬ (false = true) by decide)] at H; exact H
                   clear H
                   have H := H1
                   clear H1
                   have H' := Aside0.mk H
                   clear H
                   have hnb85 := NB106_101.out
                   have hnc85 := NB101_106.out
                   have hcz86_0 : wr.cell? ⟨gb106, 0, none⟩ = some (.int .i64 a0) := (blk_cell BK106.out 0).trans rfl
                   have hcz86_1 : wr.cell? ⟨gb106, 1, none⟩ = some (u107001) := (blk_cell BK106.out 1).trans rfl
                   have hfz86_0 := blk_frozen BK106.out 0
                   have hfz86_1 := blk_frozen BK106.out 1
                   obtain ⟨Ao87, co87, eo87⟩ := Kd.R_slice HO_107001.out
                   subst eo87
                   go_wp2_with (first | ((with_reducible refine gate_callee (f := 119) rfl ?_); refine goesL_ (some 78) rfl rfl Try.func119 (by kernel_rfl) rfl #[.agg #[.int .i64 a0, .slice Ao87 x107001_5.length co87], .int .i64 x72_5, .int .i64 x68_4] rfl qz1 ?_; (with_reducible refine (impl_Lat_le.calls a0 _ _ x107001_5 x72_5 x68_4 false _ ?side1 ?side2 A72.out).mono ?_); (case side1 => exact qz56); (case side2 => exact qz54); rintro e w88 ⟨rfl, hb⟩; refine ⟨_, rfl, ?_⟩; have n0_ := Aside0.mk (Kd.R_below qz47 hb); have n1_ := Aside0.mk (blk_below (g := gb101) (o := .cells #[.int .i64 x102000_3, .slice none 0 0] 47 (0, 0)) (qz8 BK101.out) hb); have n2_ := Aside0.mk (blk_below (g := gb106) (o := .cells #[.int .i64 a0, .slice Ao87 x107001_5.length co87] 47 (0, 0)) (qz8 BK106.out) hb); have n3_ := Aside0.mk (below_step (qz43 GE101.out GE106.out) hb); clear HO_107001; clear BK101; clear BK106; clear HB; have HO_107001 := n0_; have BK101 := n1_; have BK106 := n2_; have HB := n3_; clear n0_ n1_ n2_ n3_; (try clear hb); (try clear hb2); (try clear hk); (try clear hi)))
                   go_roundg k5
                   case measure => have := HJ2.out; have := HK2.out; have := HK3.out; have := HK4.out; have := HK5.out; omega
                   case rel => exact ⟨(wrap64 (x72_5 + 1)), (x107001_5), (.slice Ao87 x107001_5.length co87), qz2, H', ⟨qz59⟩, ⟨qz47⟩, ⟨qz8 BK101.out⟩, ⟨qz8 BK106.out⟩, ⟨qz43 GE101.out GE106.out⟩⟩
                 ·rw [if_neg c71] at H
                  have c71b0 : decide (x72_5 < a0) = false := decide_eq_false c71
                  clear c71
                  have H' := Aside0.mk H
                  clear H
                  go_wp2
                  go_roundg k5
                  case measure => have := HJ2.out; have := HK2.out; have := HK3.out; have := HK4.out; have := HK5.out; omega
                  case rel => exact ⟨(wrap64 (x68_4 + 1)), (x107001_5), (u107001), qz2, H', ⟨qz59⟩, ⟨qz47⟩, ⟨qz8 BK101.out⟩, ⟨qz8 BK106.out⟩, ⟨qz43 GE101.out GE106.out⟩⟩
              ·rw [if_neg c70] at H
               have c70b0 : decide (x68_4 < a0) = false := decide_eq_false c70
               clear c70
               replace H := Option.bind_eq_some_iff.mp H
               obtain ⟨t114, A890, H⟩ := H
               replace H : (if t114 = true then (some (a0, x107001_4, true)) else (some (0, ([] : List Int), false))) = some (r1, r2, r3) := H
               have A89 := Aside0.mk A890
               clear A890
               by_cases c90 : t114 = true
               ·subst c90
                have H1 : (some (a0, x107001_4, true)) = some (r1, r2, r3) := by rw [if_pos rfl] at H; exact H
                clear H
                have H := H1
                clear H1
                simp only [Option.some.injEq, Prod.mk.injEq] at H
                obtain ⟨rfl, rfl, rfl⟩ := H
                have hnb91 := NB106_101.out
                have hnc91 := NB101_106.out
                have hcz92_0 : wr.cell? ⟨gb106, 0, none⟩ = some (.int .i64 a0) := (blk_cell BK106.out 0).trans rfl
                have hcz92_1 : wr.cell? ⟨gb106, 1, none⟩ = some (u107001) := (blk_cell BK106.out 1).trans rfl
                have hfz92_0 := blk_frozen BK106.out 0
                have hfz92_1 := blk_frozen BK106.out 1
                obtain ⟨Ao93, co93, eo93⟩ := Kd.R_slice HO_107001.out
                subst eo93
                go_wp2_with (first | ((with_reducible refine gate_callee (f := 118) rfl ?_); refine goesL_ (some 94) rfl rfl Try.func118 (by kernel_rfl) rfl #[.agg #[.int .i64 a0, .slice Ao93 x107001_4.length co93]] rfl qz1 ?_; (with_reducible refine (impl_isLat.calls k4 a0 _ _ x107001_4 true _ ?side1 ?side2 A89.out).mono ?_); (case side1 => exact qz56); (case side2 => exact qz54); rintro e w94 ⟨rfl, hb⟩; refine ⟨_, rfl, ?_⟩; have n0_ := Aside0.mk (Kd.R_below qz47 hb); have n1_ := Aside0.mk (blk_below (g := gb101) (o := .cells #[.int .i64 x102000_3, .slice none 0 0] 47 (0, 0)) (qz8 BK101.out) hb); have n2_ := Aside0.mk (blk_below (g := gb106) (o := .cells #[.int .i64 a0, .slice Ao93 x107001_4.length co93] 47 (0, 0)) (qz8 BK106.out) hb); have n3_ := Aside0.mk (below_step (qz43 GE101.out GE106.out) hb); clear HO_107001; clear BK101; clear BK106; clear HB; have HO_107001 := n0_; have BK101 := n1_; have BK106 := n2_; have HB := n3_; clear n0_ n1_ n2_ n3_; (try clear hb); (try clear hb2); (try clear hk); (try clear hi); have hcz95_0 : w94.cell? ⟨gb106, 0, none⟩ = some (.int .i64 a0) := (blk_cell BK106.out 0).trans rfl; have hcz95_1 : w94.cell? ⟨gb106, 1, none⟩ = some (.slice Ao93 x107001_4.length co93) := (blk_cell BK106.out 1).trans rfl; have hfz95_0 := blk_frozen BK106.out 0; have hfz95_1 := blk_frozen BK106.out 1; have hcz96_0 : w94.cell? ⟨gb101, 0, none⟩ = some (.int .i64 x102000_3) := (blk_cell BK101.out 0).trans rfl; have hcz96_1 : w94.cell? ⟨gb101, 1, none⟩ = some (.slice none 0 0) := (blk_cell BK101.out 1).trans rfl; have hfz96_0 := blk_frozen BK101.out 0; have hfz96_1 := blk_frozen BK101.out 1))
                refine bodyPost_ret (results_ct rfl _ _ gb101 47 #[.int .i64 a0, .slice Ao93 x107001_4.length co93] (0, 0) _ rfl (qz60 BK101.out) Try.underlying47 rfl (by kernel_rfl)) rfl ?_
                exact ⟨_, qz13, by (with_reducible repeat (first | apply Kd.R_alloc | apply Kd.R_drewN | apply Kd.R_drew)); exact Kd.R_mono (Kd.R_far (p := ⟨gb101, 1, none⟩) (Kd.R_far (p := ⟨gb101, 0, none⟩) (Kd.R_types HO_107001.out BK101.out (by decide)) (fun _ hk => hk.2) (.int .i64 a0)) (fun _ hk => hk.2) (.slice Ao93 x107001_4.length co93)) (fun _ hk => trivial), qz43 GE101.out GE106.out⟩
               ·replace c90 := Bool.eq_false_iff.mpr c90
                subst c90
                have H1 : (some (0, ([] : List Int), false)) = some (r1, r2, r3) := by rw [if_neg (show ¬ (false = true) by decide)] at H; exact H
                clear H
                have H := H1
                clear H1
                simp only [Option.some.injEq, Prod.mk.injEq] at H
                obtain ⟨rfl, rfl, rfl⟩ := H
                have hnb97 := NB106_101.out
                have hnc97 := NB101_106.out
                have hcz98_0 : wr.cell? ⟨gb106, 0, none⟩ = some (.int .i64 a0) := (blk_cell BK106.out 0).trans rfl
                have hcz98_1 : wr.cell? ⟨gb106, 1, none⟩ = some (u107001) := (blk_cell BK106.out 1).trans rfl
                have hfz98_0 := blk_frozen BK106.out 0
                have hfz98_1 := blk_frozen BK106.out 1
                obtain ⟨Ao99, co99, eo99⟩ := Kd.R_slice HO_107001.out
                subst eo99
                go_wp2_with (first | ((with_reducible refine gate_callee (f := 118) rfl ?_); refine goesL_ (some 94) rfl rfl Try.func118 (by kernel_rfl) rfl #[.agg #[.int .i64 a0, .slice Ao99 x107001_4.length co99]] rfl qz1 ?_; (with_reducible refine (impl_isLat.calls k4 a0 _ _ x107001_4 false _ ?side1 ?side2 A89.out).mono ?_); (case side1 => exact qz56); (case side2 => exact qz54); rintro e w100 ⟨rfl, hb⟩; refine ⟨_, rfl, ?_⟩; have n0_ := Aside0.mk (Kd.R_below qz47 hb); have n1_ := Aside0.mk (blk_below (g := gb101) (o := .cells #[.int .i64 x102000_3, .slice none 0 0] 47 (0, 0)) (qz8 BK101.out) hb); have n2_ := Aside0.mk (blk_below (g := gb106) (o := .cells #[.int .i64 a0, .slice Ao99 x107001_4.length co99] 47 (0, 0)) (qz8 BK106.out) hb); have n3_ := Aside0.mk (below_step (qz43 GE101.out GE106.out) hb); clear HO_107001; clear BK101; clear BK106; clear HB; have HO_107001 := n0_; have BK101 := n1_; have BK106 := n2_; have HB := n3_; clear n0_ n1_ n2_ n3_; (try clear hb); (try clear hb2); (try clear hk); (try clear hi); have hcz101_0 : w100.cell? ⟨gb101, 0, none⟩ = some (.int .i64 x102000_3) := (blk_cell BK101.out 0).trans rfl; have hcz101_1 : w100.cell? ⟨gb101, 1, none⟩ = some (.slice none 0 0) := (blk_cell BK101.out 1).trans rfl; have hfz101_0 := blk_frozen BK101.out 0; have hfz101_1 := blk_frozen BK101.out 1))
                refine bodyPost_ret (results_ct rfl _ _ gb101 47 #[.int .i64 0, .slice none 0 0] (0, 0) _ rfl (qz58 BK101.out) Try.underlying47 rfl (by kernel_rfl)) rfl ?_
                exact ⟨_, qz13, qz15, qz43 GE101.out GE106.out⟩
     ·rw [if_neg c10] at H
      exact absurd H (by simp)
    ·rw [if_neg c9] at H
     exact absurd H (by simp)

end Go.Proofs.Ytjhfjnknajhanaa.P

namespace Go.Proofs.Ytjhfjnknajhanaa.P
open Go.RowKit Go.Proofs.YtjhfjnknajhanaaW.PrintWords Go.Proofs.YtjhfjnknajhanaaW.PrintLast Go.Proofs.YtjhfjnknajhanaaW.PrintMore
attribute [local go_sem] max2_int min2_int max_two min_two max_three min_three max_four min_four   -- for this text's walks alone
set_option linter.unusedVariables false
set_option linter.unusedSimpArgs false

/-! ### impl_LatOk: function 33 -/
set_option maxHeartbeats 8000000 in
set_option maxRecDepth 100000 in
theorem impl_LatOk.calls (k : Nat) (a0_0 : Int) (A0_1 : Option Addr) (c0_1 : Nat) (l0_1 : List Int) (r : Bool) (w : World) (hr0_1 : Kd.C (Kd.int .u64) w A0_1 l0_1.length l0_1) (hc0_1 : l0_1.length ≤ c0_1) (h : impl_LatOk.f k a0_0 l0_1 = some r) :
  Calls Try.prog 33 #[.agg #[.int .i64 a0_0, .slice A0_1 l0_1.length c0_1]] w fun e w' => e = .returned (.bool r) ∧ Below w.heap.size w w' := by
 have hu47 := Try.underlying47
 have HR0_1 := Aside0.mk hr0_1
 have HC0_1 := Aside0.mk hc0_1
 clear hr0_1 hc0_1
 have HB := Aside0.mk (Below.refl w.heap.size w)
 have H : ((impl_isLat.f k a0_0 l0_1).bind fun t102 => (some t102)) = some r := h
 clear h
 replace H := Option.bind_eq_some_iff.mp H
 obtain ⟨t102, A20, H⟩ := H
 replace H : (some t102) = some r := H
 have A2 := Aside0.mk A20
 clear A20
 obtain rfl := Option.some.inj H
 go_enter Try.func33, Try.ntmps33
 go_wp2_with (first | ((with_reducible refine gate_dst (N := 1) rfl ?_); refine box_event ?hg (N := 1) ?hd (cs := #[.int .i64 a0_0, .slice A0_1 l0_1.length c0_1]) (t := 47) ?hr ?_; (case hd => rfl); (case hg => rfl); (case hr => exact qz5); intro gb101 hg w3 hbox hb; have n0_ := Aside0.mk (below_step qz6 hb); have n1_ := Aside0.mk (hbox); have n2_ := Aside0.mk ((qz7 : w.heap.size ≤ gb101)); have n3_ := Aside0.mk ((qz7 : w.heap.size ≤ gb101)); clear HB; have HB := n0_; have BK101 := n1_; have GW101 := n2_; have GE101 := n3_; clear n0_ n1_ n2_ n3_; clear hb hbox hg; have hcz4_0 : w3.cell? ⟨gb101, 0, none⟩ = some (.int .i64 a0_0) := (blk_cell BK101.out 0).trans rfl; have hcz4_1 : w3.cell? ⟨gb101, 1, none⟩ = some (.slice A0_1 l0_1.length c0_1) := (blk_cell BK101.out 1).trans rfl; have hfz4_0 := blk_frozen BK101.out 0; have hfz4_1 := blk_frozen BK101.out 1) | ((with_reducible refine gate_callee (f := 118) rfl ?_); refine goesL_ (some 4) rfl rfl Try.func118 (by kernel_rfl) rfl #[.agg #[.int .i64 a0_0, .slice A0_1 l0_1.length c0_1]] rfl qz1 ?_; (with_reducible refine (impl_isLat.calls k a0_0 _ _ l0_1 t102 _ ?side1 ?side2 A2.out).mono ?_); (case side1 => exact qz17 HR0_1.out); (case side2 => exact HC0_1.out); rintro e w5 ⟨rfl, hb⟩; refine ⟨_, rfl, ?_⟩; have n0_ := Aside0.mk (blk_below (g := gb101) (o := .cells #[.int .i64 a0_0, .slice A0_1 l0_1.length c0_1] 47 (0, 0)) (qz8 BK101.out) hb); have n1_ := Aside0.mk (below_step (qz10 GE101.out) hb); clear BK101; clear HB; have BK101 := n0_; have HB := n1_; clear n0_ n1_; (try clear hb); (try clear hb2); (try clear hk); (try clear hi)))
 go_ret
 exact ⟨qz13, qz10 GE101.out⟩

end Go.Proofs.Ytjhfjnknajhanaa.P

namespace Go.Proofs.Ytjhfjnknajhanaa.P
open Go.RowKit Go.Proofs.YtjhfjnknajhanaaW.PrintWords Go.Proofs.YtjhfjnknajhanaaW.PrintLast Go.Proofs.YtjhfjnknajhanaaW.PrintMore
attribute [local go_sem] max2_int min2_int max_two min_two max_three min_three max_four min_four   -- for this text's walks alone
set_option linter.unusedVariables false
set_option linter.unusedSimpArgs false

/-! ### laws_big: function 19 -/
set_option maxHeartbeats 8000000 in
set_option maxRecDepth 100000 in
theorem laws_big.calls (A0 : Option Addr) (c0 : Nat) (l0 : List Int) (r : Bool) (w : World) (hr0 : Kd.C (Kd.int .u8) w A0 l0.length l0) (hc0 : l0.length ≤ c0) (h : laws_big.f l0 = some r) :
  Calls Try.prog 19 #[.slice A0 l0.length c0] w fun e w' => e = .returned (.bool r) ∧ Drawn0 w w' := by
 have HR0 := Aside0.mk hr0
 have HC0 := Aside0.mk hc0
 clear hr0 hc0
 have H : (some (decide ((l0.length : Int) > 1048576))) = some r := h
 clear h
 obtain rfl := Option.some.inj H
 go_enter Try.func19, Try.ntmps19
 go_wp2
 go_ret
 exact ⟨qz2, qz3⟩

end Go.Proofs.Ytjhfjnknajhanaa.P

namespace Go.Proofs.Ytjhfjnknajhanaa.P
open Go.RowKit Go.Proofs.YtjhfjnknajhanaaW.PrintWords Go.Proofs.YtjhfjnknajhanaaW.PrintLast Go.Proofs.YtjhfjnknajhanaaW.PrintMore
attribute [local go_sem] max2_int min2_int max_two min_two max_three min_three max_four min_four   -- for this text's walks alone
set_option linter.unusedVariables false
set_option linter.unusedSimpArgs false

/-! ### laws_sameLat: function 32 -/
set_option maxHeartbeats 8000000 in
set_option maxRecDepth 100000 in
theorem laws_sameLat.calls (k : Nat) (a0_0 : Int) (A0_1 : Option Addr) (c0_1 : Nat) (l0_1 : List Int) (a1_0 : Int) (A1_1 : Option Addr) (c1_1 : Nat) (l1_1 : List Int) (r : Bool) (w : World) (hr0_1 : Kd.C (Kd.int .u64) w A0_1 l0_1.length l0_1) (hc0_1 : l0_1.length ≤ c0_1) (hr1_1 : Kd.C (Kd.int .u64) w A1_1 l1_1.length l1_1) (hc1_1 : l1_1.length ≤ c1_1) (h : laws_sameLat.f k a0_0 l0_1 a1_0 l1_1 = some r) :
  Calls Try.prog 32 #[.agg #[.int .i64 a0_0, .slice A0_1 l0_1.length c0_1], .agg #[.int .i64 a1_0, .slice A1_1 l1_1.length c1_1]] w fun e w' => e = .returned (.bool r) ∧ Below w.heap.size w w' := by
 have hu47 := Try.underlying47
 have HR0_1 := Aside0.mk hr0_1
 have HC0_1 := Aside0.mk hc0_1
 clear hr0_1 hc0_1
 have HR1_1 := Aside0.mk hr1_1
 have HC1_1 := Aside0.mk hc1_1
 clear hr1_1 hc1_1
 have HB := Aside0.mk (Below.refl w.heap.size w)
 have H : (if a0_0 = a1_0 then (laws_sameLat.j0 k ((l0_1.length : Int) != (l1_1.length : Int)) a0_0 l0_1 a1_0 l1_1) else (laws_sameLat.j0 k true a0_0 l0_1 a1_0 l1_1)) = some r := h
 clear h
 have HC3 := Aside0.mk H
 clear H
 go_enter Try.func32, Try.ntmps32
 go_upto_region 1 with (first | ((with_reducible refine gate_dst (N := 2) rfl ?_); (try (refine gate_guard (by rfl) ?_; dsimp only)); refine box_event ?hg (N := 2) ?hd (cs := #[.int .i64 a0_0, .slice A0_1 l0_1.length c0_1]) (t := 47) ?hr ?_; (case hd => rfl); (case hg => rfl); (case hr => exact qz5); intro gb101 hg w4 hbox hb; have n0_ := Aside0.mk (below_step qz6 hb); have n1_ := Aside0.mk (hbox); have n2_ := Aside0.mk ((qz7 : w.heap.size ≤ gb101)); have n3_ := Aside0.mk ((qz7 : w.heap.size ≤ gb101)); clear HB; have HB := n0_; have BK101 := n1_; have GW101 := n2_; have GE101 := n3_; clear n0_ n1_ n2_ n3_; clear hb hbox hg) | ((with_reducible refine gate_dst (N := 3) rfl ?_); (try (refine gate_guard (by rfl) ?_; dsimp only)); refine box_event ?hg (N := 3) ?hd (cs := #[.int .i64 a1_0, .slice A1_1 l1_1.length c1_1]) (t := 47) ?hr ?_; (case hd => rfl); (case hg => rfl); (case hr => exact qz5); intro gb102 hg w5 hbox hb; have n0_ := Aside0.mk (blk_below (g := gb101) (o := .cells #[.int .i64 a0_0, .slice A0_1 l0_1.length c0_1] 47 (0, 0)) (qz8 BK101.out) hb); have n1_ := Aside0.mk (below_step (qz10 GE101.out) hb); have n2_ := Aside0.mk (hbox); have n3_ := Aside0.mk ((qz38 GE101.out : w.heap.size ≤ gb102)); have n4_ := Aside0.mk ((qz38 GE101.out : w.heap.size ≤ gb102)); have n5_ := Aside0.mk ((qz119 BK101.out : gb101 ≠ gb102)); have n6_ := Aside0.mk ((qz120 BK101.out : gb102 ≠ gb101)); clear BK101; clear HB; have BK101 := n0_; have HB := n1_; have BK102 := n2_; have GW102 := n3_; have GE102 := n4_; have NB101_102 := n5_; have NB102_101 := n6_; clear n0_ n1_ n2_ n3_ n4_ n5_ n6_; clear hb hbox hg))
 repeat (go_quiet (first | ((with_reducible refine gate_dst (N := 2) rfl ?_); (try (refine gate_guard (by rfl) ?_; dsimp only)); refine box_event ?hg (N := 2) ?hd (cs := #[.int .i64 a0_0, .slice A0_1 l0_1.length c0_1]) (t := 47) ?hr ?_; (case hd => rfl); (case hg => rfl); (case hr => exact qz5); intro gb101 hg w4 hbox hb; have n0_ := Aside0.mk (below_step qz6 hb); have n1_ := Aside0.mk (hbox); have n2_ := Aside0.mk ((qz7 : w.heap.size ≤ gb101)); have n3_ := Aside0.mk ((qz7 : w.heap.size ≤ gb101)); clear HB; have HB := n0_; have BK101 := n1_; have GW101 := n2_; have GE101 := n3_; clear n0_ n1_ n2_ n3_; clear hb hbox hg) | ((with_reducible refine gate_dst (N := 3) rfl ?_); (try (refine gate_guard (by rfl) ?_; dsimp only)); refine box_event ?hg (N := 3) ?hd (cs := #[.int .i64 a1_0, .slice A1_1 l1_1.length c1_1]) (t := 47) ?hr ?_; (case hd => rfl); (case hg => rfl); (case hr => exact qz5); intro gb102 hg w5 hbox hb; have n0_ := Aside0.mk (blk_below (g := gb101) (o := .cells #[.int .i64 a0_0, .slice A0_1 l0_1.length c0_1] 47 (0, 0)) (qz8 BK101.out) hb); have n1_ := Aside0.mk (below_step (qz10 GE101.out) hb); have n2_ := Aside0.mk (hbox); have n3_ := Aside0.mk ((qz38 GE101.out : w.heap.size ≤ gb102)); have n4_ := Aside0.mk ((qz38 GE101.out : w.heap.size ≤ gb102)); have n5_ := Aside0.mk ((qz119 BK101.out : gb101 ≠ gb102)); have n6_ := Aside0.mk ((qz120 BK101.out : gb102 ≠ gb101)); clear BK101; clear HB; have BK101 := n0_; have HB := n1_; have BK102 := n2_; have GW102 := n3_; have GE102 := n4_; have NB101_102 := n5_; have NB102_101 := n6_; clear n0_ n1_ n2_ n3_ n4_ n5_ n6_; clear hb hbox hg)); go_upto_region 1 with (first | ((with_reducible refine gate_dst (N := 2) rfl ?_); (try (refine gate_guard (by rfl) ?_; dsimp only)); refine box_event ?hg (N := 2) ?hd (cs := #[.int .i64 a0_0, .slice A0_1 l0_1.length c0_1]) (t := 47) ?hr ?_; (case hd => rfl); (case hg => rfl); (case hr => exact qz5); intro gb101 hg w4 hbox hb; have n0_ := Aside0.mk (below_step qz6 hb); have n1_ := Aside0.mk (hbox); have n2_ := Aside0.mk ((qz7 : w.heap.size ≤ gb101)); have n3_ := Aside0.mk ((qz7 : w.heap.size ≤ gb101)); clear HB; have HB := n0_; have BK101 := n1_; have GW101 := n2_; have GE101 := n3_; clear n0_ n1_ n2_ n3_; clear hb hbox hg) | ((with_reducible refine gate_dst (N := 3) rfl ?_); (try (refine gate_guard (by rfl) ?_; dsimp only)); refine box_event ?hg (N := 3) ?hd (cs := #[.int .i64 a1_0, .slice A1_1 l1_1.length c1_1]) (t := 47) ?hr ?_; (case hd => rfl); (case hg => rfl); (case hr => exact qz5); intro gb102 hg w5 hbox hb; have n0_ := Aside0.mk (blk_below (g := gb101) (o := .cells #[.int .i64 a0_0, .slice A0_1 l0_1.length c0_1] 47 (0, 0)) (qz8 BK101.out) hb); have n1_ := Aside0.mk (below_step (qz10 GE101.out) hb); have n2_ := Aside0.mk (hbox); have n3_ := Aside0.mk ((qz38 GE101.out : w.heap.size ≤ gb102)); have n4_ := Aside0.mk ((qz38 GE101.out : w.heap.size ≤ gb102)); have n5_ := Aside0.mk ((qz119 BK101.out : gb101 ≠ gb102)); have n6_ := Aside0.mk ((qz120 BK101.out : gb102 ≠ gb101)); clear BK101; clear HB; have BK101 := n0_; have HB := n1_; have BK102 := n2_; have GW102 := n3_; have GE102 := n4_; have NB101_102 := n5_; have NB102_101 := n6_; clear n0_ n1_ n2_ n3_ n4_ n5_ n6_; clear hb hbox hg)))
 (try simp only [Act.put, List.setIfInBounds_toArray, List.set_cons_zero, List.set_cons_succ])
 go_cut [19] (fun v19 wc => ∃ (kq : Nat) (x19_2 : Bool), v19 = .bool x19_2 ∧ Aside0 (laws_sameLat.j0 kq x19_2 a0_0 l0_1 a1_0 l1_1 = some r) ∧ Aside0 (kq ≤ k) ∧ Aside0 (wc.heap[gb101]? = some (.cells #[.int .i64 a0_0, (.slice A0_1 l0_1.length c0_1)] 47 (0, 0))) ∧ Aside0 (wc.heap[gb102]? = some (.cells #[.int .i64 a1_0, (.slice A1_1 l1_1.length c1_1)] 47 (0, 0))) ∧ Aside0 (Below w.heap.size w wc))
 case first =>
  have H := HC3.out
  clear HC3
  by_cases c6 : a0_0 = a1_0
  ·rw [if_pos c6] at H
   have c6b0 : (a0_0 == a1_0) = true := beq_iff_eq.mpr c6
   have c6b1 : (a0_0 != a1_0) = false := bne_eq_false_iff_eq.mpr c6
   clear c6
   (first | rw [c6b0] | (simp only [i64_w, i32_w]; rw [c6b0]) | skip)
   have H' := Aside0.mk H
   clear H
   have hnb7 := NB101_102.out
   have hnc7 := NB102_101.out
   have hcz8_0 : w5.cell? ⟨gb101, 0, none⟩ = some (.int .i64 a0_0) := (blk_cell BK101.out 0).trans rfl
   have hcz8_1 : w5.cell? ⟨gb101, 1, none⟩ = some (.slice A0_1 l0_1.length c0_1) := (blk_cell BK101.out 1).trans rfl
   have hfz8_0 := blk_frozen BK101.out 0
   have hfz8_1 := blk_frozen BK101.out 1
   have hcz9_0 : w5.cell? ⟨gb102, 0, none⟩ = some (.int .i64 a1_0) := (blk_cell BK102.out 0).trans rfl
   have hcz9_1 : w5.cell? ⟨gb102, 1, none⟩ = some (.slice A1_1 l1_1.length c1_1) := (blk_cell BK102.out 1).trans rfl
   have hfz9_0 := blk_frozen BK102.out 0
   have hfz9_1 := blk_frozen BK102.out 1
   go_wp2
   repeat (go_quiet (fail); try go_wp2)
   go_meet
   case rel => exact ⟨_, (((l0_1.length : Int) != (l1_1.length : Int))), qz2, H', ⟨qz36⟩, ⟨qz8 BK101.out⟩, ⟨qz8 BK102.out⟩, ⟨qz43 GE101.out GE102.out⟩⟩
  ·rw [if_neg c6] at H
   have c6b0 : (a0_0 == a1_0) = false := beq_eq_false_iff_ne.mpr c6
   have c6b1 : (a0_0 != a1_0) = true := bne_iff_ne.mpr c6
   (first | rw [c6b0] | (simp only [i64_w, i32_w]; rw [c6b0]) | skip)
   have H' := Aside0.mk H
   clear H
   have hnb10 := NB101_102.out
   have hnc10 := NB102_101.out
   have hcz11_0 : w5.cell? ⟨gb101, 0, none⟩ = some (.int .i64 a0_0) := (blk_cell BK101.out 0).trans rfl
   have hcz11_1 : w5.cell? ⟨gb101, 1, none⟩ = some (.slice A0_1 l0_1.length c0_1) := (blk_cell BK101.out 1).trans rfl
   have hfz11_0 := blk_frozen BK101.out 0
   have hfz11_1 := blk_frozen BK101.out 1
   have hcz12_0 : w5.cell? ⟨gb102, 0, none⟩ = some (.int .i64 a1_0) := (blk_cell BK102.out 0).trans rfl
   have hcz12_1 : w5.cell? ⟨gb102, 1, none⟩ = some (.slice A1_1 l1_1.length c1_1) := (blk_cell BK102.out 1).trans rfl
   have hfz12_0 := blk_frozen BK102.out 0
   have hfz12_1 := blk_frozen BK102.out 1
   go_wp2
   repeat (go_quiet (fail); try go_wp2)
   go_meet
   case rel => exact ⟨_, (true), qz2, H', ⟨qz36⟩, ⟨qz8 BK101.out⟩, ⟨qz8 BK102.out⟩, ⟨qz43 GE101.out GE102.out⟩⟩
 case rest =>
  clear HC3
  try clear c1
  try clear p2
  try clear c3
  try clear c6
  try clear c6b0
  try clear c6b1
  try clear c7
  try clear c10
  try clear hcz11_0
  try clear hcz11_1
  try clear hcz12_0
  try clear hcz12_1
  try clear hcz8_0
  try clear hcz8_1
  try clear hcz9_0
  try clear hcz9_1
  try clear hfz11_0
  try clear hfz11_1
  try clear hfz12_0
  try clear hfz12_1
  try clear hfz8_0
  try clear hfz8_1
  try clear hfz9_0
  try clear hfz9_1
  obtain ⟨kq, x19_2, rfl, HA, HJ2, BK101, BK102, HB⟩ := hcut
  cases kq with
  | zero => exact absurd HA.out (by simp [laws_sameLat.j0])
  | succ kj2 =>
   have H := HA.out
   clear HA
   simp only [laws_sameLat.j0] at H
   by_cases c13 : x19_2 = true
   ·subst c13
    have H1 : (some false) = some r := by rw [if_pos rfl] at H; exact H
    clear H
    have H := H1
    clear H1
    obtain rfl := Option.some.inj H
    go_wp2
    repeat (go_quiet (fail); try go_wp2)
    go_ret
    exact ⟨qz13, qz43 GE101.out GE102.out⟩
   ·replace c13 := Bool.eq_false_iff.mpr c13
    subst c13
    have H1 : (laws_sameLat.l0 kj2 0 a0_0 l0_1 a1_0 l1_1) = some r := by rw [if_neg (show ¬ (false = true) by decide)] at H; exact H
    clear H
    have H := H1
    clear H1
    have H' := Aside0.mk H
    clear H
    go_wp2
    repeat (go_quiet (fail); try go_wp2)
    go_loopg [5] kj2 (fun kq v5 w' => ∃ (x5_2 : Int), v5 = .int .i64 x5_2 ∧ Aside0 (laws_sameLat.l0 kq x5_2 a0_0 l0_1 a1_0 l1_1 = some r) ∧ Aside0 (kq ≤ kj2) ∧ Aside0 (w'.heap[gb101]? = some (.cells #[.int .i64 a0_0, (.slice A0_1 l0_1.length c0_1)] 47 (0, 0))) ∧ Aside0 (w'.heap[gb102]? = some (.cells #[.int .i64 a1_0, (.slice A1_1 l1_1.length c1_1)] 47 (0, 0))) ∧ Aside0 (Below w.heap.size w w'))
    case atStart => exact ⟨(0), qz2, H', ⟨Nat.le_refl _⟩, ⟨qz8 BK101.out⟩, ⟨qz8 BK102.out⟩, ⟨qz43 GE101.out GE102.out⟩⟩
    case round =>
     clear H'
     try clear c1
     try clear p2
     try clear c3
     try clear c6
     try clear c6b0
     try clear c6b1
     try clear c7
     try clear c10
     try clear c13
     try clear hcz11_0
     try clear hcz11_1
     try clear hcz12_0
     try clear hcz12_1
     try clear hcz8_0
     try clear hcz8_1
     try clear hcz9_0
     try clear hcz9_1
     try clear hfz11_0
     try clear hfz11_1
     try clear hfz12_0
     try clear hfz12_1
     try clear hfz8_0
     try clear hfz8_1
     try clear hfz9_0
     try clear hfz9_1
     try clear p2
     obtain ⟨x5_2, rfl, HA, HK2, BK101, BK102, HB⟩ := hrel
     cases gk with
     | zero => exact absurd HA.out (by simp [laws_sameLat.l0])
     | succ k2 =>
      have H := HA.out
      clear HA
      simp only [laws_sameLat.l0] at H
      by_cases c14 : x5_2 < (l0_1.length : Int)
      ·rw [if_pos c14] at H
       have c14b0 : decide (x5_2 < (l0_1.length : Int)) = true := decide_eq_true c14
       clear c14
       by_cases c15 : 0 ≤ x5_2
       ·rw [if_pos c15] at H
        have c15b0 : decide (0 ≤ x5_2) = true := decide_eq_true c15
        clear c15
        by_cases c16 : x5_2 < (l1_1.length : Int)
        ·rw [if_pos c16] at H
         have c16b0 : decide (x5_2 < (l1_1.length : Int)) = true := decide_eq_true c16
         clear c16
         by_cases c17 : (rd l0_1 x5_2) = (rd l1_1 x5_2)
         ·rw [if_pos c17] at H
          have c17b0 : ((rd l0_1 x5_2) == (rd l1_1 x5_2)) = true := beq_iff_eq.mpr c17
          have c17b1 : ((rd l0_1 x5_2) != (rd l1_1 x5_2)) = false := bne_eq_false_iff_eq.mpr c17
          clear c17
          have H' := Aside0.mk H
          clear H
          have hnb18 := NB101_102.out
          have hnc18 := NB102_101.out
          have hcz19_0 : wr.cell? ⟨gb101, 0, none⟩ = some (.int .i64 a0_0) := (blk_cell BK101.out 0).trans rfl
          have hcz19_1 : wr.cell? ⟨gb101, 1, none⟩ = some (.slice A0_1 l0_1.length c0_1) := (blk_cell BK101.out 1).trans rfl
          have hfz19_0 := blk_frozen BK101.out 0
          have hfz19_1 := blk_frozen BK101.out 1
          have p103 : 0 ≤ (x5_2 : Int) := of_decide_eq_true qz4
          have q103 : x5_2 < (l0_1.length : Int) := of_decide_eq_true qz4
          obtain ⟨ad103, e103, hx103_0⟩ := Kd.at_int HR0_1.out x5_2 p103 q103
          cases e103
          replace hx103_0 := qcb HB hx103_0
          replace p103 := eq_true p103
          replace q103 := eq_true q103
          have hcz20_0 : wr.cell? ⟨gb102, 0, none⟩ = some (.int .i64 a1_0) := (blk_cell BK102.out 0).trans rfl
          have hcz20_1 : wr.cell? ⟨gb102, 1, none⟩ = some (.slice A1_1 l1_1.length c1_1) := (blk_cell BK102.out 1).trans rfl
          have hfz20_0 := blk_frozen BK102.out 0
          have hfz20_1 := blk_frozen BK102.out 1
          have p104 : 0 ≤ (x5_2 : Int) := of_decide_eq_true qz4
          have q104 : x5_2 < (l1_1.length : Int) := of_decide_eq_true qz4
          obtain ⟨ad104, e104, hx104_0⟩ := Kd.at_int HR1_1.out x5_2 p104 q104
          cases e104
          replace hx104_0 := qcb HB hx104_0
          replace p104 := eq_true p104
          replace q104 := eq_true q104
          go_wp2
          repeat (go_quiet (fail); try go_wp2)
          go_roundg k2
          case measure => have := HJ2.out; have := HK2.out; omega
          case rel => exact ⟨(wrap64 (x5_2 + 1)), qz2, H', ⟨qz34 HJ2.out HK2.out⟩, ⟨qz8 BK101.out⟩, ⟨qz8 BK102.out⟩, ⟨qz43 GE101.out GE102.out⟩⟩
         ·rw [if_neg c17] at H
          have c17b0 : ((rd l0_1 x5_2) == (rd l1_1 x5_2)) = false := beq_eq_false_iff_ne.mpr c17
          have c17b1 : ((rd l0_1 x5_2) != (rd l1_1 x5_2)) = true := bne_iff_ne.mpr c17
          obtain rfl := Option.some.inj H
          have hnb21 := NB101_102.out
          have hnc21 := NB102_101.out
          have hcz22_0 : wr.cell? ⟨gb101, 0, none⟩ = some (.int .i64 a0_0) := (blk_cell BK101.out 0).trans rfl
          have hcz22_1 : wr.cell? ⟨gb101, 1, none⟩ = some (.slice A0_1 l0_1.length c0_1) := (blk_cell BK101.out 1).trans rfl
          have hfz22_0 := blk_frozen BK101.out 0
          have hfz22_1 := blk_frozen BK101.out 1
          have p103 : 0 ≤ (x5_2 : Int) := of_decide_eq_true qz4
          have q103 : x5_2 < (l0_1.length : Int) := of_decide_eq_true qz4
          obtain ⟨ad103, e103, hx103_0⟩ := Kd.at_int HR0_1.out x5_2 p103 q103
          cases e103
          replace hx103_0 := qcb HB hx103_0
          replace p103 := eq_true p103
          replace q103 := eq_true q103
          have hcz23_0 : wr.cell? ⟨gb102, 0, none⟩ = some (.int .i64 a1_0) := (blk_cell BK102.out 0).trans rfl
          have hcz23_1 : wr.cell? ⟨gb102, 1, none⟩ = some (.slice A1_1 l1_1.length c1_1) := (blk_cell BK102.out 1).trans rfl
          have hfz23_0 := blk_frozen BK102.out 0
          have hfz23_1 := blk_frozen BK102.out 1
          have p104 : 0 ≤ (x5_2 : Int) := of_decide_eq_true qz4
          have q104 : x5_2 < (l1_1.length : Int) := of_decide_eq_true qz4
          obtain ⟨ad104, e104, hx104_0⟩ := Kd.at_int HR1_1.out x5_2 p104 q104
          cases e104
          replace hx104_0 := qcb HB hx104_0
          replace p104 := eq_true p104
          replace q104 := eq_true q104
          go_wp2
          repeat (go_quiet (fail); try go_wp2)
          go_ret
          exact ⟨qz13, qz43 GE101.out GE102.out⟩
        ·rw [if_neg c16] at H
         exact absurd H (by simp)
       ·rw [if_neg c15] at H
        exact absurd H (by simp)
      ·rw [if_neg c14] at H
       have c14b0 : decide (x5_2 < (l0_1.length : Int)) = false := decide_eq_false c14
       clear c14
       obtain rfl := Option.some.inj H
       have hnb24 := NB101_102.out
       have hnc24 := NB102_101.out
       have hcz25_0 : wr.cell? ⟨gb101, 0, none⟩ = some (.int .i64 a0_0) := (blk_cell BK101.out 0).trans rfl
       have hcz25_1 : wr.cell? ⟨gb101, 1, none⟩ = some (.slice A0_1 l0_1.length c0_1) := (blk_cell BK101.out 1).trans rfl
       have hfz25_0 := blk_frozen BK101.out 0
       have hfz25_1 := blk_frozen BK101.out 1
       go_wp2
       repeat (go_quiet (fail); try go_wp2)
       go_ret
       exact ⟨qz13, qz43 GE101.out GE102.out⟩

end Go.Proofs.Ytjhfjnknajhanaa.P

namespace Go.Proofs.Ytjhfjnknajhanaa.P
open Go.RowKit Go.Proofs.YtjhfjnknajhanaaW.PrintWords Go.Proofs.YtjhfjnknajhanaaW.PrintLast Go.Proofs.YtjhfjnknajhanaaW.PrintMore
attribute [local go_sem] max2_int min2_int max_two min_two max_three min_three max_four min_four   -- for this text's walks alone
set_option linter.unusedVariables false
set_option linter.unusedSimpArgs false

/-! ### spec_l01Bit: function 120 -/
set_option maxHeartbeats 8000000 in
set_option maxRecDepth 100000 in
theorem spec_l01Bit.calls (a0 : Int) (a1 : Int) (r : Bool) (w : World) (h : spec_l01Bit.f a0 a1 = some r) :
  Calls Try.prog 120 #[.int .u64 a0, .int .i64 a1] w fun e w' => e = .returned (.bool r) ∧ Drawn0 w w' := by
 have H : (if 0 ≤ (IntKind.u64.wrap (a1)) then (some ((Go.bits .and .u64 (shr .u64 a0 (IntKind.u64.wrap (a1))) 1) == 1)) else (none)) = some r := h
 clear h
 obtain ⟨ji3, hji3⟩ : ∃ j_ : Int, (IntKind.u64.wrap (a1)) = j_ := ⟨_, rfl⟩
 replace H : (if 0 ≤ (ji3) then (some ((Go.bits .and .u64 (shr .u64 a0 (ji3)) 1) == 1)) else (none)) = some r := by first | (rw [hji3] at H; exact H) | (simp only [hji3] at H ⊢; exact H)
 by_cases c4 : 0 ≤ (ji3)
 ·rw [if_pos c4] at H
  have c4b0 := eq_true c4
  have c4b1 : decide (0 ≤ (ji3)) = true := decide_eq_true c4
  clear c4
  obtain ⟨ji5, hji5⟩ : ∃ j_ : Int, (shr .u64 a0 (ji3)) = j_ := ⟨_, rfl⟩
  replace H : (some ((Go.bits .and .u64 (ji5) 1) == 1)) = some r := by first | (rw [hji5] at H; exact H) | (simp only [hji5] at H ⊢; exact H)
  have hji5_ : (a0 / 2 ^ min (ji3).toNat 64) = ji5 := hji5
  have hji5z : (ji3) ≤ 64 → (a0 / 2 ^ (ji3).toNat) = ji5 := shr_small hji5
  obtain rfl := Option.some.inj H
  go_enter Try.func120, Try.ntmps120
  go_wp2
  go_ret
  exact ⟨by first | rfl | (simp; done) | (simp only [← hji3, ← hji5] <;> (first | rfl | simp)) | (simp [*]; done), qz3⟩
 ·rw [if_neg c4] at H
  exact absurd H (by simp)

end Go.Proofs.Ytjhfjnknajhanaa.P

namespace Go.Proofs.Ytjhfjnknajhanaa.P
open Go.RowKit Go.Proofs.YtjhfjnknajhanaaW.PrintWords Go.Proofs.YtjhfjnknajhanaaW.PrintLast Go.Proofs.YtjhfjnknajhanaaW.PrintMore
attribute [local go_sem] max2_int min2_int max_two min_two max_three min_three max_four min_four   -- for this text's walks alone
set_option linter.unusedVariables false
set_option linter.unusedSimpArgs false

/-! ### spec_l01Side: function 212 -/
set_option maxHeartbeats 8000000 in
set_option maxRecDepth 100000 in
theorem spec_l01Side.calls (a0_0 : Int) (A0_1 : Option Addr) (c0_1 : Nat) (l0_1 : List Int) (a1 : Int) (a2 : Int) (a3 : Bool) (r : Bool) (w : World) (hr0_1 : Kd.C (Kd.int .u64) w A0_1 l0_1.length l0_1) (hc0_1 : l0_1.length ≤ c0_1) (h : spec_l01Side.f a0_0 l0_1 a1 a2 a3 = some r) :
  Calls Try.prog 212 #[.agg #[.int .i64 a0_0, .slice A0_1 l0_1.length c0_1], .int .i64 a1, .int .i64 a2, .bool a3] w fun e w' => e = .returned (.bool r) ∧ Below w.heap.size w w' := by
 have hu47 := Try.underlying47
 have HR0_1 := Aside0.mk hr0_1
 have HC0_1 := Aside0.mk hc0_1
 clear hr0_1 hc0_1
 have HB := Aside0.mk (Below.refl w.heap.size w)
 have H : (if a3 = true then (if 0 ≤ a1 then (if a1 < (l0_1.length : Int) then ((spec_l01Bit.f (rd l0_1 a1) a2).bind fun t103 => (some t103)) else (none)) else (none)) else (if 0 ≤ a2 then (if a2 < (l0_1.length : Int) then ((spec_l01Bit.f (rd l0_1 a2) a1).bind fun t105 => (some t105)) else (none)) else (none))) = some r := h
 clear h
 by_cases c5 : a3 = true
 ·subst c5
  have H1 : (if 0 ≤ a1 then (if a1 < (l0_1.length : Int) then ((spec_l01Bit.f (rd l0_1 a1) a2).bind fun t103 => (some t103)) else (none)) else (none)) = some r := by rw [if_pos rfl] at H; exact H
  clear H
  have H := H1
  clear H1
  by_cases c6 : 0 ≤ a1
  ·rw [if_pos c6] at H
   have c6b0 : decide (0 ≤ a1) = true := decide_eq_true c6
   clear c6
   by_cases c7 : a1 < (l0_1.length : Int)
   ·rw [if_pos c7] at H
    have c7b0 : decide (a1 < (l0_1.length : Int)) = true := decide_eq_true c7
    clear c7
    replace H := Option.bind_eq_some_iff.mp H
    obtain ⟨t103, A80, H⟩ := H
    replace H : (some t103) = some r := H
    have A8 := Aside0.mk A80
    clear A80
    obtain rfl := Option.some.inj H
    go_enter Try.func212, Try.ntmps212
    go_wp2_with (first | ((with_reducible refine gate_dst (N := 4) rfl ?_); refine box_event ?hg (N := 4) ?hd (cs := #[.int .i64 a0_0, .slice A0_1 l0_1.length c0_1]) (t := 47) ?hr ?_; (case hd => rfl); (case hg => rfl); (case hr => exact qz5); intro gb101 hg w9 hbox hb; have n0_ := Aside0.mk (below_step qz6 hb); have n1_ := Aside0.mk (hbox); have n2_ := Aside0.mk ((qz7 : w.heap.size ≤ gb101)); have n3_ := Aside0.mk ((qz7 : w.heap.size ≤ gb101)); clear HB; have HB := n0_; have BK101 := n1_; have GW101 := n2_; have GE101 := n3_; clear n0_ n1_ n2_ n3_; clear hb hbox hg; have hcz10_0 : w9.cell? ⟨gb101, 0, none⟩ = some (.int .i64 a0_0) := (blk_cell BK101.out 0).trans rfl; have hcz10_1 : w9.cell? ⟨gb101, 1, none⟩ = some (.slice A0_1 l0_1.length c0_1) := (blk_cell BK101.out 1).trans rfl; have hfz10_0 := blk_frozen BK101.out 0; have hfz10_1 := blk_frozen BK101.out 1; have p102 : 0 ≤ (a1 : Int) := of_decide_eq_true qz4; have q102 : a1 < (l0_1.length : Int) := of_decide_eq_true qz4; obtain ⟨ad102, e102, hx102_0⟩ := Kd.at_int HR0_1.out a1 p102 q102; cases e102; replace hx102_0 := qcb HB hx102_0; replace p102 := eq_true p102; replace q102 := eq_true q102) | ((with_reducible refine gate_callee (f := 120) rfl ?_); refine goesL_ (some 16) rfl rfl Try.func120 (by kernel_rfl) rfl #[.int .u64 (rd l0_1 a1), .int .i64 a2] rfl qz1 ?_; (with_reducible refine (spec_l01Bit.calls (rd l0_1 a1) a2 t103 _ A8.out).mono ?_); rintro e w' ⟨rfl, ⟨nd, rfl⟩⟩; refine ⟨_, rfl, ?_⟩))
    go_ret
    exact ⟨qz13, qz10 GE101.out⟩
   ·rw [if_neg c7] at H
    exact absurd H (by simp)
  ·rw [if_neg c6] at H
   exact absurd H (by simp)
 ·replace c5 := Bool.eq_false_iff.mpr c5
  subst c5
  have H1 : (if 0 ≤ a2 then (if a2 < (l0_1.length : Int) then ((spec_l01Bit.f (rd l0_1 a2) a1).bind fun t105 => (some t105)) else (none)) else (none)) = some r := by rw [if_neg (show ¬ (false = true) by decide)] at H; exact H
  clear H
  have H := H1
  clear H1
  by_cases c11 : 0 ≤ a2
  ·rw [if_pos c11] at H
   have c11b0 : decide (0 ≤ a2) = true := decide_eq_true c11
   clear c11
   by_cases c12 : a2 < (l0_1.length : Int)
   ·rw [if_pos c12] at H
    have c12b0 : decide (a2 < (l0_1.length : Int)) = true := decide_eq_true c12
    clear c12
    replace H := Option.bind_eq_some_iff.mp H
    obtain ⟨t105, A130, H⟩ := H
    replace H : (some t105) = some r := H
    have A13 := Aside0.mk A130
    clear A130
    obtain rfl := Option.some.inj H
    go_enter Try.func212, Try.ntmps212
    go_wp2_with (first | ((with_reducible refine gate_dst (N := 4) rfl ?_); refine box_event ?hg (N := 4) ?hd (cs := #[.int .i64 a0_0, .slice A0_1 l0_1.length c0_1]) (t := 47) ?hr ?_; (case hd => rfl); (case hg => rfl); (case hr => exact qz5); intro gb101 hg w14 hbox hb; have n0_ := Aside0.mk (below_step qz6 hb); have n1_ := Aside0.mk (hbox); have n2_ := Aside0.mk ((qz7 : w.heap.size ≤ gb101)); have n3_ := Aside0.mk ((qz7 : w.heap.size ≤ gb101)); clear HB; have HB := n0_; have BK101 := n1_; have GW101 := n2_; have GE101 := n3_; clear n0_ n1_ n2_ n3_; clear hb hbox hg; have hcz15_0 : w14.cell? ⟨gb101, 0, none⟩ = some (.int .i64 a0_0) := (blk_cell BK101.out 0).trans rfl; have hcz15_1 : w14.cell? ⟨gb101, 1, none⟩ = some (.slice A0_1 l0_1.length c0_1) := (blk_cell BK101.out 1).trans rfl; have hfz15_0 := blk_frozen BK101.out 0; have hfz15_1 := blk_frozen BK101.out 1; have p104 : 0 ≤ (a2 : Int) := of_decide_eq_true qz4; have q104 : a2 < (l0_1.length : Int) := of_decide_eq_true qz4; obtain ⟨ad104, e104, hx104_0⟩ := Kd.at_int HR0_1.out a2 p104 q104; cases e104; replace hx104_0 := qcb HB hx104_0; replace p104 := eq_true p104; replace q104 := eq_true q104) | ((with_reducible refine gate_callee (f := 120) rfl ?_); refine goesL_ (some 23) rfl rfl Try.func120 (by kernel_rfl) rfl #[.int .u64 (rd l0_1 a2), .int .i64 a1] rfl qz1 ?_; (with_reducible refine (spec_l01Bit.calls (rd l0_1 a2) a1 t105 _ A13.out).mono ?_); rintro e w' ⟨rfl, ⟨nd, rfl⟩⟩; refine ⟨_, rfl, ?_⟩))
    go_ret
    exact ⟨qz13, qz10 GE101.out⟩
   ·rw [if_neg c12] at H
    exact absurd H (by simp)
  ·rw [if_neg c11] at H
   exact absurd H (by simp)

end Go.Proofs.Ytjhfjnknajhanaa.P

namespace Go.Proofs.Ytjhfjnknajhanaa.P
open Go.RowKit Go.Proofs.YtjhfjnknajhanaaW.PrintWords Go.Proofs.YtjhfjnknajhanaaW.PrintLast Go.Proofs.YtjhfjnknajhanaaW.PrintMore
attribute [local go_sem] max2_int min2_int max_two min_two max_three min_three max_four min_four   -- for this text's walks alone
set_option linter.unusedVariables false
set_option linter.unusedSimpArgs false

/-! ### spec_l01Bound: function 122 -/
set_option maxHeartbeats 8000000 in
set_option maxRecDepth 100000 in
theorem spec_l01Bound.calls (k : Nat) (a0_0 : Int) (A0_1 : Option Addr) (c0_1 : Nat) (l0_1 : List Int) (a1 : Int) (a2 : Int) (a3 : Bool) (r : Int) (w : World) (hr0_1 : Kd.C (Kd.int .u64) w A0_1 l0_1.length l0_1) (hc0_1 : l0_1.length ≤ c0_1) (h : spec_l01Bound.f k a0_0 l0_1 a1 a2 a3 = some r) :
  Calls Try.prog 122 #[.agg #[.int .i64 a0_0, .slice A0_1 l0_1.length c0_1], .int .i64 a1, .int .i64 a2, .bool a3] w fun e w' => e = .returned (.int .i64 r) ∧ Below w.heap.size w w' := by
 have hu47 := Try.underlying47
 have HR0_1 := Aside0.mk hr0_1
 have HC0_1 := Aside0.mk hc0_1
 clear hr0_1 hc0_1
 have HB := Aside0.mk (Below.refl w.heap.size w)
 have H : (spec_l01Bound.l0 k a1 a2 a3 0 a0_0 l0_1) = some r := h
 clear h
 have H' := Aside0.mk H
 clear H
 go_enter Try.func122, Try.ntmps122
 go_wp2_with (first | ((with_reducible refine gate_dst (N := 4) rfl ?_); refine box_event ?hg (N := 4) ?hd (cs := #[.int .i64 a0_0, .slice A0_1 l0_1.length c0_1]) (t := 47) ?hr ?_; (case hd => rfl); (case hg => rfl); (case hr => exact qz5); intro gb101 hg w5 hbox hb; have n0_ := Aside0.mk (below_step qz6 hb); have n1_ := Aside0.mk (hbox); have n2_ := Aside0.mk ((qz7 : w.heap.size ≤ gb101)); have n3_ := Aside0.mk ((qz7 : w.heap.size ≤ gb101)); clear HB; have HB := n0_; have BK101 := n1_; have GW101 := n2_; have GE101 := n3_; clear n0_ n1_ n2_ n3_; clear hb hbox hg))
 go_loopg [9] k (fun kq v9 w' => ∃ (x9_1 : Int), v9 = .int .i64 x9_1 ∧ Aside0 (spec_l01Bound.l0 kq a1 a2 a3 x9_1 a0_0 l0_1 = some r) ∧ Aside0 (kq ≤ k) ∧ Aside0 (w'.heap[gb101]? = some (.cells #[.int .i64 a0_0, (.slice A0_1 l0_1.length c0_1)] 47 (0, 0))) ∧ Aside0 (Below w.heap.size w w'))
 case atStart => exact ⟨(0), qz2, H', ⟨Nat.le_refl _⟩, ⟨qz8 BK101.out⟩, ⟨qz10 GE101.out⟩⟩
 case round =>
  clear H'
  try clear c1
  try clear p2
  obtain ⟨x9_1, rfl, HA, HK1, BK101, HB⟩ := hrel
  cases gk with
  | zero => exact absurd HA.out (by simp [spec_l01Bound.l0])
  | succ k1 =>
   have H := HA.out
   clear HA
   simp only [spec_l01Bound.l0] at H
   by_cases c6 : x9_1 < a0_0
   ·rw [if_pos c6] at H
    have c6b0 : decide (x9_1 < a0_0) = true := decide_eq_true c6
    clear c6
    have HC7 := Aside0.mk H
    clear H
    have hcz8_0 : wr.cell? ⟨gb101, 0, none⟩ = some (.int .i64 a0_0) := (blk_cell BK101.out 0).trans rfl
    have hcz8_1 : wr.cell? ⟨gb101, 1, none⟩ = some (.slice A0_1 l0_1.length c0_1) := (blk_cell BK101.out 1).trans rfl
    have hfz8_0 := blk_frozen BK101.out 0
    have hfz8_1 := blk_frozen BK101.out 1
    go_upto_region 4 with (fail)
    go_cut [10] (fun v10 wc => ∃ (kq : Nat) (x10_6 : Bool), v10 = .bool x10_6 ∧ Aside0 (spec_l01Bound.j1 kq a1 a2 a3 x9_1 x10_6 a0_0 l0_1 = some r) ∧ Aside0 (kq ≤ k1) ∧ Aside0 (wc.heap[gb101]? = some (.cells #[.int .i64 a0_0, (.slice A0_1 l0_1.length c0_1)] 47 (0, 0))) ∧ Aside0 (Below w.heap.size w wc))
    case first =>
     have H := HC7.out
     clear HC7
     replace H := Option.bind_eq_some_iff.mp H
     obtain ⟨t102, A90, H⟩ := H
     replace H : (if t102 = true then ((spec_l01Side.f a0_0 l0_1 a2 x9_1 a3).bind fun t103 => (spec_l01Bound.j1 k1 a1 a2 a3 x9_1 t103 a0_0 l0_1)) else (spec_l01Bound.j1 k1 a1 a2 a3 x9_1 false a0_0 l0_1)) = some r := H
     have A9 := Aside0.mk A90
     clear A90
     by_cases c10 : t102 = true
     ·subst c10
      have H1 : ((spec_l01Side.f a0_0 l0_1 a2 x9_1 a3).bind fun t103 => (spec_l01Bound.j1 k1 a1 a2 a3 x9_1 t103 a0_0 l0_1)) = some r := by rw [if_pos rfl] at H; exact H
      clear H
      have H := H1
      clear H1
      replace H := Option.bind_eq_some_iff.mp H
      obtain ⟨t103, A110, H⟩ := H
      replace H : (spec_l01Bound.j1 k1 a1 a2 a3 x9_1 t103 a0_0 l0_1) = some r := H
      have A11 := Aside0.mk A110
      clear A110
      have H' := Aside0.mk H
      clear H
      have hcz12_0 : wr.cell? ⟨gb101, 0, none⟩ = some (.int .i64 a0_0) := (blk_cell BK101.out 0).trans rfl
      have hcz12_1 : wr.cell? ⟨gb101, 1, none⟩ = some (.slice A0_1 l0_1.length c0_1) := (blk_cell BK101.out 1).trans rfl
      have hfz12_0 := blk_frozen BK101.out 0
      have hfz12_1 := blk_frozen BK101.out 1
      go_wp2_with (first | ((with_reducible refine gate_callee (f := 212) rfl ?_); refine goesL_ (some 22) rfl rfl Try.func212 (by kernel_rfl) rfl #[.agg #[.int .i64 a0_0, .slice A0_1 l0_1.length c0_1], .int .i64 a1, .int .i64 x9_1, .bool a3] rfl qz1 ?_; (with_reducible refine (spec_l01Side.calls a0_0 _ _ l0_1 a1 x9_1 a3 true _ ?side1 ?side2 A9.out).mono ?_); (case side1 => exact qz17 HR0_1.out); (case side2 => exact HC0_1.out); rintro e w13 ⟨rfl, hb⟩; refine ⟨_, rfl, ?_⟩; have n0_ := Aside0.mk (blk_below (g := gb101) (o := .cells #[.int .i64 a0_0, .slice A0_1 l0_1.length c0_1] 47 (0, 0)) (qz8 BK101.out) hb); have n1_ := Aside0.mk (below_step (qz10 GE101.out) hb); clear BK101; clear HB; have BK101 := n0_; have HB := n1_; clear n0_ n1_; (try clear hb); (try clear hb2); (try clear hk); (try clear hi); have hcz14_0 : w13.cell? ⟨gb101, 0, none⟩ = some (.int .i64 a0_0) := (blk_cell BK101.out 0).trans rfl; have hcz14_1 : w13.cell? ⟨gb101, 1, none⟩ = some (.slice A0_1 l0_1.length c0_1) := (blk_cell BK101.out 1).trans rfl; have hfz14_0 := blk_frozen BK101.out 0; have hfz14_1 := blk_frozen BK101.out 1) | (go_at_call 212; (with_reducible refine (spec_l01Side.calls a0_0 _ _ l0_1 a2 x9_1 a3 t103 _ ?side1 ?side2 A11.out).mono ?_); (case side1 => exact qz17 HR0_1.out); (case side2 => exact HC0_1.out); rintro e w15 ⟨rfl, hb⟩; have n0_ := Aside0.mk (blk_below (g := gb101) (o := .cells #[.int .i64 a0_0, .slice A0_1 l0_1.length c0_1] 47 (0, 0)) (qz8 BK101.out) hb); have n1_ := Aside0.mk (below_step (qz10 GE101.out) hb); clear BK101; clear HB; have BK101 := n0_; have HB := n1_; clear n0_ n1_; (try clear hb); (try clear hb2); (try clear hk); (try clear hi)))
      go_meet
      case rel => exact ⟨_, (t103), qz2, H', ⟨qz94 HK1.out⟩, ⟨qz8 BK101.out⟩, ⟨qz10 GE101.out⟩⟩
     ·replace c10 := Bool.eq_false_iff.mpr c10
      subst c10
      have H1 : (spec_l01Bound.j1 k1 a1 a2 a3 x9_1 false a0_0 l0_1) = some r := by rw [if_neg (show ¬ (false = true) by decide)] at H; exact H
      clear H
      have H := H1
      clear H1
      have H' := Aside0.mk H
      clear H
      have hcz16_0 : wr.cell? ⟨gb101, 0, none⟩ = some (.int .i64 a0_0) := (blk_cell BK101.out 0).trans rfl
      have hcz16_1 : wr.cell? ⟨gb101, 1, none⟩ = some (.slice A0_1 l0_1.length c0_1) := (blk_cell BK101.out 1).trans rfl
      have hfz16_0 := blk_frozen BK101.out 0
      have hfz16_1 := blk_frozen BK101.out 1
      go_wp2_with (first | ((with_reducible refine gate_callee (f := 212) rfl ?_); refine goesL_ (some 22) rfl rfl Try.func212 (by kernel_rfl) rfl #[.agg #[.int .i64 a0_0, .slice A0_1 l0_1.length c0_1], .int .i64 a1, .int .i64 x9_1, .bool a3] rfl qz1 ?_; (with_reducible refine (spec_l01Side.calls a0_0 _ _ l0_1 a1 x9_1 a3 false _ ?side1 ?side2 A9.out).mono ?_); (case side1 => exact qz17 HR0_1.out); (case side2 => exact HC0_1.out); rintro e w17 ⟨rfl, hb⟩; refine ⟨_, rfl, ?_⟩; have n0_ := Aside0.mk (blk_below (g := gb101) (o := .cells #[.int .i64 a0_0, .slice A0_1 l0_1.length c0_1] 47 (0, 0)) (qz8 BK101.out) hb); have n1_ := Aside0.mk (below_step (qz10 GE101.out) hb); clear BK101; clear HB; have BK101 := n0_; have HB := n1_; clear n0_ n1_; (try clear hb); (try clear hb2); (try clear hk); (try clear hi)))
      go_meet
      case rel => exact ⟨_, (false), qz2, H', ⟨qz94 HK1.out⟩, ⟨qz8 BK101.out⟩, ⟨qz10 GE101.out⟩⟩
    case rest =>
     clear HC7
     try clear c1
     try clear c2
     try clear p2
     try clear c6
     try clear c6b0
     try clear c10
     try clear c12
     try clear hcz12_0
     try clear hcz12_1
     try clear hcz14_0
     try clear hcz14_1
     try clear hcz16_0
     try clear hcz16_1
     try clear hcz8_0
     try clear hcz8_1
     try clear hfz12_0
     try clear hfz12_1
     try clear hfz14_0
     try clear hfz14_1
     try clear hfz16_0
     try clear hfz16_1
     try clear hfz8_0
     try clear hfz8_1
     try clear p2
     obtain ⟨kq, x10_6, rfl, HA, HJ6, BK101, HB⟩ := hcut
     cases kq with
     | zero => exact absurd HA.out (by simp [spec_l01Bound.j1])
     | succ kj6 =>
      have H := HA.out
      clear HA
      simp only [spec_l01Bound.j1] at H
      have H' := Aside0.mk H
      clear H
      go_wp2
      go_loopg [10, 11] kj6 (fun kq v10 v11 w' => ∃ (x10_3 : Bool) (x11_3 : Int), v10 = .bool x10_3 ∧ v11 = .int .i64 x11_3 ∧ Aside0 (spec_l01Bound.l1 kq a1 a2 a3 x9_1 x10_3 x11_3 a0_0 l0_1 = some r) ∧ Aside0 (kq ≤ kj6) ∧ Aside0 (w'.heap[gb101]? = some (.cells #[.int .i64 a0_0, (.slice A0_1 l0_1.length c0_1)] 47 (0, 0))) ∧ Aside0 (Below w.heap.size w w'))
      case atStart => exact ⟨(x10_6), (0), qz2, qz2, H', ⟨Nat.le_refl _⟩, ⟨qz8 BK101.out⟩, ⟨qz10 GE101.out⟩⟩
      case round =>
       clear H'
       try clear c1
       try clear c2
       try clear p2
       try clear c6
       try clear c6b0
       try clear c10
       try clear c12
       try clear hcz12_0
       try clear hcz12_1
       try clear hcz14_0
       try clear hcz14_1
       try clear hcz16_0
       try clear hcz16_1
       try clear hcz8_0
       try clear hcz8_1
       try clear hfz12_0
       try clear hfz12_1
       try clear hfz14_0
       try clear hfz14_1
       try clear hfz16_0
       try clear hfz16_1
       try clear hfz8_0
       try clear hfz8_1
       try clear p2
       obtain ⟨x10_3, x11_3, rfl, rfl, HA, HK3, BK101, HB⟩ := hrel
       cases gk with
       | zero => exact absurd HA.out (by simp [spec_l01Bound.l1])
       | succ k3 =>
        have H := HA.out
        clear HA
        simp only [spec_l01Bound.l1] at H
        have HC18 := Aside0.mk H
        clear H
        go_upto_region 6 with (fail)
        go_cut [36] (fun v36 wc => ∃ (kq : Nat) (x36_17 : Bool), v36 = .bool x36_17 ∧ Aside0 (spec_l01Bound.j3 kq a1 a2 a3 x9_1 x10_3 x11_3 x36_17 a0_0 l0_1 = some r) ∧ Aside0 (kq ≤ k3) ∧ Aside0 (wc.heap[gb101]? = some (.cells #[.int .i64 a0_0, (.slice A0_1 l0_1.length c0_1)] 47 (0, 0))) ∧ Aside0 (Below w.heap.size w wc))
        case first =>
         have H := HC18.out
         clear HC18
         by_cases c19 : x11_3 < a0_0
         ·rw [if_pos c19] at H
          have c19b0 : decide (x11_3 < a0_0) = true := decide_eq_true c19
          clear c19
          (first | rw [c19b0] | (simp only [i64_w, i32_w]; rw [c19b0]) | skip)
          have H' := Aside0.mk H
          clear H
          have hcz20_0 : wr.cell? ⟨gb101, 0, none⟩ = some (.int .i64 a0_0) := (blk_cell BK101.out 0).trans rfl
          have hcz20_1 : wr.cell? ⟨gb101, 1, none⟩ = some (.slice A0_1 l0_1.length c0_1) := (blk_cell BK101.out 1).trans rfl
          have hfz20_0 := blk_frozen BK101.out 0
          have hfz20_1 := blk_frozen BK101.out 1
          go_wp2
          go_meet
          case rel => exact ⟨_, (x10_3), qz2, H', ⟨qz263 HK1.out HJ6.out HK3.out⟩, ⟨qz8 BK101.out⟩, ⟨qz10 GE101.out⟩⟩
         ·rw [if_neg c19] at H
          have c19b0 : decide (x11_3 < a0_0) = false := decide_eq_false c19
          clear c19
          (first | rw [c19b0] | (simp only [i64_w, i32_w]; rw [c19b0]) | skip)
          have H' := Aside0.mk H
          clear H
          have hcz21_0 : wr.cell? ⟨gb101, 0, none⟩ = some (.int .i64 a0_0) := (blk_cell BK101.out 0).trans rfl
          have hcz21_1 : wr.cell? ⟨gb101, 1, none⟩ = some (.slice A0_1 l0_1.length c0_1) := (blk_cell BK101.out 1).trans rfl
          have hfz21_0 := blk_frozen BK101.out 0
          have hfz21_1 := blk_frozen BK101.out 1
          go_wp2
          go_meet
          case rel => exact ⟨_, (false), qz2, H', ⟨qz263 HK1.out HJ6.out HK3.out⟩, ⟨qz8 BK101.out⟩, ⟨qz10 GE101.out⟩⟩
        case rest =>
         clear HC18
         try clear c1
         try clear c2
         try clear p2
         try clear c6
         try clear c6b0
         try clear c10
         try clear c12
         try clear c19
         try clear c19b0
         try clear c21
         try clear hcz12_0
         try clear hcz12_1
         try clear hcz14_0
         try clear hcz14_1
         try clear hcz16_0
         try clear hcz16_1
         try clear hcz20_0
         try clear hcz20_1
         try clear hcz21_0
         try clear hcz21_1
         try clear hcz8_0
         try clear hcz8_1
         try clear hfz12_0
         try clear hfz12_1
         try clear hfz14_0
         try clear hfz14_1
         try clear hfz16_0
         try clear hfz16_1
         try clear hfz20_0
         try clear hfz20_1
         try clear hfz21_0
         try clear hfz21_1
         try clear hfz8_0
         try clear hfz8_1
         try clear p2
         obtain ⟨kq, x36_17, rfl, HA, HJ17, BK101, HB⟩ := hcut
         cases kq with
         | zero => exact absurd HA.out (by simp [spec_l01Bound.j3])
         | succ kj17 =>
          have H := HA.out
          clear HA
          simp only [spec_l01Bound.j3] at H
          by_cases c22 : x36_17 = true
          ·subst c22
           have H1 : ((spec_l01Side.f a0_0 l0_1 a1 x11_3 a3).bind fun t104 => (if t104 = true then ((spec_l01Side.f a0_0 l0_1 a2 x11_3 a3).bind fun t105 => (if t105 = true then ((spec_l01Side.f a0_0 l0_1 x9_1 x11_3 a3).bind fun t106 => (if t106 = true then (spec_l01Bound.l1 kj17 a1 a2 a3 x9_1 x10_3 (wrap64 (x11_3 + 1)) a0_0 l0_1) else (spec_l01Bound.l1 kj17 a1 a2 a3 x9_1 false (wrap64 (x11_3 + 1)) a0_0 l0_1))) else (spec_l01Bound.l1 kj17 a1 a2 a3 x9_1 x10_3 (wrap64 (x11_3 + 1)) a0_0 l0_1))) else (spec_l01Bound.l1 kj17 a1 a2 a3 x9_1 x10_3 (wrap64 (x11_3 + 1)) a0_0 l0_1))) = some r := by rw [if_pos rfl] at H; exact H
           clear H
           have H := H1
           clear H1
           replace H := Option.bind_eq_some_iff.mp H
           obtain ⟨t104, A230, H⟩ := H
           replace H : (if t104 = true then ((spec_l01Side.f a0_0 l0_1 a2 x11_3 a3).bind fun t105 => (if t105 = true then ((spec_l01Side.f a0_0 l0_1 x9_1 x11_3 a3).bind fun t106 => (if t106 = true then (spec_l01Bound.l1 kj17 a1 a2 a3 x9_1 x10_3 (wrap64 (x11_3 + 1)) a0_0 l0_1) else (spec_l01Bound.l1 kj17 a1 a2 a3 x9_1 false (wrap64 (x11_3 + 1)) a0_0 l0_1))) else (spec_l01Bound.l1 kj17 a1 a2 a3 x9_1 x10_3 (wrap64 (x11_3 + 1)) a0_0 l0_1))) else (spec_l01Bound.l1 kj17 a1 a2 a3 x9_1 x10_3 (wrap64 (x11_3 + 1)) a0_0 l0_1)) = some r := H
           have A23 := Aside0.mk A230
           clear A230
           by_cases c24 : t104 = true
           ·subst c24
            have H1 : ((spec_l01Side.f a0_0 l0_1 a2 x11_3 a3).bind fun t105 => (if t105 = true then ((spec_l01Side.f a0_0 l0_1 x9_1 x11_3 a3).bind fun t106 => (if t106 = true then (spec_l01Bound.l1 kj17 a1 a2 a3 x9_1 x10_3 (wrap64 (x11_3 + 1)) a0_0 l0_1) else (spec_l01Bound.l1 kj17 a1 a2 a3 x9_1 false (wrap64 (x11_3 + 1)) a0_0 l0_1))) else (spec_l01Bound.l1 kj17 a1 a2 a3 x9_1 x10_3 (wrap64 (x11_3 + 1)) a0_0 l0_1))) = some r := by rw [if_pos rfl] at H; exact H
            clear H
            have H := H1
            clear H1
            replace H := Option.bind_eq_some_iff.mp H
            obtain ⟨t105, A250, H⟩ := H
            replace H : (if t105 = true then ((spec_l01Side.f a0_0 l0_1 x9_1 x11_3 a3).bind fun t106 => (if t106 = true then (spec_l01Bound.l1 kj17 a1 a2 a3 x9_1 x10_3 (wrap64 (x11_3 + 1)) a0_0 l0_1) else (spec_l01Bound.l1 kj17 a1 a2 a3 x9_1 false (wrap64 (x11_3 + 1)) a0_0 l0_1))) else (spec_l01Bound.l1 kj17 a1 a2 a3 x9_1 x10_3 (wrap64 (x11_3 + 1)) a0_0 l0_1)) = some r := H
            have A25 := Aside0.mk A250
            clear A250
            by_cases c26 : t105 = true
            ·subst c26
             have H1 : ((spec_l01Side.f a0_0 l0_1 x9_1 x11_3 a3).bind fun t106 => (if t106 = true then (spec_l01Bound.l1 kj17 a1 a2 a3 x9_1 x10_3 (wrap64 (x11_3 + 1)) a0_0 l0_1) else (spec_l01Bound.l1 kj17 a1 a2 a3 x9_1 false (wrap64 (x11_3 + 1)) a0_0 l0_1))) = some r := by rw [if_pos rfl] at H; exact H
             clear H
             have H := H1
             clear H1
             replace H := Option.bind_eq_some_iff.mp H
             obtain ⟨t106, A270, H⟩ := H
             replace H : (if t106 = true then (spec_l01Bound.l1 kj17 a1 a2 a3 x9_1 x10_3 (wrap64 (x11_3 + 1)) a0_0 l0_1) else (spec_l01Bound.l1 kj17 a1 a2 a3 x9_1 false (wrap64 (x11_3 + 1)) a0_0 l0_1)) = some r := H
             have A27 := Aside0.mk A270
             clear A270
             by_cases c28 : t106 = true
             ·subst c28
              have H1 : (spec_l01Bound.l1 kj17 a1 a2 a3 x9_1 x10_3 (wrap64 (x11_3 + 1)) a0_0 l0_1) = some r := by rw [if_pos rfl] at H; exact H
              clear H
              have H := H1
              clear H1
              have H' := Aside0.mk H
              clear H
              have hcz29_0 : wc.cell? ⟨gb101, 0, none⟩ = some (.int .i64 a0_0) := (blk_cell BK101.out 0).trans rfl
              have hcz29_1 : wc.cell? ⟨gb101, 1, none⟩ = some (.slice A0_1 l0_1.length c0_1) := (blk_cell BK101.out 1).trans rfl
              have hfz29_0 := blk_frozen BK101.out 0
              have hfz29_1 := blk_frozen BK101.out 1
              go_wp2_with (first | ((with_reducible refine gate_callee (f := 212) rfl ?_); refine goesL_ (some 43) rfl rfl Try.func212 (by kernel_rfl) rfl #[.agg #[.int .i64 a0_0, .slice A0_1 l0_1.length c0_1], .int .i64 a1, .int .i64 x11_3, .bool a3] rfl qz1 ?_; (with_reducible refine (spec_l01Side.calls a0_0 _ _ l0_1 a1 x11_3 a3 true _ ?side1 ?side2 A23.out).mono ?_); (case side1 => exact qz17 HR0_1.out); (case side2 => exact HC0_1.out); rintro e w30 ⟨rfl, hb⟩; refine ⟨_, rfl, ?_⟩; have n0_ := Aside0.mk (blk_below (g := gb101) (o := .cells #[.int .i64 a0_0, .slice A0_1 l0_1.length c0_1] 47 (0, 0)) (qz8 BK101.out) hb); have n1_ := Aside0.mk (below_step (qz10 GE101.out) hb); clear BK101; clear HB; have BK101 := n0_; have HB := n1_; clear n0_ n1_; (try clear hb); (try clear hb2); (try clear hk); (try clear hi); have hcz31_0 : w30.cell? ⟨gb101, 0, none⟩ = some (.int .i64 a0_0) := (blk_cell BK101.out 0).trans rfl; have hcz31_1 : w30.cell? ⟨gb101, 1, none⟩ = some (.slice A0_1 l0_1.length c0_1) := (blk_cell BK101.out 1).trans rfl; have hfz31_0 := blk_frozen BK101.out 0; have hfz31_1 := blk_frozen BK101.out 1) | (go_at_call 212; (with_reducible refine (spec_l01Side.calls a0_0 _ _ l0_1 a2 x11_3 a3 true _ ?side1 ?side2 A25.out).mono ?_); (case side1 => exact qz17 HR0_1.out); (case side2 => exact HC0_1.out); rintro e w32 ⟨rfl, hb⟩; have n0_ := Aside0.mk (blk_below (g := gb101) (o := .cells #[.int .i64 a0_0, .slice A0_1 l0_1.length c0_1] 47 (0, 0)) (qz8 BK101.out) hb); have n1_ := Aside0.mk (below_step (qz10 GE101.out) hb); clear BK101; clear HB; have BK101 := n0_; have HB := n1_; clear n0_ n1_; (try clear hb); (try clear hb2); (try clear hk); (try clear hi); have hcz33_0 : w32.cell? ⟨gb101, 0, none⟩ = some (.int .i64 a0_0) := (blk_cell BK101.out 0).trans rfl; have hcz33_1 : w32.cell? ⟨gb101, 1, none⟩ = some (.slice A0_1 l0_1.length c0_1) := (blk_cell BK101.out 1).trans rfl; have hfz33_0 := blk_frozen BK101.out 0; have hfz33_1 := blk_frozen BK101.out 1) | (go_at_call 212; (with_reducible refine (spec_l01Side.calls a0_0 _ _ l0_1 x9_1 x11_3 a3 true _ ?side1 ?side2 A27.out).mono ?_); (case side1 => exact qz17 HR0_1.out); (case side2 => exact HC0_1.out); rintro e w34 ⟨rfl, hb⟩; have n0_ := Aside0.mk (blk_below (g := gb101) (o := .cells #[.int .i64 a0_0, .slice A0_1 l0_1.length c0_1] 47 (0, 0)) (qz8 BK101.out) hb); have n1_ := Aside0.mk (below_step (qz10 GE101.out) hb); clear BK101; clear HB; have BK101 := n0_; have HB := n1_; clear n0_ n1_; (try clear hb); (try clear hb2); (try clear hk); (try clear hi)))
              go_roundg kj17
              case measure => have := HK1.out; have := HJ6.out; have := HK3.out; have := HJ17.out; omega
              case rel => exact ⟨(x10_3), (wrap64 (x11_3 + 1)), qz2, qz2, H', ⟨qz32 HK1.out HJ6.out HK3.out HJ17.out⟩, ⟨qz8 BK101.out⟩, ⟨qz10 GE101.out⟩⟩
             ·replace c28 := Bool.eq_false_iff.mpr c28
              subst c28
              have H1 : (spec_l01Bound.l1 kj17 a1 a2 a3 x9_1 false (wrap64 (x11_3 + 1)) a0_0 l0_1) = some r := by rw [if_neg (show ¬ (false = true) by decide)] at H; exact H
              clear H
              have H := H1
              clear H1
              have H' := Aside0.mk H
              clear H
              have hcz35_0 : wc.cell? ⟨gb101, 0, none⟩ = some (.int .i64 a0_0) := (blk_cell BK101.out 0).trans rfl
              have hcz35_1 : wc.cell? ⟨gb101, 1, none⟩ = some (.slice A0_1 l0_1.length c0_1) := (blk_cell BK101.out 1).trans rfl
              have hfz35_0 := blk_frozen BK101.out 0
              have hfz35_1 := blk_frozen BK101.out 1
              go_wp2_with (first | ((with_reducible refine gate_callee (f := 212) rfl ?_); refine goesL_ (some 43) rfl rfl Try.func212 (by kernel_rfl) rfl #[.agg #[.int .i64 a0_0, .slice A0_1 l0_1.length c0_1], .int .i64 a1, .int .i64 x11_3, .bool a3] rfl qz1 ?_; (with_reducible refine (spec_l01Side.calls a0_0 _ _ l0_1 a1 x11_3 a3 true _ ?side1 ?side2 A23.out).mono ?_); (case side1 => exact qz17 HR0_1.out); (case side2 => exact HC0_1.out); rintro e w36 ⟨rfl, hb⟩; refine ⟨_, rfl, ?_⟩; have n0_ := Aside0.mk (blk_below (g := gb101) (o := .cells #[.int .i64 a0_0, .slice A0_1 l0_1.length c0_1] 47 (0, 0)) (qz8 BK101.out) hb); have n1_ := Aside0.mk (below_step (qz10 GE101.out) hb); clear BK101; clear HB; have BK101 := n0_; have HB := n1_; clear n0_ n1_; (try clear hb); (try clear hb2); (try clear hk); (try clear hi); have hcz37_0 : w36.cell? ⟨gb101, 0, none⟩ = some (.int .i64 a0_0) := (blk_cell BK101.out 0).trans rfl; have hcz37_1 : w36.cell? ⟨gb101, 1, none⟩ = some (.slice A0_1 l0_1.length c0_1) := (blk_cell BK101.out 1).trans rfl; have hfz37_0 := blk_frozen BK101.out 0; have hfz37_1 := blk_frozen BK101.out 1) | (go_at_call 212; (with_reducible refine (spec_l01Side.calls a0_0 _ _ l0_1 a2 x11_3 a3 true _ ?side1 ?side2 A25.out).mono ?_); (case side1 => exact qz17 HR0_1.out); (case side2 => exact HC0_1.out); rintro e w38 ⟨rfl, hb⟩; have n0_ := Aside0.mk (blk_below (g := gb101) (o := .cells #[.int .i64 a0_0, .slice A0_1 l0_1.length c0_1] 47 (0, 0)) (qz8 BK101.out) hb); have n1_ := Aside0.mk (below_step (qz10 GE101.out) hb); clear BK101; clear HB; have BK101 := n0_; have HB := n1_; clear n0_ n1_; (try clear hb); (try clear hb2); (try clear hk); (try clear hi); have hcz39_0 : w38.cell? ⟨gb101, 0, none⟩ = some (.int .i64 a0_0) := (blk_cell BK101.out 0).trans rfl; have hcz39_1 : w38.cell? ⟨gb101, 1, none⟩ = some (.slice A0_1 l0_1.length c0_1) := (blk_cell BK101.out 1).trans rfl; have hfz39_0 := blk_frozen BK101.out 0; have hfz39_1 := blk_frozen BK101.out 1) | (go_at_call 212; (with_reducible refine (spec_l01Side.calls a0_0 _ _ l0_1 x9_1 x11_3 a3 false _ ?side1 ?side2 A27.out).mono ?_); (case side1 => exact qz17 HR0_1.out); (case side2 => exact HC0_1.out); rintro e w40 ⟨rfl, hb⟩; have n0_ := Aside0.mk (blk_below (g := gb101) (o := .cells #[.int .i64 a0_0, .slice A0_1 l0_1.length c0_1] 47 (0, 0)) (qz8 BK101.out) hb); have n1_ := Aside0.mk (below_step (qz10 GE101.out) hb); clear BK101; clear HB; have BK101 := n0_; have HB := n1_; clear n0_ n1_; (try clear hb); (try clear hb2); (try clear hk); (try clear hi)))
              go_roundg kj17
              case measure => have := HK1.out; have := HJ6.out; have := HK3.out; have := HJ17.out; omega
              case rel => exact ⟨(false), (wrap64 (x11_3 + 1)), qz2, qz2, H', ⟨qz32 HK1.out HJ6.out HK3.out HJ17.out⟩, ⟨qz8 BK101.out⟩, ⟨qz10 GE101.out⟩⟩
            ·replace c26 := Bool.eq_false_iff.mpr c26
             subst c26
             have H1 : (spec_l01Bound.l1 kj17 a1 a2 a3 x9_1 x10_3 (wrap64 (x11_3 + 1)) a0_0 l0_1) = some r := by rw [if_neg (show ¬ (false = true) by decide)] at H; exact H
             clear H
             have H := H1
             clear H1
             have H' := Aside0.mk H
             clear H
             have hcz41_0 : wc.cell? ⟨gb101, 0, none⟩ = some (.int .i64 a0_0) := (blk_cell BK101.out 0).trans rfl
             have hcz41_1 : wc.cell? ⟨gb101, 1, none⟩ = some (.slice A0_1 l0_1.length c0_1) := (blk_cell BK101.out 1).trans rfl
             have hfz41_0 := blk_frozen BK101.out 0
             have hfz41_1 := blk_frozen BK101.out 1
             go_wp2_with (first | ((with_reducible refine gate_callee (f := 212) rfl ?_); refine goesL_ (some 43) rfl rfl Try.func212 (by kernel_rfl) rfl #[.agg #[.int .i64 a0_0, .slice A0_1 l0_1.length c0_1], .int .i64 a1, .int .i64 x11_3, .bool a3] rfl qz1 ?_; (with_reducible refine (spec_l01Side.calls a0_0 _ _ l0_1 a1 x11_3 a3 true _ ?side1 ?side2 A23.out).mono ?_); (case side1 => exact qz17 HR0_1.out); (case side2 => exact HC0_1.out); rintro e w42 ⟨rfl, hb⟩; refine ⟨_, rfl, ?_⟩; have n0_ := Aside0.mk (blk_below (g := gb101) (o := .cells #[.int .i64 a0_0, .slice A0_1 l0_1.length c0_1] 47 (0, 0)) (qz8 BK101.out) hb); have n1_ := Aside0.mk (below_step (qz10 GE101.out) hb); clear BK101; clear HB; have BK101 := n0_; have HB := n1_; clear n0_ n1_; (try clear hb); (try clear hb2); (try clear hk); (try clear hi); have hcz43_0 : w42.cell? ⟨gb101, 0, none⟩ = some (.int .i64 a0_0) := (blk_cell BK101.out 0).trans rfl; have hcz43_1 : w42.cell? ⟨gb101, 1, none⟩ = some (.slice A0_1 l0_1.length c0_1) := (blk_cell BK101.out 1).trans rfl; have hfz43_0 := blk_frozen BK101.out 0; have hfz43_1 := blk_frozen BK101.out 1) | (go_at_call 212; (with_reducible refine (spec_l01Side.calls a0_0 _ _ l0_1 a2 x11_3 a3 false _ ?side1 ?side2 A25.out).mono ?_); (case side1 => exact qz17 HR0_1.out); (case side2 => exact HC0_1.out); rintro e w44 ⟨rfl, hb⟩; have n0_ := Aside0.mk (blk_below (g := gb101) (o := .cells #[.int .i64 a0_0, .slice A0_1 l0_1.length c0_1] 47 (0, 0)) (qz8 BK101.out) hb); have n1_ := Aside0.mk (below_step (qz10 GE101.out) hb); clear BK101; clear HB; have BK101 := n0_; have HB := n1_; clear n0_ n1_; (try clear hb); (try clear hb2); (try clear hk); (try clear hi)))
             go_roundg kj17
             case measure => have := HK1.out; have := HJ6.out; have := HK3.out; have := HJ17.out; omega
             case rel => exact ⟨(x10_3), (wrap64 (x11_3 + 1)), qz2, qz2, H', ⟨qz32 HK1.out HJ6.out HK3.out HJ17.out⟩, ⟨qz8 BK101.out⟩, ⟨qz10 GE101.out⟩⟩
           ·replace c24 := Bool.eq_false_iff.mpr c24
            subst c24
            have H1 : (spec_l01Bound.l1 kj17 a1 a2 a3 x9_1 x10_3 (wrap64 (x11_3 + 1)) a0_0 l0_1) = some r := by rw [if_neg (show ¬ (false = true) by decide)] at H; exact H
            clear H
            have H := H1
            clear H1
            have H' := Aside0.mk H
            clear H
            have hcz45_0 : wc.cell? ⟨gb101, 0, none⟩ = some (.int .i64 a0_0) := (blk_cell BK101.out 0).trans rfl
            have hcz45_1 : wc.cell? ⟨gb101, 1, none⟩ = some (.slice A0_1 l0_1.length c0_1) := (blk_cell BK101.out 1).trans rfl
            have hfz45_0 := blk_frozen BK101.out 0
            have hfz45_1 := blk_frozen BK101.out 1
            go_wp2_with (first | ((with_reducible refine gate_callee (f := 212) rfl ?_); refine goesL_ (some 43) rfl rfl Try.func212 (by kernel_rfl) rfl #[.agg #[.int .i64 a0_0, .slice A0_1 l0_1.length c0_1], .int .i64 a1, .int .i64 x11_3, .bool a3] rfl qz1 ?_; (with_reducible refine (spec_l01Side.calls a0_0 _ _ l0_1 a1 x11_3 a3 false _ ?side1 ?side2 A23.out).mono ?_); (case side1 => exact qz17 HR0_1.out); (case side2 => exact HC0_1.out); rintro e w46 ⟨rfl, hb⟩; refine ⟨_, rfl, ?_⟩; have n0_ := Aside0.mk (blk_below (g := gb101) (o := .cells #[.int .i64 a0_0, .slice A0_1 l0_1.length c0_1] 47 (0, 0)) (qz8 BK101.out) hb); have n1_ := Aside0.mk (below_step (qz10 GE101.out) hb); clear BK101; clear HB; have BK101 := n0_; have HB := n1_; clear n0_ n1_; (try clear hb); (try clear hb2); (try clear hk); (try clear hi)))
            go_roundg kj17
            case measure => have := HK1.out; have := HJ6.out; have := HK3.out; have := HJ17.out; omega
            case rel => exact ⟨(x10_3), (wrap64 (x11_3 + 1)), qz2, qz2, H', ⟨qz32 HK1.out HJ6.out HK3.out HJ17.out⟩, ⟨qz8 BK101.out⟩, ⟨qz10 GE101.out⟩⟩
          ·replace c22 := Bool.eq_false_iff.mpr c22
           subst c22
           have H1 : (if x10_3 = true then (some x9_1) else (spec_l01Bound.l0 kj17 a1 a2 a3 (wrap64 (x9_1 + 1)) a0_0 l0_1)) = some r := by rw [if_neg (show ¬ (false = true) by decide)] at H; exact H
           clear H
           have H := H1
           clear H1
           by_cases c47 : x10_3 = true
           ·subst c47
            have H1 : (some x9_1) = some r := by rw [if_pos rfl] at H; exact H
            clear H
            have H := H1
            clear H1
            obtain rfl := Option.some.inj H
            go_wp2
            go_ret
            exact ⟨qz13, qz10 GE101.out⟩
           ·replace c47 := Bool.eq_false_iff.mpr c47
            subst c47
            have H1 : (spec_l01Bound.l0 kj17 a1 a2 a3 (wrap64 (x9_1 + 1)) a0_0 l0_1) = some r := by rw [if_neg (show ¬ (false = true) by decide)] at H; exact H
            clear H
            have H := H1
            clear H1
            have H' := Aside0.mk H
            clear H
            go_wp2
            go_roundg kj17
            case measure => have := HK1.out; have := HJ6.out; have := HK3.out; have := HJ17.out; omega
            case rel => exact ⟨(wrap64 (x9_1 + 1)), qz2, H', ⟨qz32 HK1.out HJ6.out HK3.out HJ17.out⟩, ⟨qz8 BK101.out⟩, ⟨qz10 GE101.out⟩⟩
   ·rw [if_neg c6] at H
    have c6b0 : decide (x9_1 < a0_0) = false := decide_eq_false c6
    clear c6
    obtain rfl := Option.some.inj H
    have hcz48_0 : wr.cell? ⟨gb101, 0, none⟩ = some (.int .i64 a0_0) := (blk_cell BK101.out 0).trans rfl
    have hcz48_1 : wr.cell? ⟨gb101, 1, none⟩ = some (.slice A0_1 l0_1.length c0_1) := (blk_cell BK101.out 1).trans rfl
    have hfz48_0 := blk_frozen BK101.out 0
    have hfz48_1 := blk_frozen BK101.out 1
    go_wp2
    go_ret
    exact ⟨qz13, qz10 GE101.out⟩

end Go.Proofs.Ytjhfjnknajhanaa.P

namespace Go.Proofs.Ytjhfjnknajhanaa.P
open Go.RowKit Go.Proofs.YtjhfjnknajhanaaW.PrintWords Go.Proofs.YtjhfjnknajhanaaW.PrintLast Go.Proofs.YtjhfjnknajhanaaW.PrintMore
attribute [local go_sem] max2_int min2_int max_two min_two max_three min_three max_four min_four   -- for this text's walks alone
set_option linter.unusedVariables false
set_option linter.unusedSimpArgs false

/-! ### spec_l01Power: function 121 -/
set_option maxHeartbeats 8000000 in
set_option maxRecDepth 100000 in
theorem spec_l01Power.calls (k : Nat) (a0 : Int) (r : Int) (w : World) (h : spec_l01Power.f k a0 = some r) :
  Calls Try.prog 121 #[.int .i64 a0] w fun e w' => e = .returned (.int .u64 r) ∧ Drawn0 w w' := by
 have H : (spec_l01Power.l0 k a0 1) = some r := h
 clear h
 have H' := Aside0.mk H
 clear H
 go_enter Try.func121, Try.ntmps121
 go_wp2
 go_loopg [0, 3] k (fun kq v0 v3 w' => ∃ (x0_1 : Int) (x3_1 : Int), v0 = .int .i64 x0_1 ∧ v3 = .int .u64 x3_1 ∧ Aside0 (spec_l01Power.l0 kq x0_1 x3_1 = some r) ∧ Aside0 (kq ≤ k) ∧ Drawn0 w w')
 case atStart => exact ⟨(a0), (1), qz2, qz2, H', ⟨Nat.le_refl _⟩, qz3⟩
 case round =>
  clear H'
  try clear c1
  obtain ⟨x0_1, x3_1, rfl, rfl, HA, HK1, ⟨m1, rfl⟩⟩ := hrel
  cases gk with
  | zero => exact absurd HA.out (by simp [spec_l01Power.l0])
  | succ k1 =>
   have H := HA.out
   clear HA
   simp only [spec_l01Power.l0] at H
   by_cases c2 : x0_1 > 0
   ·rw [if_pos c2] at H
    have c2b0 : decide (0 < x0_1) = true := decide_eq_true c2
    clear c2
    have H' := Aside0.mk H
    clear H
    go_wp2
    go_roundg k1
    case measure => have := HK1.out; omega
    case rel => exact ⟨(wrap64 (x0_1 - 1)), (IntKind.u64.wrap (2 * x3_1)), qz2, qz2, H', ⟨by have := HK1.out; omega⟩, qz3⟩
   ·rw [if_neg c2] at H
    have c2b0 : decide (0 < x0_1) = false := decide_eq_false c2
    clear c2
    obtain rfl := Option.some.inj H
    go_wp2
    go_ret
    exact ⟨qz2, qz3⟩

end Go.Proofs.Ytjhfjnknajhanaa.P
