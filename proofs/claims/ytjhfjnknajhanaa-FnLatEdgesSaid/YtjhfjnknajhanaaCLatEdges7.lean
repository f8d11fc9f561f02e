/- Part 7 of 9 of the proof of FnLatEdges: functions on lists and numbers, contracts of Go functions, plain lemmas. -/
import Derived.Test.YtjhfjnknajhanaaCLatEdges5
import Derived.Test.YtjhfjnknajhanaaCLatEdges6
namespace Go.Proofs.Ytjhfjnknajhanaa.P
open Go.RowKit Go.Proofs.YtjhfjnknajhanaaW.PrintWords Go.Proofs.YtjhfjnknajhanaaW.PrintLast Go.Proofs.YtjhfjnknajhanaaW.PrintMore
attribute [local go_sem] max2_int min2_int max_two min_two max_three min_three max_four min_four   -- for this text's walks alone
set_option linter.unusedVariables false
set_option linter.unusedSimpArgs false

/-! ### spec_LatOk: function 30 -/
set_option maxHeartbeats 8000000 in
set_option maxRecDepth 100000 in
theorem spec_LatOk.calls (k : Nat) (a0_0 : Int) (A0_1 : Option Addr) (c0_1 : Nat) (l0_1 : List Int) (r : Bool) (w : World) (hr0_1 : Kd.C (Kd.int .u64) w A0_1 l0_1.length l0_1) (hc0_1 : l0_1.length ≤ c0_1) (h : spec_LatOk.f k a0_0 l0_1 = some r) :
  Calls Try.prog 30 #[.agg #[.int .i64 a0_0, .slice A0_1 l0_1.length c0_1]] w fun e w' => e = .returned (.bool r) ∧ Below w.heap.size w w' := by
 have hu47 := Try.underlying47
 have HR0_1 := Aside0.mk hr0_1
 have HC0_1 := Aside0.mk hc0_1
 clear hr0_1 hc0_1
 have HB := Aside0.mk (Below.refl w.heap.size w)
 have H : (if a0_0 < 1 then (spec_LatOk.j0 k true a0_0 l0_1) else (if a0_0 > 16 then (spec_LatOk.j0 k true a0_0 l0_1) else (spec_LatOk.j0 k ((l0_1.length : Int) != a0_0) a0_0 l0_1))) = some r := h
 clear h
 have HC2 := Aside0.mk H
 clear H
 go_enter Try.func30, Try.ntmps30
 go_upto_region 1 with (first | ((with_reducible refine gate_dst (N := 1) rfl ?_); (try (refine gate_guard (by rfl) ?_; dsimp only)); refine box_event ?hg (N := 1) ?hd (cs := #[.int .i64 a0_0, .slice A0_1 l0_1.length c0_1]) (t := 47) ?hr ?_; (case hd => rfl); (case hg => rfl); (case hr => exact qz5); intro gb101 hg w3 hbox hb; have n0_ := Aside0.mk (below_step qz6 hb); have n1_ := Aside0.mk (hbox); have n2_ := Aside0.mk ((qz7 : w.heap.size ≤ gb101)); have n3_ := Aside0.mk ((qz7 : w.heap.size ≤ gb101)); clear HB; have HB := n0_; have BK101 := n1_; have GW101 := n2_; have GE101 := n3_; clear n0_ n1_ n2_ n3_; clear hb hbox hg))
 repeat (go_quiet (first | ((with_reducible refine gate_dst (N := 1) rfl ?_); (try (refine gate_guard (by rfl) ?_; dsimp only)); refine box_event ?hg (N := 1) ?hd (cs := #[.int .i64 a0_0, .slice A0_1 l0_1.length c0_1]) (t := 47) ?hr ?_; (case hd => rfl); (case hg => rfl); (case hr => exact qz5); intro gb101 hg w3 hbox hb; have n0_ := Aside0.mk (below_step qz6 hb); have n1_ := Aside0.mk (hbox); have n2_ := Aside0.mk ((qz7 : w.heap.size ≤ gb101)); have n3_ := Aside0.mk ((qz7 : w.heap.size ≤ gb101)); clear HB; have HB := n0_; have BK101 := n1_; have GW101 := n2_; have GE101 := n3_; clear n0_ n1_ n2_ n3_; clear hb hbox hg)); go_upto_region 1 with (first | ((with_reducible refine gate_dst (N := 1) rfl ?_); (try (refine gate_guard (by rfl) ?_; dsimp only)); refine box_event ?hg (N := 1) ?hd (cs := #[.int .i64 a0_0, .slice A0_1 l0_1.length c0_1]) (t := 47) ?hr ?_; (case hd => rfl); (case hg => rfl); (case hr => exact qz5); intro gb101 hg w3 hbox hb; have n0_ := Aside0.mk (below_step qz6 hb); have n1_ := Aside0.mk (hbox); have n2_ := Aside0.mk ((qz7 : w.heap.size ≤ gb101)); have n3_ := Aside0.mk ((qz7 : w.heap.size ≤ gb101)); clear HB; have HB := n0_; have BK101 := n1_; have GW101 := n2_; have GE101 := n3_; clear n0_ n1_ n2_ n3_; clear hb hbox hg)))
 (try simp only [Act.put, List.setIfInBounds_toArray, List.set_cons_zero, List.set_cons_succ])
 go_cut [23] (fun v23 wc => ∃ (kq : Nat) (x23_1 : Bool), v23 = .bool x23_1 ∧ Aside0 (spec_LatOk.j0 kq x23_1 a0_0 l0_1 = some r) ∧ Aside0 (kq ≤ k) ∧ Aside0 (wc.heap[gb101]? = some (.cells #[.int .i64 a0_0, (.slice A0_1 l0_1.length c0_1)] 47 (0, 0))) ∧ Aside0 (Below w.heap.size w wc))
 case first =>
  have H := HC2.out
  clear HC2
  by_cases c4 : a0_0 < 1
  ·rw [if_pos c4] at H
   have c4b0 : decide (a0_0 < 1) = true := decide_eq_true c4
   clear c4
   (first | rw [c4b0] | (simp only [i64_w, i32_w]; rw [c4b0]) | skip)
   have H' := Aside0.mk H
   clear H
   have hcz5_0 : w3.cell? ⟨gb101, 0, none⟩ = some (.int .i64 a0_0) := (blk_cell BK101.out 0).trans rfl
   have hcz5_1 : w3.cell? ⟨gb101, 1, none⟩ = some (.slice A0_1 l0_1.length c0_1) := (blk_cell BK101.out 1).trans rfl
   have hfz5_0 := blk_frozen BK101.out 0
   have hfz5_1 := blk_frozen BK101.out 1
   go_wp2
   repeat (go_quiet (fail); try go_wp2)
   go_meet
   case rel => exact ⟨_, (true), qz2, H', ⟨qz36⟩, ⟨qz8 BK101.out⟩, ⟨qz10 GE101.out⟩⟩
  ·rw [if_neg c4] at H
   have c4b0 : decide (a0_0 < 1) = false := decide_eq_false c4
   clear c4
   (first | rw [c4b0] | (simp only [i64_w, i32_w]; rw [c4b0]) | skip)
   by_cases c6 : a0_0 > 16
   ·rw [if_pos c6] at H
    have c6b0 : decide (16 < a0_0) = true := decide_eq_true c6
    clear c6
    have H' := Aside0.mk H
    clear H
    have hcz7_0 : w3.cell? ⟨gb101, 0, none⟩ = some (.int .i64 a0_0) := (blk_cell BK101.out 0).trans rfl
    have hcz7_1 : w3.cell? ⟨gb101, 1, none⟩ = some (.slice A0_1 l0_1.length c0_1) := (blk_cell BK101.out 1).trans rfl
    have hfz7_0 := blk_frozen BK101.out 0
    have hfz7_1 := blk_frozen BK101.out 1
    go_wp2
    repeat (go_quiet (fail); try go_wp2)
    go_meet
    case rel => exact ⟨_, (true), qz2, H', ⟨qz36⟩, ⟨qz8 BK101.out⟩, ⟨qz10 GE101.out⟩⟩
   ·rw [if_neg c6] at H
    have c6b0 : decide (16 < a0_0) = false := decide_eq_false c6
    clear c6
    have H' := Aside0.mk H
    clear H
    have hcz8_0 : w3.cell? ⟨gb101, 0, none⟩ = some (.int .i64 a0_0) := (blk_cell BK101.out 0).trans rfl
    have hcz8_1 : w3.cell? ⟨gb101, 1, none⟩ = some (.slice A0_1 l0_1.length c0_1) := (blk_cell BK101.out 1).trans rfl
    have hfz8_0 := blk_frozen BK101.out 0
    have hfz8_1 := blk_frozen BK101.out 1
    go_wp2
    repeat (go_quiet (fail); try go_wp2)
    go_meet
    case rel => exact ⟨_, (((l0_1.length : Int) != a0_0)), qz2, H', ⟨qz36⟩, ⟨qz8 BK101.out⟩, ⟨qz10 GE101.out⟩⟩
 case rest =>
  clear HC2
  try clear p2
  try clear c3
  try clear c4
  try clear c4b0
  try clear c6
  try clear c6b0
  try clear hcz5_0
  try clear hcz5_1
  try clear hcz7_0
  try clear hcz7_1
  try clear hcz8_0
  try clear hcz8_1
  try clear hfz5_0
  try clear hfz5_1
  try clear hfz7_0
  try clear hfz7_1
  try clear hfz8_0
  try clear hfz8_1
  obtain ⟨kq, x23_1, rfl, HA, HJ1, BK101, HB⟩ := hcut
  cases kq with
  | zero => exact absurd HA.out (by simp [spec_LatOk.j0])
  | succ kj1 =>
   have H := HA.out
   clear HA
   simp only [spec_LatOk.j0] at H
   by_cases c9 : x23_1 = true
   ·subst c9
    have H1 : (some false) = some r := by rw [if_pos rfl] at H; exact H
    clear H
    have H := H1
    clear H1
    obtain rfl := Option.some.inj H
    go_wp2
    repeat (go_quiet (fail); try go_wp2)
    go_ret
    exact ⟨qz13, qz10 GE101.out⟩
   ·replace c9 := Bool.eq_false_iff.mpr c9
    subst c9
    have H1 : (spec_LatOk.l0 kj1 0 a0_0 l0_1) = some r := by rw [if_neg (show ¬ (false = true) by decide)] at H; exact H
    clear H
    have H := H1
    clear H1
    have H' := Aside0.mk H
    clear H
    go_wp2
    repeat (go_quiet (fail); try go_wp2)
    go_loopg [3] kj1 (fun kq v3 w' => ∃ (x3_2 : Int), v3 = .int .i64 x3_2 ∧ Aside0 (spec_LatOk.l0 kq x3_2 a0_0 l0_1 = some r) ∧ Aside0 (kq ≤ kj1) ∧ Aside0 (w'.heap[gb101]? = some (.cells #[.int .i64 a0_0, (.slice A0_1 l0_1.length c0_1)] 47 (0, 0))) ∧ Aside0 (Below w.heap.size w w'))
    case atStart => exact ⟨(0), qz2, H', ⟨Nat.le_refl _⟩, ⟨qz8 BK101.out⟩, ⟨qz10 GE101.out⟩⟩
    case round =>
     clear H'
     try clear p2
     try clear c3
     try clear c4
     try clear c4b0
     try clear c6
     try clear c6b0
     try clear c9
     try clear hcz5_0
     try clear hcz5_1
     try clear hcz7_0
     try clear hcz7_1
     try clear hcz8_0
     try clear hcz8_1
     try clear hfz5_0
     try clear hfz5_1
     try clear hfz7_0
     try clear hfz7_1
     try clear hfz8_0
     try clear hfz8_1
     try clear p2
     obtain ⟨x3_2, rfl, HA, HK2, BK101, HB⟩ := hrel
     cases gk with
     | zero => exact absurd HA.out (by simp [spec_LatOk.l0])
     | succ k2 =>
      have H := HA.out
      clear HA
      simp only [spec_LatOk.l0] at H
      by_cases c10 : x3_2 < a0_0
      ·rw [if_pos c10] at H
       have c10b0 : decide (x3_2 < a0_0) = true := decide_eq_true c10
       clear c10
       have HC11 := Aside0.mk H
       clear H
       have hcz12_0 : wr.cell? ⟨gb101, 0, none⟩ = some (.int .i64 a0_0) := (blk_cell BK101.out 0).trans rfl
       have hcz12_1 : wr.cell? ⟨gb101, 1, none⟩ = some (.slice A0_1 l0_1.length c0_1) := (blk_cell BK101.out 1).trans rfl
       have hfz12_0 := blk_frozen BK101.out 0
       have hfz12_1 := blk_frozen BK101.out 1
       go_upto_region 6 with (fail)
       repeat (go_quiet (fail); go_upto_region 6 with (fail))
       go_cut [48] (fun v48 wc => ∃ (kq : Nat) (x48_10 : Bool), v48 = .bool x48_10 ∧ Aside0 (spec_LatOk.j2 kq x3_2 x48_10 a0_0 l0_1 = some r) ∧ Aside0 (kq ≤ k2) ∧ Aside0 (wc.heap[gb101]? = some (.cells #[.int .i64 a0_0, (.slice A0_1 l0_1.length c0_1)] 47 (0, 0))) ∧ Aside0 (Below w.heap.size w wc))
       case first =>
        have H := HC11.out
        clear HC11
        by_cases c13 : 0 ≤ x3_2
        ·rw [if_pos c13] at H
         have c13b0 : decide (0 ≤ x3_2) = true := decide_eq_true c13
         clear c13
         (first | rw [c13b0] | (simp only [i64_w, i32_w]; rw [c13b0]) | skip)
         by_cases c14 : x3_2 < (l0_1.length : Int)
         ·rw [if_pos c14] at H
          have c14b0 : decide (x3_2 < (l0_1.length : Int)) = true := decide_eq_true c14
          clear c14
          replace H := Option.bind_eq_some_iff.mp H
          obtain ⟨t103, A150, H⟩ := H
          replace H : (if t103 = true then ((spec_l01Power.f k2 a0_0).bind fun t105 => (spec_LatOk.j2 k2 x3_2 (decide ((rd l0_1 x3_2) ≥ t105)) a0_0 l0_1)) else (spec_LatOk.j2 k2 x3_2 true a0_0 l0_1)) = some r := H
          have A15 := Aside0.mk A150
          clear A150
          by_cases c16 : t103 = true
          ·subst c16
           have H1 : ((spec_l01Power.f k2 a0_0).bind fun t105 => (spec_LatOk.j2 k2 x3_2 (decide ((rd l0_1 x3_2) ≥ t105)) a0_0 l0_1)) = some r := by rw [if_pos rfl] at H; exact H
           clear H
           have H := H1
           clear H1
           replace H := Option.bind_eq_some_iff.mp H
           obtain ⟨t105, A170, H⟩ := H
           replace H : (spec_LatOk.j2 k2 x3_2 (decide ((rd l0_1 x3_2) ≥ t105)) a0_0 l0_1) = some r := H
           have A17 := Aside0.mk A170
           clear A170
           have H' := Aside0.mk H
           clear H
           have hcz18_0 : wr.cell? ⟨gb101, 0, none⟩ = some (.int .i64 a0_0) := (blk_cell BK101.out 0).trans rfl
           have hcz18_1 : wr.cell? ⟨gb101, 1, none⟩ = some (.slice A0_1 l0_1.length c0_1) := (blk_cell BK101.out 1).trans rfl
           have hfz18_0 := blk_frozen BK101.out 0
           have hfz18_1 := blk_frozen BK101.out 1
           have p102 : 0 ≤ (x3_2 : Int) := of_decide_eq_true qz4
           have q102 : x3_2 < (l0_1.length : Int) := of_decide_eq_true qz4
           obtain ⟨ad102, e102, hx102_0⟩ := Kd.at_int HR0_1.out x3_2 p102 q102
           cases e102
           replace hx102_0 := qcb HB hx102_0
           replace p102 := eq_true p102
           replace q102 := eq_true q102
           go_wp2_with (first | (go_at_call 120; (with_reducible refine (spec_l01Bit.calls (rd l0_1 x3_2) x3_2 true _ A15.out).mono ?_); rintro e w' ⟨rfl, ⟨nd, rfl⟩⟩; (try first | exact ⟨rfl, _, World.drewN_drewN _ _ _⟩ | exact ⟨rfl, _, Eq.trans (World.drewN_drewN _ _ _) (congrArg (World.drewN _) (Nat.add_assoc _ _ _))⟩); have p104 : 0 ≤ (x3_2 : Int) := of_decide_eq_true qz4; have q104 : x3_2 < (l0_1.length : Int) := of_decide_eq_true qz4; obtain ⟨ad104, e104, hx104_0⟩ := Kd.at_int HR0_1.out x3_2 p104 q104; obtain rfl : ad102 = ad104 := (by injection e104); replace hx104_0 := qcb HB hx104_0; replace p104 := eq_true p104; replace q104 := eq_true q104) | (go_at_call 121; (with_reducible refine (spec_l01Power.calls k2 a0_0 t105 _ A17.out).mono ?_); rintro e w' ⟨rfl, ⟨nd, rfl⟩⟩; (try first | exact ⟨rfl, _, World.drewN_drewN _ _ _⟩ | exact ⟨rfl, _, Eq.trans (World.drewN_drewN _ _ _) (congrArg (World.drewN _) (Nat.add_assoc _ _ _))⟩)))
           repeat (go_quiet (first | (go_at_call 120; (with_reducible refine (spec_l01Bit.calls (rd l0_1 x3_2) x3_2 true _ A15.out).mono ?_); rintro e w' ⟨rfl, ⟨nd, rfl⟩⟩; (try first | exact ⟨rfl, _, World.drewN_drewN _ _ _⟩ | exact ⟨rfl, _, Eq.trans (World.drewN_drewN _ _ _) (congrArg (World.drewN _) (Nat.add_assoc _ _ _))⟩); have p104 : 0 ≤ (x3_2 : Int) := of_decide_eq_true qz4; have q104 : x3_2 < (l0_1.length : Int) := of_decide_eq_true qz4; obtain ⟨ad104, e104, hx104_0⟩ := Kd.at_int HR0_1.out x3_2 p104 q104; obtain rfl : ad102 = ad104 := (by injection e104); replace hx104_0 := qcb HB hx104_0; replace p104 := eq_true p104; replace q104 := eq_true q104) | (go_at_call 121; (with_reducible refine (spec_l01Power.calls k2 a0_0 t105 _ A17.out).mono ?_); rintro e w' ⟨rfl, ⟨nd, rfl⟩⟩; (try first | exact ⟨rfl, _, World.drewN_drewN _ _ _⟩ | exact ⟨rfl, _, Eq.trans (World.drewN_drewN _ _ _) (congrArg (World.drewN _) (Nat.add_assoc _ _ _))⟩))); try go_wp2_with (first | (go_at_call 120; (with_reducible refine (spec_l01Bit.calls (rd l0_1 x3_2) x3_2 true _ A15.out).mono ?_); rintro e w' ⟨rfl, ⟨nd, rfl⟩⟩; (try first | exact ⟨rfl, _, World.drewN_drewN _ _ _⟩ | exact ⟨rfl, _, Eq.trans (World.drewN_drewN _ _ _) (congrArg (World.drewN _) (Nat.add_assoc _ _ _))⟩); have p104 : 0 ≤ (x3_2 : Int) := of_decide_eq_true qz4; have q104 : x3_2 < (l0_1.length : Int) := of_decide_eq_true qz4; obtain ⟨ad104, e104, hx104_0⟩ := Kd.at_int HR0_1.out x3_2 p104 q104; obtain rfl : ad102 = ad104 := (by injection e104); replace hx104_0 := qcb HB hx104_0; replace p104 := eq_true p104; replace q104 := eq_true q104) | (go_at_call 121; (with_reducible refine (spec_l01Power.calls k2 a0_0 t105 _ A17.out).mono ?_); rintro e w' ⟨rfl, ⟨nd, rfl⟩⟩; (try first | exact ⟨rfl, _, World.drewN_drewN _ _ _⟩ | exact ⟨rfl, _, Eq.trans (World.drewN_drewN _ _ _) (congrArg (World.drewN _) (Nat.add_assoc _ _ _))⟩))))
           go_meet
           case rel => exact ⟨_, (decide ((rd l0_1 x3_2) ≥ t105)), qz2, H', ⟨qz30 HJ1.out HK2.out⟩, ⟨qz8 BK101.out⟩, ⟨qz10 GE101.out⟩⟩
          ·replace c16 := Bool.eq_false_iff.mpr c16
           subst c16
           have H1 : (spec_LatOk.j2 k2 x3_2 true a0_0 l0_1) = some r := by rw [if_neg (show ¬ (false = true) by decide)] at H; exact H
           clear H
           have H := H1
           clear H1
           have H' := Aside0.mk H
           clear H
           have hcz19_0 : wr.cell? ⟨gb101, 0, none⟩ = some (.int .i64 a0_0) := (blk_cell BK101.out 0).trans rfl
           have hcz19_1 : wr.cell? ⟨gb101, 1, none⟩ = some (.slice A0_1 l0_1.length c0_1) := (blk_cell BK101.out 1).trans rfl
           have hfz19_0 := blk_frozen BK101.out 0
           have hfz19_1 := blk_frozen BK101.out 1
           have p102 : 0 ≤ (x3_2 : Int) := of_decide_eq_true qz4
           have q102 : x3_2 < (l0_1.length : Int) := of_decide_eq_true qz4
           obtain ⟨ad102, e102, hx102_0⟩ := Kd.at_int HR0_1.out x3_2 p102 q102
           cases e102
           replace hx102_0 := qcb HB hx102_0
           replace p102 := eq_true p102
           replace q102 := eq_true q102
           go_wp2_with (first | (go_at_call 120; (with_reducible refine (spec_l01Bit.calls (rd l0_1 x3_2) x3_2 false _ A15.out).mono ?_); rintro e w' ⟨rfl, ⟨nd, rfl⟩⟩; (try first | exact ⟨rfl, _, World.drewN_drewN _ _ _⟩ | exact ⟨rfl, _, Eq.trans (World.drewN_drewN _ _ _) (congrArg (World.drewN _) (Nat.add_assoc _ _ _))⟩)))
           repeat (go_quiet (first | (go_at_call 120; (with_reducible refine (spec_l01Bit.calls (rd l0_1 x3_2) x3_2 false _ A15.out).mono ?_); rintro e w' ⟨rfl, ⟨nd, rfl⟩⟩; (try first | exact ⟨rfl, _, World.drewN_drewN _ _ _⟩ | exact ⟨rfl, _, Eq.trans (World.drewN_drewN _ _ _) (congrArg (World.drewN _) (Nat.add_assoc _ _ _))⟩))); try go_wp2_with (first | (go_at_call 120; (with_reducible refine (spec_l01Bit.calls (rd l0_1 x3_2) x3_2 false _ A15.out).mono ?_); rintro e w' ⟨rfl, ⟨nd, rfl⟩⟩; (try first | exact ⟨rfl, _, World.drewN_drewN _ _ _⟩ | exact ⟨rfl, _, Eq.trans (World.drewN_drewN _ _ _) (congrArg (World.drewN _) (Nat.add_assoc _ _ _))⟩))))
           go_meet
           case rel => exact ⟨_, (true), qz2, H', ⟨qz30 HJ1.out HK2.out⟩, ⟨qz8 BK101.out⟩, ⟨qz10 GE101.out⟩⟩
         ·rw [if_neg c14] at H
          exact absurd H (by simp)
        ·rw [if_neg c13] at H
         exact absurd H (by simp)
       case rest =>
        clear HC11
        try clear c1
        try clear p1
        try clear q1
        try clear hx1
        try clear p2
        try clear c3
        try clear c4
        try clear c4b0
        try clear c6
        try clear c6b0
        try clear c9
        try clear c10
        try clear c10b0
        try clear p10
        try clear q10
        try clear hx10
        try clear c13
        try clear c13b0
        try clear c14
        try clear c14b0
        try clear c16
        try clear hcz12_0
        try clear hcz12_1
        try clear hcz18_0
        try clear hcz18_1
        try clear hcz19_0
        try clear hcz19_1
        try clear hcz5_0
        try clear hcz5_1
        try clear hcz7_0
        try clear hcz7_1
        try clear hcz8_0
        try clear hcz8_1
        try clear hfz12_0
        try clear hfz12_1
        try clear hfz18_0
        try clear hfz18_1
        try clear hfz19_0
        try clear hfz19_1
        try clear hfz5_0
        try clear hfz5_1
        try clear hfz7_0
        try clear hfz7_1
        try clear hfz8_0
        try clear hfz8_1
        try clear hx102_0
        try clear hx104_0
        try clear p102
        try clear p104
        try clear p2
        try clear q102
        try clear q104
        obtain ⟨kq, x48_10, rfl, HA, HJ10, BK101, HB⟩ := hcut
        cases kq with
        | zero => exact absurd HA.out (by simp [spec_LatOk.j2])
        | succ kj10 =>
         have H := HA.out
         clear HA
         simp only [spec_LatOk.j2] at H
         by_cases c20 : x48_10 = true
         ·subst c20
          have H1 : (some false) = some r := by rw [if_pos rfl] at H; exact H
          clear H
          have H := H1
          clear H1
          obtain rfl := Option.some.inj H
          go_wp2
          repeat (go_quiet (fail); try go_wp2)
          go_ret
          exact ⟨qz13, qz10 GE101.out⟩
         ·replace c20 := Bool.eq_false_iff.mpr c20
          subst c20
          have H1 : (spec_LatOk.l1 kj10 x3_2 0 a0_0 l0_1) = some r := by rw [if_neg (show ¬ (false = true) by decide)] at H; exact H
          clear H
          have H := H1
          clear H1
          have H' := Aside0.mk H
          clear H
          go_wp2
          repeat (go_quiet (fail); try go_wp2)
          go_loopg [4] kj10 (fun kq v4 w' => ∃ (x4_4 : Int), v4 = .int .i64 x4_4 ∧ Aside0 (spec_LatOk.l1 kq x3_2 x4_4 a0_0 l0_1 = some r) ∧ Aside0 (kq ≤ kj10) ∧ Aside0 (w'.heap[gb101]? = some (.cells #[.int .i64 a0_0, (.slice A0_1 l0_1.length c0_1)] 47 (0, 0))) ∧ Aside0 (Below w.heap.size w w'))
          case atStart => exact ⟨(0), qz2, H', ⟨Nat.le_refl _⟩, ⟨qz8 BK101.out⟩, ⟨qz10 GE101.out⟩⟩
          case round =>
           clear H'
           try clear c1
           try clear p1
           try clear q1
           try clear hx1
           try clear c2
           try clear p2
           try clear c3
           try clear c4
           try clear c4b0
           try clear c6
           try clear c6b0
           try clear c9
           try clear c10
           try clear c10b0
           try clear p10
           try clear q10
           try clear hx10
           try clear c13
           try clear c13b0
           try clear c14
           try clear c14b0
           try clear c16
           try clear c20
           try clear hcz12_0
           try clear hcz12_1
           try clear hcz18_0
           try clear hcz18_1
           try clear hcz19_0
           try clear hcz19_1
           try clear hcz5_0
           try clear hcz5_1
           try clear hcz7_0
           try clear hcz7_1
           try clear hcz8_0
           try clear hcz8_1
           try clear hfz12_0
           try clear hfz12_1
           try clear hfz18_0
           try clear hfz18_1
           try clear hfz19_0
           try clear hfz19_1
           try clear hfz5_0
           try clear hfz5_1
           try clear hfz7_0
           try clear hfz7_1
           try clear hfz8_0
           try clear hfz8_1
           try clear hx102_0
           try clear hx104_0
           try clear p1
           try clear p10
           try clear p102
           try clear p104
           try clear p2
           try clear q1
           try clear q10
           try clear q102
           try clear q104
           obtain ⟨x4_4, rfl, HA, HK4, BK101, HB⟩ := hrel
           cases gk with
           | zero => exact absurd HA.out (by simp [spec_LatOk.l1])
           | succ k4 =>
            have H := HA.out
            clear HA
            simp only [spec_LatOk.l1] at H
            by_cases c21 : x4_4 < a0_0
            ·rw [if_pos c21] at H
             have c21b0 : decide (x4_4 < a0_0) = true := decide_eq_true c21
             clear c21
             have HC22 := Aside0.mk H
             clear H
             have hcz23_0 : wr.cell? ⟨gb101, 0, none⟩ = some (.int .i64 a0_0) := (blk_cell BK101.out 0).trans rfl
             have hcz23_1 : wr.cell? ⟨gb101, 1, none⟩ = some (.slice A0_1 l0_1.length c0_1) := (blk_cell BK101.out 1).trans rfl
             have hfz23_0 := blk_frozen BK101.out 0
             have hfz23_1 := blk_frozen BK101.out 1
             go_upto_region 11 with (fail)
             repeat (go_quiet (fail); go_upto_region 11 with (fail))
             go_cut [75] (fun v75 wc => ∃ (kq : Nat) (x75_21 : Bool), v75 = .bool x75_21 ∧ Aside0 (spec_LatOk.j4 kq x3_2 x4_4 x75_21 a0_0 l0_1 = some r) ∧ Aside0 (kq ≤ k4) ∧ Aside0 (wc.heap[gb101]? = some (.cells #[.int .i64 a0_0, (.slice A0_1 l0_1.length c0_1)] 47 (0, 0))) ∧ Aside0 (Below w.heap.size w wc))
             case first =>
              have H := HC22.out
              clear HC22
              by_cases c24 : x3_2 = x4_4
              ·rw [if_pos c24] at H
               have c24b0 : (x3_2 == x4_4) = true := beq_iff_eq.mpr c24
               have c24b1 : (x3_2 != x4_4) = false := bne_eq_false_iff_eq.mpr c24
               clear c24
               (first | rw [c24b0] | (simp only [i64_w, i32_w]; rw [c24b0]) | skip)
               have H' := Aside0.mk H
               clear H
               go_wp2
               repeat (go_quiet (fail); try go_wp2)
               go_meet
               case rel => exact ⟨_, (false), qz2, H', ⟨qz358 HJ1.out HK2.out HJ10.out HK4.out⟩, ⟨qz8 BK101.out⟩, ⟨qz10 GE101.out⟩⟩
              ·rw [if_neg c24] at H
               have c24b0 : (x3_2 == x4_4) = false := beq_eq_false_iff_ne.mpr c24
               have c24b1 : (x3_2 != x4_4) = true := bne_iff_ne.mpr c24
               (first | rw [c24b0] | (simp only [i64_w, i32_w]; rw [c24b0]) | skip)
               by_cases c25 : 0 ≤ x3_2
               ·rw [if_pos c25] at H
                have c25b0 : decide (0 ≤ x3_2) = true := decide_eq_true c25
                clear c25
                by_cases c26 : x3_2 < (l0_1.length : Int)
                ·rw [if_pos c26] at H
                 have c26b0 : decide (x3_2 < (l0_1.length : Int)) = true := decide_eq_true c26
                 clear c26
                 replace H := Option.bind_eq_some_iff.mp H
                 obtain ⟨t107, A270, H⟩ := H
                 replace H : (if t107 = true then (if 0 ≤ x4_4 then (if x4_4 < (l0_1.length : Int) then ((spec_l01Bit.f (rd l0_1 x4_4) x3_2).bind fun t109 => (spec_LatOk.j4 k4 x3_2 x4_4 t109 a0_0 l0_1)) else (none)) else (none)) else (spec_LatOk.j4 k4 x3_2 x4_4 false a0_0 l0_1)) = some r := H
                 have A27 := Aside0.mk A270
                 clear A270
                 by_cases c28 : t107 = true
                 ·subst c28
                  have H1 : (if 0 ≤ x4_4 then (if x4_4 < (l0_1.length : Int) then ((spec_l01Bit.f (rd l0_1 x4_4) x3_2).bind fun t109 => (spec_LatOk.j4 k4 x3_2 x4_4 t109 a0_0 l0_1)) else (none)) else (none)) = some r := by rw [if_pos rfl] at H; exact H
                  clear H
                  have H := H1
                  clear H1
                  by_cases c29 : 0 ≤ x4_4
                  ·rw [if_pos c29] at H
                   have c29b0 : decide (0 ≤ x4_4) = true := decide_eq_true c29
                   clear c29
                   by_cases c30 : x4_4 < (l0_1.length : Int)
                   ·rw [if_pos c30] at H
                    have c30b0 : decide (x4_4 < (l0_1.length : Int)) = true := decide_eq_true c30
                    clear c30
                    replace H := Option.bind_eq_some_iff.mp H
                    obtain ⟨t109, A310, H⟩ := H
                    replace H : (spec_LatOk.j4 k4 x3_2 x4_4 t109 a0_0 l0_1) = some r := H
                    have A31 := Aside0.mk A310
                    clear A310
                    have H' := Aside0.mk H
                    clear H
                    have hcz32_0 : wr.cell? ⟨gb101, 0, none⟩ = some (.int .i64 a0_0) := (blk_cell BK101.out 0).trans rfl
                    have hcz32_1 : wr.cell? ⟨gb101, 1, none⟩ = some (.slice A0_1 l0_1.length c0_1) := (blk_cell BK101.out 1).trans rfl
                    have hfz32_0 := blk_frozen BK101.out 0
                    have hfz32_1 := blk_frozen BK101.out 1
                    have p106 : 0 ≤ (x3_2 : Int) := of_decide_eq_true qz4
                    have q106 : x3_2 < (l0_1.length : Int) := of_decide_eq_true qz4
                    obtain ⟨ad106, e106, hx106_0⟩ := Kd.at_int HR0_1.out x3_2 p106 q106
                    cases e106
                    replace hx106_0 := qcb HB hx106_0
                    replace p106 := eq_true p106
                    replace q106 := eq_true q106
                    go_wp2_with (first | (go_at_call 120; (with_reducible refine (spec_l01Bit.calls (rd l0_1 x3_2) x4_4 true _ A27.out).mono ?_); rintro e w' ⟨rfl, ⟨nd, rfl⟩⟩; (try first | exact ⟨rfl, _, World.drewN_drewN _ _ _⟩ | exact ⟨rfl, _, Eq.trans (World.drewN_drewN _ _ _) (congrArg (World.drewN _) (Nat.add_assoc _ _ _))⟩); have p108 : 0 ≤ (x4_4 : Int) := of_decide_eq_true qz4; have q108 : x4_4 < (l0_1.length : Int) := of_decide_eq_true qz4; obtain ⟨ad108, e108, hx108_0⟩ := Kd.at_int HR0_1.out x4_4 p108 q108; obtain rfl : ad106 = ad108 := (by injection e108); replace hx108_0 := qcb HB hx108_0; replace p108 := eq_true p108; replace q108 := eq_true q108) | (go_at_call 120; (with_reducible refine (spec_l01Bit.calls (rd l0_1 x4_4) x3_2 t109 _ A31.out).mono ?_); rintro e w' ⟨rfl, ⟨nd, rfl⟩⟩; (try first | exact ⟨rfl, _, World.drewN_drewN _ _ _⟩ | exact ⟨rfl, _, Eq.trans (World.drewN_drewN _ _ _) (congrArg (World.drewN _) (Nat.add_assoc _ _ _))⟩)))
                    repeat (go_quiet (first | (go_at_call 120; (with_reducible refine (spec_l01Bit.calls (rd l0_1 x3_2) x4_4 true _ A27.out).mono ?_); rintro e w' ⟨rfl, ⟨nd, rfl⟩⟩; (try first | exact ⟨rfl, _, World.drewN_drewN _ _ _⟩ | exact ⟨rfl, _, Eq.trans (World.drewN_drewN _ _ _) (congrArg (World.drewN _) (Nat.add_assoc _ _ _))⟩); have p108 : 0 ≤ (x4_4 : Int) := of_decide_eq_true qz4; have q108 : x4_4 < (l0_1.length : Int) := of_decide_eq_true qz4; obtain ⟨ad108, e108, hx108_0⟩ := Kd.at_int HR0_1.out x4_4 p108 q108; obtain rfl : ad106 = ad108 := (by injection e108); replace hx108_0 := qcb HB hx108_0; replace p108 := eq_true p108; replace q108 := eq_true q108) | (go_at_call 120; (with_reducible refine (spec_l01Bit.calls (rd l0_1 x4_4) x3_2 t109 _ A31.out).mono ?_); rintro e w' ⟨rfl, ⟨nd, rfl⟩⟩; (try first | exact ⟨rfl, _, World.drewN_drewN _ _ _⟩ | exact ⟨rfl, _, Eq.trans (World.drewN_drewN _ _ _) (congrArg (World.drewN _) (Nat.add_assoc _ _ _))⟩))); try go_wp2_with (first | (go_at_call 120; (with_reducible refine (spec_l01Bit.calls (rd l0_1 x3_2) x4_4 true _ A27.out).mono ?_); rintro e w' ⟨rfl, ⟨nd, rfl⟩⟩; (try first | exact ⟨rfl, _, World.drewN_drewN _ _ _⟩ | exact ⟨rfl, _, Eq.trans (World.drewN_drewN _ _ _) (congrArg (World.drewN _) (Nat.add_assoc _ _ _))⟩); have p108 : 0 ≤ (x4_4 : Int) := of_decide_eq_true qz4; have q108 : x4_4 < (l0_1.length : Int) := of_decide_eq_true qz4; obtain ⟨ad108, e108, hx108_0⟩ := Kd.at_int HR0_1.out x4_4 p108 q108; obtain rfl : ad106 = ad108 := (by injection e108); replace hx108_0 := qcb HB hx108_0; replace p108 := eq_true p108; replace q108 := eq_true q108) | (go_at_call 120; (with_reducible refine (spec_l01Bit.calls (rd l0_1 x4_4) x3_2 t109 _ A31.out).mono ?_); rintro e w' ⟨rfl, ⟨nd, rfl⟩⟩; (try first | exact ⟨rfl, _, World.drewN_drewN _ _ _⟩ | exact ⟨rfl, _, Eq.trans (World.drewN_drewN _ _ _) (congrArg (World.drewN _) (Nat.add_assoc _ _ _))⟩))))
                    go_meet
                    case rel => exact ⟨_, (t109), qz2, H', ⟨qz358 HJ1.out HK2.out HJ10.out HK4.out⟩, ⟨qz8 BK101.out⟩, ⟨qz10 GE101.out⟩⟩
                   ·rw [if_neg c30] at H
                    exact absurd H (by simp)
                  ·rw [if_neg c29] at H
                   exact absurd H (by simp)
                 ·replace c28 := Bool.eq_false_iff.mpr c28
                  subst c28
                  have H1 : (spec_LatOk.j4 k4 x3_2 x4_4 false a0_0 l0_1) = some r := by rw [if_neg (show ¬ (false = true) by decide)] at H; exact H
                  clear H
                  have H := H1
                  clear H1
                  have H' := Aside0.mk H
                  clear H
                  have hcz33_0 : wr.cell? ⟨gb101, 0, none⟩ = some (.int .i64 a0_0) := (blk_cell BK101.out 0).trans rfl
                  have hcz33_1 : wr.cell? ⟨gb101, 1, none⟩ = some (.slice A0_1 l0_1.length c0_1) := (blk_cell BK101.out 1).trans rfl
                  have hfz33_0 := blk_frozen BK101.out 0
                  have hfz33_1 := blk_frozen BK101.out 1
                  have p106 : 0 ≤ (x3_2 : Int) := of_decide_eq_true qz4
                  have q106 : x3_2 < (l0_1.length : Int) := of_decide_eq_true qz4
                  obtain ⟨ad106, e106, hx106_0⟩ := Kd.at_int HR0_1.out x3_2 p106 q106
                  cases e106
                  replace hx106_0 := qcb HB hx106_0
                  replace p106 := eq_true p106
                  replace q106 := eq_true q106
                  go_wp2_with (first | (go_at_call 120; (with_reducible refine (spec_l01Bit.calls (rd l0_1 x3_2) x4_4 false _ A27.out).mono ?_); rintro e w' ⟨rfl, ⟨nd, rfl⟩⟩; (try first | exact ⟨rfl, _, World.drewN_drewN _ _ _⟩ | exact ⟨rfl, _, Eq.trans (World.drewN_drewN _ _ _) (congrArg (World.drewN _) (Nat.add_assoc _ _ _))⟩)))
                  repeat (go_quiet (first | (go_at_call 120; (with_reducible refine (spec_l01Bit.calls (rd l0_1 x3_2) x4_4 false _ A27.out).mono ?_); rintro e w' ⟨rfl, ⟨nd, rfl⟩⟩; (try first | exact ⟨rfl, _, World.drewN_drewN _ _ _⟩ | exact ⟨rfl, _, Eq.trans (World.drewN_drewN _ _ _) (congrArg (World.drewN _) (Nat.add_assoc _ _ _))⟩))); try go_wp2_with (first | (go_at_call 120; (with_reducible refine (spec_l01Bit.calls (rd l0_1 x3_2) x4_4 false _ A27.out).mono ?_); rintro e w' ⟨rfl, ⟨nd, rfl⟩⟩; (try first | exact ⟨rfl, _, World.drewN_drewN _ _ _⟩ | exact ⟨rfl, _, Eq.trans (World.drewN_drewN _ _ _) (congrArg (World.drewN _) (Nat.add_assoc _ _ _))⟩))))
                  go_meet
                  case rel => exact ⟨_, (false), qz2, H', ⟨qz358 HJ1.out HK2.out HJ10.out HK4.out⟩, ⟨qz8 BK101.out⟩, ⟨qz10 GE101.out⟩⟩
                ·rw [if_neg c26] at H
                 exact absurd H (by simp)
               ·rw [if_neg c25] at H
                exact absurd H (by simp)
             case rest =>
              clear HC22
              try clear c1
              try clear p1
              try clear q1
              try clear hx1
              try clear c2
              try clear p2
              try clear c3
              try clear c4
              try clear c4b0
              try clear c6
              try clear c6b0
              try clear c9
              try clear c10
              try clear c10b0
              try clear p10
              try clear q10
              try clear hx10
              try clear c13
              try clear c13b0
              try clear c14
              try clear c14b0
              try clear c16
              try clear c20
              try clear c21
              try clear c21b0
              try clear c24
              try clear c24b0
              try clear c24b1
              try clear c25
              try clear c25b0
              try clear c26
              try clear c26b0
              try clear c28
              try clear c29
              try clear c29b0
              try clear c30
              try clear c30b0
              try clear hcz12_0
              try clear hcz12_1
              try clear hcz18_0
              try clear hcz18_1
              try clear hcz19_0
              try clear hcz19_1
              try clear hcz23_0
              try clear hcz23_1
              try clear hcz32_0
              try clear hcz32_1
              try clear hcz33_0
              try clear hcz33_1
              try clear hcz5_0
              try clear hcz5_1
              try clear hcz7_0
              try clear hcz7_1
              try clear hcz8_0
              try clear hcz8_1
              try clear hfz12_0
              try clear hfz12_1
              try clear hfz18_0
              try clear hfz18_1
              try clear hfz19_0
              try clear hfz19_1
              try clear hfz23_0
              try clear hfz23_1
              try clear hfz32_0
              try clear hfz32_1
              try clear hfz33_0
              try clear hfz33_1
              try clear hfz5_0
              try clear hfz5_1
              try clear hfz7_0
              try clear hfz7_1
              try clear hfz8_0
              try clear hfz8_1
              try clear hx102_0
              try clear hx104_0
              try clear hx106_0
              try clear hx108_0
              try clear p1
              try clear p10
              try clear p102
              try clear p104
              try clear p106
              try clear p108
              try clear p2
              try clear q1
              try clear q10
              try clear q102
              try clear q104
              try clear q106
              try clear q108
              obtain ⟨kq, x75_21, rfl, HA, HJ21, BK101, HB⟩ := hcut
              cases kq with
              | zero => exact absurd HA.out (by simp [spec_LatOk.j4])
              | succ kj21 =>
               have H := HA.out
               clear HA
               simp only [spec_LatOk.j4] at H
               by_cases c34 : x75_21 = true
               ·subst c34
                have H1 : (some false) = some r := by rw [if_pos rfl] at H; exact H
                clear H
                have H := H1
                clear H1
                obtain rfl := Option.some.inj H
                go_wp2
                repeat (go_quiet (fail); try go_wp2)
                go_ret
                exact ⟨qz13, qz10 GE101.out⟩
               ·replace c34 := Bool.eq_false_iff.mpr c34
                subst c34
                have H1 : (spec_LatOk.l2 kj21 x3_2 x4_4 0 a0_0 l0_1) = some r := by rw [if_neg (show ¬ (false = true) by decide)] at H; exact H
                clear H
                have H := H1
                clear H1
                have H' := Aside0.mk H
                clear H
                go_wp2
                repeat (go_quiet (fail); try go_wp2)
                go_loopg [5] kj21 (fun kq v5 w' => ∃ (x5_6 : Int), v5 = .int .i64 x5_6 ∧ Aside0 (spec_LatOk.l2 kq x3_2 x4_4 x5_6 a0_0 l0_1 = some r) ∧ Aside0 (kq ≤ kj21) ∧ Aside0 (w'.heap[gb101]? = some (.cells #[.int .i64 a0_0, (.slice A0_1 l0_1.length c0_1)] 47 (0, 0))) ∧ Aside0 (Below w.heap.size w w'))
                case atStart => exact ⟨(0), qz2, H', ⟨Nat.le_refl _⟩, ⟨qz8 BK101.out⟩, ⟨qz10 GE101.out⟩⟩
                case round =>
                 clear H'
                 try clear c1
                 try clear p1
                 try clear q1
                 try clear hx1
                 try clear c2
                 try clear p2
                 try clear c3
                 try clear c4
                 try clear c4b0
                 try clear c6
                 try clear c6b0
                 try clear c9
                 try clear c10
                 try clear c10b0
                 try clear p10
                 try clear q10
                 try clear hx10
                 try clear c13
                 try clear c13b0
                 try clear c14
                 try clear c14b0
                 try clear c16
                 try clear c20
                 try clear c21
                 try clear c21b0
                 try clear c24
                 try clear c24b0
                 try clear c24b1
                 try clear c25
                 try clear c25b0
                 try clear c26
                 try clear c26b0
                 try clear c28
                 try clear c29
                 try clear c29b0
                 try clear c30
                 try clear c30b0
                 try clear c34
                 try clear hcz12_0
                 try clear hcz12_1
                 try clear hcz18_0
                 try clear hcz18_1
                 try clear hcz19_0
                 try clear hcz19_1
                 try clear hcz23_0
                 try clear hcz23_1
                 try clear hcz32_0
                 try clear hcz32_1
                 try clear hcz33_0
                 try clear hcz33_1
                 try clear hcz5_0
                 try clear hcz5_1
                 try clear hcz7_0
                 try clear hcz7_1
                 try clear hcz8_0
                 try clear hcz8_1
                 try clear hfz12_0
                 try clear hfz12_1
                 try clear hfz18_0
                 try clear hfz18_1
                 try clear hfz19_0
                 try clear hfz19_1
                 try clear hfz23_0
                 try clear hfz23_1
                 try clear hfz32_0
                 try clear hfz32_1
                 try clear hfz33_0
                 try clear hfz33_1
                 try clear hfz5_0
                 try clear hfz5_1
                 try clear hfz7_0
                 try clear hfz7_1
                 try clear hfz8_0
                 try clear hfz8_1
                 try clear hx102_0
                 try clear hx104_0
                 try clear hx106_0
                 try clear hx108_0
                 try clear p1
                 try clear p10
                 try clear p102
                 try clear p104
                 try clear p106
                 try clear p108
                 try clear p2
                 try clear q1
                 try clear q10
                 try clear q102
                 try clear q104
                 try clear q106
                 try clear q108
                 obtain ⟨x5_6, rfl, HA, HK6, BK101, HB⟩ := hrel
                 cases gk with
                 | zero => exact absurd HA.out (by simp [spec_LatOk.l2])
                 | succ k6 =>
                  have H := HA.out
                  clear HA
                  simp only [spec_LatOk.l2] at H
                  by_cases c35 : x5_6 < a0_0
                  ·rw [if_pos c35] at H
                   have c35b0 : decide (x5_6 < a0_0) = true := decide_eq_true c35
                   clear c35
                   by_cases c36 : 0 ≤ x3_2
                   ·rw [if_pos c36] at H
                    have c36b0 : decide (0 ≤ x3_2) = true := decide_eq_true c36
                    clear c36
                    by_cases c37 : x3_2 < (l0_1.length : Int)
                    ·rw [if_pos c37] at H
                     have c37b0 : decide (x3_2 < (l0_1.length : Int)) = true := decide_eq_true c37
                     clear c37
                     replace H := Option.bind_eq_some_iff.mp H
                     obtain ⟨t111, A380, H⟩ := H
                     replace H : (if t111 = true then (if 0 ≤ x4_4 then (if x4_4 < (l0_1.length : Int) then ((spec_l01Bit.f (rd l0_1 x4_4) x5_6).bind fun t113 => (if t113 = true then ((spec_l01Bit.f (rd l0_1 x3_2) x5_6).bind fun t115 => (if t115 = true then (spec_LatOk.l2 k6 x3_2 x4_4 (wrap64 (x5_6 + 1)) a0_0 l0_1) else (some false))) else (spec_LatOk.l2 k6 x3_2 x4_4 (wrap64 (x5_6 + 1)) a0_0 l0_1))) else (none)) else (none)) else (spec_LatOk.l2 k6 x3_2 x4_4 (wrap64 (x5_6 + 1)) a0_0 l0_1)) = some r := H
                     have A38 := Aside0.mk A380
                     clear A380
                     by_cases c39 : t111 = true
                     ·subst c39
                      have H1 : (if 0 ≤ x4_4 then (if x4_4 < (l0_1.length : Int) then ((spec_l01Bit.f (rd l0_1 x4_4) x5_6).bind fun t113 => (if t113 = true then ((spec_l01Bit.f (rd l0_1 x3_2) x5_6).bind fun t115 => (if t115 = true then (spec_LatOk.l2 k6 x3_2 x4_4 (wrap64 (x5_6 + 1)) a0_0 l0_1) else (some false))) else (spec_LatOk.l2 k6 x3_2 x4_4 (wrap64 (x5_6 + 1)) a0_0 l0_1))) else (none)) else (none)) = some r := by rw [if_pos rfl] at H; exact H
                      clear H
                      have H := H1
                      clear H1
                      by_cases c40 : 0 ≤ x4_4
                      ·rw [if_pos c40] at H
                       have c40b0 : decide (0 ≤ x4_4) = true := decide_eq_true c40
                       clear c40
                       by_cases c41 : x4_4 < (l0_1.length : Int)
                       ·rw [if_pos c41] at H
                        have c41b0 : decide (x4_4 < (l0_1.length : Int)) = true := decide_eq_true c41
                        clear c41
                        replace H := Option.bind_eq_some_iff.mp H
                        obtain ⟨t113, A420, H⟩ := H
                        replace H : (if t113 = true then ((spec_l01Bit.f (rd l0_1 x3_2) x5_6).bind fun t115 => (if t115 = true then (spec_LatOk.l2 k6 x3_2 x4_4 (wrap64 (x5_6 + 1)) a0_0 l0_1) else (some false))) else (spec_LatOk.l2 k6 x3_2 x4_4 (wrap64 (x5_6 + 1)) a0_0 l0_1)) = some r := H
                        have A42 := Aside0.mk A420
                        clear A420
                        by_cases c43 : t113 = true
                        ·subst c43
                         have H1 : ((spec_l01Bit.f (rd l0_1 x3_2) x5_6).bind fun t115 => (if t115 = true then (spec_LatOk.l2 k6 x3_2 x4_4 (wrap64 (x5_6 + 1)) a0_0 l0_1) else (some false))) = some r := by rw [if_pos rfl] at H; exact H
                         clear H
                         have H := H1
                         clear H1
                         replace H := Option.bind_eq_some_iff.mp H
                         obtain ⟨t115, A440, H⟩ := H
                         replace H : (if t115 = true then (spec_LatOk.l2 k6 x3_2 x4_4 (wrap64 (x5_6 + 1)) a0_0 l0_1) else (some false)) = some r := H
                         have A44 := Aside0.mk A440
                         clear A440
                         by_cases c45 : t115 = true
                         ·subst c45
                          have H1 : (spec_LatOk.l2 k6 x3_2 x4_4 (wrap64 (x5_6 + 1)) a0_0 l0_1) = some r := by rw [if_pos rfl] at H; exact H
                          clear H
                          have H := H1
                          clear H1
                          have H' := Aside0.mk H
                          clear H
                          have hcz46_0 : wr.cell? ⟨gb101, 0, none⟩ = some (.int .i64 a0_0) := (blk_cell BK101.out 0).trans rfl
                          have hcz46_1 : wr.cell? ⟨gb101, 1, none⟩ = some (.slice A0_1 l0_1.length c0_1) := (blk_cell BK101.out 1).trans rfl
                          have hfz46_0 := blk_frozen BK101.out 0
                          have hfz46_1 := blk_frozen BK101.out 1
                          have p110 : 0 ≤ (x3_2 : Int) := of_decide_eq_true qz4
                          have q110 : x3_2 < (l0_1.length : Int) := of_decide_eq_true qz4
                          obtain ⟨ad110, e110, hx110_0⟩ := Kd.at_int HR0_1.out x3_2 p110 q110
                          cases e110
                          replace hx110_0 := qcb HB hx110_0
                          replace p110 := eq_true p110
                          replace q110 := eq_true q110
                          go_wp2_with (first | (go_at_call 120; (with_reducible refine (spec_l01Bit.calls (rd l0_1 x3_2) x4_4 true _ A38.out).mono ?_); rintro e w' ⟨rfl, ⟨nd, rfl⟩⟩; (try first | exact ⟨rfl, _, World.drewN_drewN _ _ _⟩ | exact ⟨rfl, _, Eq.trans (World.drewN_drewN _ _ _) (congrArg (World.drewN _) (Nat.add_assoc _ _ _))⟩); have p112 : 0 ≤ (x4_4 : Int) := of_decide_eq_true qz4; have q112 : x4_4 < (l0_1.length : Int) := of_decide_eq_true qz4; obtain ⟨ad112, e112, hx112_0⟩ := Kd.at_int HR0_1.out x4_4 p112 q112; obtain rfl : ad110 = ad112 := (by injection e112); replace hx112_0 := qcb HB hx112_0; replace p112 := eq_true p112; replace q112 := eq_true q112) | (go_at_call 120; (with_reducible refine (spec_l01Bit.calls (rd l0_1 x4_4) x5_6 true _ A42.out).mono ?_); rintro e w' ⟨rfl, ⟨nd, rfl⟩⟩; (try first | exact ⟨rfl, _, World.drewN_drewN _ _ _⟩ | exact ⟨rfl, _, Eq.trans (World.drewN_drewN _ _ _) (congrArg (World.drewN _) (Nat.add_assoc _ _ _))⟩); have p114 : 0 ≤ (x3_2 : Int) := of_decide_eq_true qz4; have q114 : x3_2 < (l0_1.length : Int) := of_decide_eq_true qz4; obtain ⟨ad114, e114, hx114_0⟩ := Kd.at_int HR0_1.out x3_2 p114 q114; obtain rfl : ad110 = ad114 := (by injection e114); replace hx114_0 := qcb HB hx114_0; replace p114 := eq_true p114; replace q114 := eq_true q114) | (go_at_call 120; (with_reducible refine (spec_l01Bit.calls (rd l0_1 x3_2) x5_6 true _ A44.out).mono ?_); rintro e w' ⟨rfl, ⟨nd, rfl⟩⟩; (try first | exact ⟨rfl, _, World.drewN_drewN _ _ _⟩ | exact ⟨rfl, _, Eq.trans (World.drewN_drewN _ _ _) (congrArg (World.drewN _) (Nat.add_assoc _ _ _))⟩)))
                          repeat (go_quiet (first | (go_at_call 120; (with_reducible refine (spec_l01Bit.calls (rd l0_1 x3_2) x4_4 true _ A38.out).mono ?_); rintro e w' ⟨rfl, ⟨nd, rfl⟩⟩; (try first | exact ⟨rfl, _, World.drewN_drewN _ _ _⟩ | exact ⟨rfl, _, Eq.trans (World.drewN_drewN _ _ _) (congrArg (World.drewN _) (Nat.add_assoc _ _ _))⟩); have p112 : 0 ≤ (x4_4 : Int) := of_decide_eq_true qz4; have q112 : x4_4 < (l0_1.length : Int) := of_decide_eq_true qz4; obtain ⟨ad112, e112, hx112_0⟩ := Kd.at_int HR0_1.out x4_4 p112 q112; obtain rfl : ad110 = ad112 := (by injection e112); replace hx112_0 := qcb HB hx112_0; replace p112 := eq_true p112; replace q112 := eq_true q112) | (go_at_call 120; (with_reducible refine (spec_l01Bit.calls (rd l0_1 x4_4) x5_6 true _ A42.out).mono ?_); rintro e w' ⟨rfl, ⟨nd, rfl⟩⟩; (try first | exact ⟨rfl, _, World.drewN_drewN _ _ _⟩ | exact ⟨rfl, _, Eq.trans (World.drewN_drewN _ _ _) (congrArg (World.drewN _) (Nat.add_assoc _ _ _))⟩); have p114 : 0 ≤ (x3_2 : Int) := of_decide_eq_true qz4; have q114 : x3_2 < (l0_1.length : Int) := of_decide_eq_true qz4; obtain ⟨ad114, e114, hx114_0⟩ := Kd.at_int HR0_1.out x3_2 p114 q114; obtain rfl : ad110 = ad114 := (by injection e114); replace hx114_0 := qcb HB hx114_0; replace p114 := eq_true p114; replace q114 := eq_true q114) | (go_at_call 120; (with_reducible refine (spec_l01Bit.calls (rd l0_1 x3_2) x5_6 true _ A44.out).mono ?_); rintro e w' ⟨rfl, ⟨nd, rfl⟩⟩; (try first | exact ⟨rfl, _, World.drewN_drewN _ _ _⟩ | exact ⟨rfl, _, Eq.trans (World.drewN_drewN _ _ _) (congrArg (World.drewN _) (Nat.add_assoc _ _ _))⟩))); try go_wp2_with (first | (go_at_call 120; (with_reducible refine (spec_l01Bit.calls (rd l0_1 x3_2) x4_4 true _ A38.out).mono ?_); rintro e w' ⟨rfl, ⟨nd, rfl⟩⟩; (try first | exact ⟨rfl, _, World.drewN_drewN _ _ _⟩ | exact ⟨rfl, _, Eq.trans (World.drewN_drewN _ _ _) (congrArg (World.drewN _) (Nat.add_assoc _ _ _))⟩); have p112 : 0 ≤ (x4_4 : Int) := of_decide_eq_true qz4; have q112 : x4_4 < (l0_1.length : Int) := of_decide_eq_true qz4; obtain ⟨ad112, e112, hx112_0⟩ := Kd.at_int HR0_1.out x4_4 p112 q112; obtain rfl : ad110 = ad112 := (by injection e112); replace hx112_0 := qcb HB hx112_0; replace p112 := eq_true p112; replace q112 := eq_true q112) | (go_at_call 120; (with_reducible refine (spec_l01Bit.calls (rd l0_1 x4_4) x5_6 true _ A42.out).mono ?_); rintro e w' ⟨rfl, ⟨nd, rfl⟩⟩; (try first | exact ⟨rfl, _, World.drewN_drewN _ _ _⟩ | exact ⟨rfl, _, Eq.trans (World.drewN_drewN _ _ _) (congrArg (World.drewN _) (Nat.add_assoc _ _ _))⟩); have p114 : 0 ≤ (x3_2 : Int) := of_decide_eq_true qz4; have q114 : x3_2 < (l0_1.length : Int) := of_decide_eq_true qz4; obtain ⟨ad114, e114, hx114_0⟩ := Kd.at_int HR0_1.out x3_2 p114 q114; obtain rfl : ad110 = ad114 := (by injection e114); replace hx114_0 := qcb HB hx114_0; replace p114 := eq_true p114; replace q114 := eq_true q114) | (go_at_call 120; (with_reducible refine (spec_l01Bit.calls (rd l0_1 x3_2) x5_6 true _ A44.out).mono ?_); rintro e w' ⟨rfl, ⟨nd, rfl⟩⟩; (try first | exact ⟨rfl, _, World.drewN_drewN _ _ _⟩ | exact ⟨rfl, _, Eq.trans (World.drewN_drewN _ _ _) (congrArg (World.drewN _) (Nat.add_assoc _ _ _))⟩))))
                          go_roundg k6
                          case measure => have := HJ1.out; have := HK2.out; have := HJ10.out; have := HK4.out; have := HJ21.out; have := HK6.out; omega
                          case rel => exact ⟨(wrap64 (x5_6 + 1)), qz2, H', ⟨qz359⟩, ⟨qz8 BK101.out⟩, ⟨qz10 GE101.out⟩⟩
                         ·replace c45 := Bool.eq_false_iff.mpr c45
                          subst c45
                          have H1 : (some false) = some r := by rw [if_neg (show ¬ (false = true) by decide)] at H; exact H
                          clear H
                          have H := H1
                          clear H1
                          obtain rfl := Option.some.inj H
                          have hcz47_0 : wr.cell? ⟨gb101, 0, none⟩ = some (.int .i64 a0_0) := (blk_cell BK101.out 0).trans rfl
                          have hcz47_1 : wr.cell? ⟨gb101, 1, none⟩ = some (.slice A0_1 l0_1.length c0_1) := (blk_cell BK101.out 1).trans rfl
                          have hfz47_0 := blk_frozen BK101.out 0
                          have hfz47_1 := blk_frozen BK101.out 1
                          have p110 : 0 ≤ (x3_2 : Int) := of_decide_eq_true qz4
                          have q110 : x3_2 < (l0_1.length : Int) := of_decide_eq_true qz4
                          obtain ⟨ad110, e110, hx110_0⟩ := Kd.at_int HR0_1.out x3_2 p110 q110
                          cases e110
                          replace hx110_0 := qcb HB hx110_0
                          replace p110 := eq_true p110
                          replace q110 := eq_true q110
                          go_wp2_with (first | (go_at_call 120; (with_reducible refine (spec_l01Bit.calls (rd l0_1 x3_2) x4_4 true _ A38.out).mono ?_); rintro e w' ⟨rfl, ⟨nd, rfl⟩⟩; (try first | exact ⟨rfl, _, World.drewN_drewN _ _ _⟩ | exact ⟨rfl, _, Eq.trans (World.drewN_drewN _ _ _) (congrArg (World.drewN _) (Nat.add_assoc _ _ _))⟩); have p112 : 0 ≤ (x4_4 : Int) := of_decide_eq_true qz4; have q112 : x4_4 < (l0_1.length : Int) := of_decide_eq_true qz4; obtain ⟨ad112, e112, hx112_0⟩ := Kd.at_int HR0_1.out x4_4 p112 q112; obtain rfl : ad110 = ad112 := (by injection e112); replace hx112_0 := qcb HB hx112_0; replace p112 := eq_true p112; replace q112 := eq_true q112) | (go_at_call 120; (with_reducible refine (spec_l01Bit.calls (rd l0_1 x4_4) x5_6 true _ A42.out).mono ?_); rintro e w' ⟨rfl, ⟨nd, rfl⟩⟩; (try first | exact ⟨rfl, _, World.drewN_drewN _ _ _⟩ | exact ⟨rfl, _, Eq.trans (World.drewN_drewN _ _ _) (congrArg (World.drewN _) (Nat.add_assoc _ _ _))⟩); have p114 : 0 ≤ (x3_2 : Int) := of_decide_eq_true qz4; have q114 : x3_2 < (l0_1.length : Int) := of_decide_eq_true qz4; obtain ⟨ad114, e114, hx114_0⟩ := Kd.at_int HR0_1.out x3_2 p114 q114; obtain rfl : ad110 = ad114 := (by injection e114); replace hx114_0 := qcb HB hx114_0; replace p114 := eq_true p114; replace q114 := eq_true q114) | (go_at_call 120; (with_reducible refine (spec_l01Bit.calls (rd l0_1 x3_2) x5_6 false _ A44.out).mono ?_); rintro e w' ⟨rfl, ⟨nd, rfl⟩⟩; (try first | exact ⟨rfl, _, World.drewN_drewN _ _ _⟩ | exact ⟨rfl, _, Eq.trans (World.drewN_drewN _ _ _) (congrArg (World.drewN _) (Nat.add_assoc _ _ _))⟩)))
                          repeat (go_quiet (first | (go_at_call 120; (with_reducible refine (spec_l01Bit.calls (rd l0_1 x3_2) x4_4 true _ A38.out).mono ?_); rintro e w' ⟨rfl, ⟨nd, rfl⟩⟩; (try first | exact ⟨rfl, _, World.drewN_drewN _ _ _⟩ | exact ⟨rfl, _, Eq.trans (World.drewN_drewN _ _ _) (congrArg (World.drewN _) (Nat.add_assoc _ _ _))⟩); have p112 : 0 ≤ (x4_4 : Int) := of_decide_eq_true qz4; have q112 : x4_4 < (l0_1.length : Int) := of_decide_eq_true qz4; obtain ⟨ad112, e112, hx112_0⟩ := Kd.at_int HR0_1.out x4_4 p112 q112; obtain rfl : ad110 = ad112 := (by injection e112); replace hx112_0 := qcb HB hx112_0; replace p112 := eq_true p112; replace q112 := eq_true q112) | (go_at_call 120; (with_reducible refine (spec_l01Bit.calls (rd l0_1 x4_4) x5_6 true _ A42.out).mono ?_); rintro e w' ⟨rfl, ⟨nd, rfl⟩⟩; (try first | exact ⟨rfl, _, World.drewN_drewN _ _ _⟩ | exact ⟨rfl, _, Eq.trans (World.drewN_drewN _ _ _) (congrArg (World.drewN _) (Nat.add_assoc _ _ _))⟩); have p114 : 0 ≤ (x3_2 : Int) := of_decide_eq_true qz4; have q114 : x3_2 < (l0_1.length : Int) := of_decide_eq_true qz4; obtain ⟨ad114, e114, hx114_0⟩ := Kd.at_int HR0_1.out x3_2 p114 q114; obtain rfl : ad110 = ad114 := (by injection e114); replace hx114_0 := qcb HB hx114_0; replace p114 := eq_true p114; replace q114 := eq_true q114) | (go_at_call 120; (with_reducible refine (spec_l01Bit.calls (rd l0_1 x3_2) x5_6 false _ A44.out).mono ?_); rintro e w' ⟨rfl, ⟨nd, rfl⟩⟩; (try first | exact ⟨rfl, _, World.drewN_drewN _ _ _⟩ | exact ⟨rfl, _, Eq.trans (World.drewN_drewN _ _ _) (congrArg (World.drewN _) (Nat.add_assoc _ _ _))⟩))); try go_wp2_with (first | (go_at_call 120; (with_reducible refine (spec_l01Bit.calls (rd l0_1 x3_2) x4_4 true _ A38.out).mono ?_); rintro e w' ⟨rfl, ⟨nd, rfl⟩⟩; (try first | exact ⟨rfl, _, World.drewN_drewN _ _ _⟩ | exact ⟨rfl, _, Eq.trans (World.drewN_drewN _ _ _) (congrArg (World.drewN _) (Nat.add_assoc _ _ _))⟩); have p112 : 0 ≤ (x4_4 : Int) := of_decide_eq_true qz4; have q112 : x4_4 < (l0_1.length : Int) := of_decide_eq_true qz4; obtain ⟨ad112, e112, hx112_0⟩ := Kd.at_int HR0_1.out x4_4 p112 q112; obtain rfl : ad110 = ad112 := (by injection e112); replace hx112_0 := qcb HB hx112_0; replace p112 := eq_true p112; replace q112 := eq_true q112) | (go_at_call 120; (with_reducible refine (spec_l01Bit.calls (rd l0_1 x4_4) x5_6 true _ A42.out).mono ?_); rintro e w' ⟨rfl, ⟨nd, rfl⟩⟩; (try first | exact ⟨rfl, _, World.drewN_drewN _ _ _⟩ | exact ⟨rfl, _, Eq.trans (World.drewN_drewN _ _ _) (congrArg (World.drewN _) (Nat.add_assoc _ _ _))⟩); have p114 : 0 ≤ (x3_2 : Int) := of_decide_eq_true qz4; have q114 : x3_2 < (l0_1.length : Int) := of_decide_eq_true qz4; obtain ⟨ad114, e114, hx114_0⟩ := Kd.at_int HR0_1.out x3_2 p114 q114; obtain rfl : ad110 = ad114 := (by injection e114); replace hx114_0 := qcb HB hx114_0; replace p114 := eq_true p114; replace q114 := eq_true q114) | (go_at_call 120; (with_reducible refine (spec_l01Bit.calls (rd l0_1 x3_2) x5_6 false _ A44.out).mono ?_); rintro e w' ⟨rfl, ⟨nd, rfl⟩⟩; (try first | exact ⟨rfl, _, World.drewN_drewN _ _ _⟩ | exact ⟨rfl, _, Eq.trans (World.drewN_drewN _ _ _) (congrArg (World.drewN _) (Nat.add_assoc _ _ _))⟩))))
                          go_ret
                          exact ⟨qz13, qz10 GE101.out⟩
                        ·replace c43 := Bool.eq_false_iff.mpr c43
                         subst c43
                         have H1 : (spec_LatOk.l2 k6 x3_2 x4_4 (wrap64 (x5_6 + 1)) a0_0 l0_1) = some r := by rw [if_neg (show ¬ (false = true) by decide)] at H; exact H
                         clear H
                         have H := H1
                         clear H1
                         have H' := Aside0.mk H
                         clear H
                         have hcz48_0 : wr.cell? ⟨gb101, 0, none⟩ = some (.int .i64 a0_0) := (blk_cell BK101.out 0).trans rfl
                         have hcz48_1 : wr.cell? ⟨gb101, 1, none⟩ = some (.slice A0_1 l0_1.length c0_1) := (blk_cell BK101.out 1).trans rfl
                         have hfz48_0 := blk_frozen BK101.out 0
                         have hfz48_1 := blk_frozen BK101.out 1
                         have p110 : 0 ≤ (x3_2 : Int) := of_decide_eq_true qz4
                         have q110 : x3_2 < (l0_1.length : Int) := of_decide_eq_true qz4
                         obtain ⟨ad110, e110, hx110_0⟩ := Kd.at_int HR0_1.out x3_2 p110 q110
                         cases e110
                         replace hx110_0 := qcb HB hx110_0
                         replace p110 := eq_true p110
                         replace q110 := eq_true q110
                         go_wp2_with (first | (go_at_call 120; (with_reducible refine (spec_l01Bit.calls (rd l0_1 x3_2) x4_4 true _ A38.out).mono ?_); rintro e w' ⟨rfl, ⟨nd, rfl⟩⟩; (try first | exact ⟨rfl, _, World.drewN_drewN _ _ _⟩ | exact ⟨rfl, _, Eq.trans (World.drewN_drewN _ _ _) (congrArg (World.drewN _) (Nat.add_assoc _ _ _))⟩); have p112 : 0 ≤ (x4_4 : Int) := of_decide_eq_true qz4; have q112 : x4_4 < (l0_1.length : Int) := of_decide_eq_true qz4; obtain ⟨ad112, e112, hx112_0⟩ := Kd.at_int HR0_1.out x4_4 p112 q112; obtain rfl : ad110 = ad112 := (by injection e112); replace hx112_0 := qcb HB hx112_0; replace p112 := eq_true p112; replace q112 := eq_true q112) | (go_at_call 120; (with_reducible refine (spec_l01Bit.calls (rd l0_1 x4_4) x5_6 false _ A42.out).mono ?_); rintro e w' ⟨rfl, ⟨nd, rfl⟩⟩; (try first | exact ⟨rfl, _, World.drewN_drewN _ _ _⟩ | exact ⟨rfl, _, Eq.trans (World.drewN_drewN _ _ _) (congrArg (World.drewN _) (Nat.add_assoc _ _ _))⟩)))
                         repeat (go_quiet (first | (go_at_call 120; (with_reducible refine (spec_l01Bit.calls (rd l0_1 x3_2) x4_4 true _ A38.out).mono ?_); rintro e w' ⟨rfl, ⟨nd, rfl⟩⟩; (try first | exact ⟨rfl, _, World.drewN_drewN _ _ _⟩ | exact ⟨rfl, _, Eq.trans (World.drewN_drewN _ _ _) (congrArg (World.drewN _) (Nat.add_assoc _ _ _))⟩); have p112 : 0 ≤ (x4_4 : Int) := of_decide_eq_true qz4; have q112 : x4_4 < (l0_1.length : Int) := of_decide_eq_true qz4; obtain ⟨ad112, e112, hx112_0⟩ := Kd.at_int HR0_1.out x4_4 p112 q112; obtain rfl : ad110 = ad112 := (by injection e112); replace hx112_0 := qcb HB hx112_0; replace p112 := eq_true p112; replace q112 := eq_true q112) | (go_at_call 120; (with_reducible refine (spec_l01Bit.calls (rd l0_1 x4_4) x5_6 false _ A42.out).mono ?_); rintro e w' ⟨rfl, ⟨nd, rfl⟩⟩; (try first | exact ⟨rfl, _, World.drewN_drewN _ _ _⟩ | exact ⟨rfl, _, Eq.trans (World.drewN_drewN _ _ _) (congrArg (World.drewN _) (Nat.add_assoc _ _ _))⟩))); try go_wp2_with (first | (go_at_call 120; (with_reducible refine (spec_l01Bit.calls (rd l0_1 x3_2) x4_4 true _ A38.out).mono ?_); rintro e w' ⟨rfl, ⟨nd, rfl⟩⟩; (try first | exact ⟨rfl, _, World.drewN_drewN _ _ _⟩ | exact ⟨rfl, _, Eq.trans (World.drewN_drewN _ _ _) (congrArg (World.drewN _) (Nat.add_assoc _ _ _))⟩); have p112 : 0 ≤ (x4_4 : Int) := of_decide_eq_true qz4; have q112 : x4_4 < (l0_1.length : Int) := of_decide_eq_true qz4; obtain ⟨ad112, e112, hx112_0⟩ := Kd.at_int HR0_1.out x4_4 p112 q112; obtain rfl : ad110 = ad112 := (by injection e112); replace hx112_0 := qcb HB hx112_0; replace p112 := eq_true p112; replace q112 := eq_true q112) | (go_at_call 120; (with_reducible refine (spec_l01Bit.calls (rd l0_1 x4_4) x5_6 false _ A42.out).mono ?_); rintro e w' ⟨rfl, ⟨nd, rfl⟩⟩; (try first | exact ⟨rfl, _, World.drewN_drewN _ _ _⟩ | exact ⟨rfl, _, Eq.trans (World.drewN_drewN _ _ _) (congrArg (World.drewN _) (Nat.add_assoc _ _ _))⟩))))
                         go_roundg k6
                         case measure => have := HJ1.out; have := HK2.out; have := HJ10.out; have := HK4.out; have := HJ21.out; have := HK6.out; omega
                         case rel => exact ⟨(wrap64 (x5_6 + 1)), qz2, H', ⟨qz359⟩, ⟨qz8 BK101.out⟩, ⟨qz10 GE101.out⟩⟩
                       ·rw [if_neg c41] at H
                        exact absurd H (by simp)
                      ·rw [if_neg c40] at H
                       exact absurd H (by simp)
                     ·replace c39 := Bool.eq_false_iff.mpr c39
                      subst c39
                      have H1 : (spec_LatOk.l2 k6 x3_2 x4_4 (wrap64 (x5_6 + 1)) a0_0 l0_1) = some r := by rw [if_neg (show ¬ (false = true) by decide)] at H; exact H
                      clear H
                      have H := H1
                      clear H1
                      have H' := Aside0.mk H
                      clear H
                      have hcz49_0 : wr.cell? ⟨gb101, 0, none⟩ = some (.int .i64 a0_0) := (blk_cell BK101.out 0).trans rfl
                      have hcz49_1 : wr.cell? ⟨gb101, 1, none⟩ = some (.slice A0_1 l0_1.length c0_1) := (blk_cell BK101.out 1).trans rfl
                      have hfz49_0 := blk_frozen BK101.out 0
                      have hfz49_1 := blk_frozen BK101.out 1
                      have p110 : 0 ≤ (x3_2 : Int) := of_decide_eq_true qz4
                      have q110 : x3_2 < (l0_1.length : Int) := of_decide_eq_true qz4
                      obtain ⟨ad110, e110, hx110_0⟩ := Kd.at_int HR0_1.out x3_2 p110 q110
                      cases e110
                      replace hx110_0 := qcb HB hx110_0
                      replace p110 := eq_true p110
                      replace q110 := eq_true q110
                      go_wp2_with (first | (go_at_call 120; (with_reducible refine (spec_l01Bit.calls (rd l0_1 x3_2) x4_4 false _ A38.out).mono ?_); rintro e w' ⟨rfl, ⟨nd, rfl⟩⟩; (try first | exact ⟨rfl, _, World.drewN_drewN _ _ _⟩ | exact ⟨rfl, _, Eq.trans (World.drewN_drewN _ _ _) (congrArg (World.drewN _) (Nat.add_assoc _ _ _))⟩)))
                      repeat (go_quiet (first | (go_at_call 120; (with_reducible refine (spec_l01Bit.calls (rd l0_1 x3_2) x4_4 false _ A38.out).mono ?_); rintro e w' ⟨rfl, ⟨nd, rfl⟩⟩; (try first | exact ⟨rfl, _, World.drewN_drewN _ _ _⟩ | exact ⟨rfl, _, Eq.trans (World.drewN_drewN _ _ _) (congrArg (World.drewN _) (Nat.add_assoc _ _ _))⟩))); try go_wp2_with (first | (go_at_call 120; (with_reducible refine (spec_l01Bit.calls (rd l0_1 x3_2) x4_4 false _ A38.out).mono ?_); rintro e w' ⟨rfl, ⟨nd, rfl⟩⟩; (try first | exact ⟨rfl, _, World.drewN_drewN _ _ _⟩ | exact ⟨rfl, _, Eq.trans (World.drewN_drewN _ _ _) (congrArg (World.drewN _) (Nat.add_assoc _ _ _))⟩))))
                      go_roundg k6
                      case measure => have := HJ1.out; have := HK2.out; have := HJ10.out; have := HK4.out; have := HJ21.out; have := HK6.out; omega
                      case rel => exact ⟨(wrap64 (x5_6 + 1)), qz2, H', ⟨qz359⟩, ⟨qz8 BK101.out⟩, ⟨qz10 GE101.out⟩⟩
                    ·rw [if_neg c37] at H
                     exact absurd H (by simp)
                   ·rw [if_neg c36] at H
                    exact absurd H (by simp)
                  ·rw [if_neg c35] at H
                   have c35b0 : decide (x5_6 < a0_0) = false := decide_eq_false c35
                   clear c35
                   have H' := Aside0.mk H
                   clear H
                   have hcz50_0 : wr.cell? ⟨gb101, 0, none⟩ = some (.int .i64 a0_0) := (blk_cell BK101.out 0).trans rfl
                   have hcz50_1 : wr.cell? ⟨gb101, 1, none⟩ = some (.slice A0_1 l0_1.length c0_1) := (blk_cell BK101.out 1).trans rfl
                   have hfz50_0 := blk_frozen BK101.out 0
                   have hfz50_1 := blk_frozen BK101.out 1
                   go_wp2
                   repeat (go_quiet (fail); try go_wp2)
                   go_roundg k6
                   case measure => have := HJ1.out; have := HK2.out; have := HJ10.out; have := HK4.out; have := HJ21.out; have := HK6.out; omega
                   case rel => exact ⟨(wrap64 (x4_4 + 1)), qz2, H', ⟨qz359⟩, ⟨qz8 BK101.out⟩, ⟨qz10 GE101.out⟩⟩
            ·rw [if_neg c21] at H
             have c21b0 : decide (x4_4 < a0_0) = false := decide_eq_false c21
             clear c21
             have H' := Aside0.mk H
             clear H
             have hcz51_0 : wr.cell? ⟨gb101, 0, none⟩ = some (.int .i64 a0_0) := (blk_cell BK101.out 0).trans rfl
             have hcz51_1 : wr.cell? ⟨gb101, 1, none⟩ = some (.slice A0_1 l0_1.length c0_1) := (blk_cell BK101.out 1).trans rfl
             have hfz51_0 := blk_frozen BK101.out 0
             have hfz51_1 := blk_frozen BK101.out 1
             go_wp2
             repeat (go_quiet (fail); try go_wp2)
             go_roundg k4
             case measure => have := HJ1.out; have := HK2.out; have := HJ10.out; have := HK4.out; omega
             case rel => exact ⟨(wrap64 (x3_2 + 1)), qz2, H', ⟨qz32 HJ1.out HK2.out HJ10.out HK4.out⟩, ⟨qz8 BK101.out⟩, ⟨qz10 GE101.out⟩⟩
      ·rw [if_neg c10] at H
       have c10b0 : decide (x3_2 < a0_0) = false := decide_eq_false c10
       clear c10
       have H' := Aside0.mk H
       clear H
       have hcz52_0 : wr.cell? ⟨gb101, 0, none⟩ = some (.int .i64 a0_0) := (blk_cell BK101.out 0).trans rfl
       have hcz52_1 : wr.cell? ⟨gb101, 1, none⟩ = some (.slice A0_1 l0_1.length c0_1) := (blk_cell BK101.out 1).trans rfl
       have hfz52_0 := blk_frozen BK101.out 0
       have hfz52_1 := blk_frozen BK101.out 1
       go_wp2
       repeat (go_quiet (fail); try go_wp2)
       go_loopg [6] k2 (fun kq v6 w' => ∃ (x6_3 : Int), v6 = .int .i64 x6_3 ∧ Aside0 (spec_LatOk.l3 kq x6_3 a0_0 l0_1 = some r) ∧ Aside0 (kq ≤ k2) ∧ Aside0 (w'.heap[gb101]? = some (.cells #[.int .i64 a0_0, (.slice A0_1 l0_1.length c0_1)] 47 (0, 0))) ∧ Aside0 (Below w.heap.size w w'))
       case atStart => exact ⟨(0), qz2, H', ⟨Nat.le_refl _⟩, ⟨qz8 BK101.out⟩, ⟨qz10 GE101.out⟩⟩
       case round =>
        clear H'
        try clear c1
        try clear p1
        try clear q1
        try clear hx1
        try clear c2
        try clear p2
        try clear c3
        try clear c4
        try clear c4b0
        try clear c6
        try clear c6b0
        try clear p6
        try clear c9
        try clear c10
        try clear c10b0
        try clear p10
        try clear q10
        try clear hx10
        try clear p11
        try clear q11
        try clear hx11
        try clear c13
        try clear c13b0
        try clear c14
        try clear c14b0
        try clear c16
        try clear c20
        try clear c21
        try clear c21b0
        try clear c24
        try clear c24b0
        try clear c24b1
        try clear c25
        try clear c25b0
        try clear c26
        try clear c26b0
        try clear c28
        try clear c29
        try clear c29b0
        try clear c30
        try clear c30b0
        try clear c34
        try clear c35
        try clear c35b0
        try clear c36
        try clear c36b0
        try clear c37
        try clear c37b0
        try clear c39
        try clear c40
        try clear c40b0
        try clear c41
        try clear c41b0
        try clear c43
        try clear c45
        try clear hcz12_0
        try clear hcz12_1
        try clear hcz18_0
        try clear hcz18_1
        try clear hcz19_0
        try clear hcz19_1
        try clear hcz23_0
        try clear hcz23_1
        try clear hcz32_0
        try clear hcz32_1
        try clear hcz33_0
        try clear hcz33_1
        try clear hcz46_0
        try clear hcz46_1
        try clear hcz47_0
        try clear hcz47_1
        try clear hcz48_0
        try clear hcz48_1
        try clear hcz49_0
        try clear hcz49_1
        try clear hcz50_0
        try clear hcz50_1
        try clear hcz51_0
        try clear hcz51_1
        try clear hcz52_0
        try clear hcz52_1
        try clear hcz5_0
        try clear hcz5_1
        try clear hcz7_0
        try clear hcz7_1
        try clear hcz8_0
        try clear hcz8_1
        try clear hfz12_0
        try clear hfz12_1
        try clear hfz18_0
        try clear hfz18_1
        try clear hfz19_0
        try clear hfz19_1
        try clear hfz23_0
        try clear hfz23_1
        try clear hfz32_0
        try clear hfz32_1
        try clear hfz33_0
        try clear hfz33_1
        try clear hfz46_0
        try clear hfz46_1
        try clear hfz47_0
        try clear hfz47_1
        try clear hfz48_0
        try clear hfz48_1
        try clear hfz49_0
        try clear hfz49_1
        try clear hfz50_0
        try clear hfz50_1
        try clear hfz51_0
        try clear hfz51_1
        try clear hfz52_0
        try clear hfz52_1
        try clear hfz5_0
        try clear hfz5_1
        try clear hfz7_0
        try clear hfz7_1
        try clear hfz8_0
        try clear hfz8_1
        try clear hx102_0
        try clear hx104_0
        try clear hx106_0
        try clear hx108_0
        try clear hx110_0
        try clear hx112_0
        try clear hx114_0
        try clear p1
        try clear p10
        try clear p102
        try clear p104
        try clear p106
        try clear p108
        try clear p110
        try clear p112
        try clear p114
        try clear p2
        try clear q1
        try clear q10
        try clear q102
        try clear q104
        try clear q106
        try clear q108
        try clear q110
        try clear q112
        try clear q114
        obtain ⟨x6_3, rfl, HA, HK3, BK101, HB⟩ := hrel
        cases gk with
        | zero => exact absurd HA.out (by simp [spec_LatOk.l3])
        | succ k3 =>
         have H := HA.out
         clear HA
         simp only [spec_LatOk.l3] at H
         by_cases c53 : x6_3 < a0_0
         ·rw [if_pos c53] at H
          have c53b0 : decide (x6_3 < a0_0) = true := decide_eq_true c53
          clear c53
          have H' := Aside0.mk H
          clear H
          have hcz54_0 : wr.cell? ⟨gb101, 0, none⟩ = some (.int .i64 a0_0) := (blk_cell BK101.out 0).trans rfl
          have hcz54_1 : wr.cell? ⟨gb101, 1, none⟩ = some (.slice A0_1 l0_1.length c0_1) := (blk_cell BK101.out 1).trans rfl
          have hfz54_0 := blk_frozen BK101.out 0
          have hfz54_1 := blk_frozen BK101.out 1
          go_wp2
          repeat (go_quiet (fail); try go_wp2)
          go_loopg [7] k3 (fun kq v7 w' => ∃ (x7_4 : Int), v7 = .int .i64 x7_4 ∧ Aside0 (spec_LatOk.l4 kq x6_3 x7_4 a0_0 l0_1 = some r) ∧ Aside0 (kq ≤ k3) ∧ Aside0 (w'.heap[gb101]? = some (.cells #[.int .i64 a0_0, (.slice A0_1 l0_1.length c0_1)] 47 (0, 0))) ∧ Aside0 (Below w.heap.size w w'))
          case atStart => exact ⟨(0), qz2, H', ⟨Nat.le_refl _⟩, ⟨qz8 BK101.out⟩, ⟨qz10 GE101.out⟩⟩
          case round =>
           clear H'
           try clear c1
           try clear p1
           try clear q1
           try clear hx1
           try clear c2
           try clear p2
           try clear c3
           try clear c4
           try clear c4b0
           try clear c5
           try clear c6
           try clear c6b0
           try clear p6
           try clear c9
           try clear c10
           try clear c10b0
           try clear p10
           try clear q10
           try clear hx10
           try clear p11
           try clear q11
           try clear hx11
           try clear c13
           try clear c13b0
           try clear c14
           try clear c14b0
           try clear c16
           try clear c20
           try clear c21
           try clear c21b0
           try clear c24
           try clear c24b0
           try clear c24b1
           try clear c25
           try clear c25b0
           try clear c26
           try clear c26b0
           try clear c28
           try clear c29
           try clear c29b0
           try clear c30
           try clear c30b0
           try clear c34
           try clear c35
           try clear c35b0
           try clear c36
           try clear c36b0
           try clear c37
           try clear c37b0
           try clear c39
           try clear c40
           try clear c40b0
           try clear c41
           try clear c41b0
           try clear c43
           try clear c45
           try clear c53
           try clear c53b0
           try clear hcz12_0
           try clear hcz12_1
           try clear hcz18_0
           try clear hcz18_1
           try clear hcz19_0
           try clear hcz19_1
           try clear hcz23_0
           try clear hcz23_1
           try clear hcz32_0
           try clear hcz32_1
           try clear hcz33_0
           try clear hcz33_1
           try clear hcz46_0
           try clear hcz46_1
           try clear hcz47_0
           try clear hcz47_1
           try clear hcz48_0
           try clear hcz48_1
           try clear hcz49_0
           try clear hcz49_1
           try clear hcz50_0
           try clear hcz50_1
           try clear hcz51_0
           try clear hcz51_1
           try clear hcz52_0
           try clear hcz52_1
           try clear hcz54_0
           try clear hcz54_1
           try clear hcz5_0
           try clear hcz5_1
           try clear hcz7_0
           try clear hcz7_1
           try clear hcz8_0
           try clear hcz8_1
           try clear hfz12_0
           try clear hfz12_1
           try clear hfz18_0
           try clear hfz18_1
           try clear hfz19_0
           try clear hfz19_1
           try clear hfz23_0
           try clear hfz23_1
           try clear hfz32_0
           try clear hfz32_1
           try clear hfz33_0
           try clear hfz33_1
           try clear hfz46_0
           try clear hfz46_1
           try clear hfz47_0
           try clear hfz47_1
           try clear hfz48_0
           try clear hfz48_1
           try clear hfz49_0
           try clear hfz49_1
           try clear hfz50_0
           try clear hfz50_1
           try clear hfz51_0
           try clear hfz51_1
           try clear hfz52_0
           try clear hfz52_1
           try clear hfz54_0
           try clear hfz54_1
           try clear hfz5_0
           try clear hfz5_1
           try clear hfz7_0
           try clear hfz7_1
           try clear hfz8_0
           try clear hfz8_1
           try clear hx102_0
           try clear hx104_0
           try clear hx106_0
           try clear hx108_0
           try clear hx110_0
           try clear hx112_0
           try clear hx114_0
           try clear p1
           try clear p10
           try clear p102
           try clear p104
           try clear p106
           try clear p108
           try clear p11
           try clear p110
           try clear p112
           try clear p114
           try clear p2
           try clear p6
           try clear q1
           try clear q10
           try clear q102
           try clear q104
           try clear q106
           try clear q108
           try clear q11
           try clear q110
           try clear q112
           try clear q114
           obtain ⟨x7_4, rfl, HA, HK4, BK101, HB⟩ := hrel
           cases gk with
           | zero => exact absurd HA.out (by simp [spec_LatOk.l4])
           | succ k4 =>
            have H := HA.out
            clear HA
            simp only [spec_LatOk.l4] at H
            by_cases c55 : x7_4 < x6_3
            ·rw [if_pos c55] at H
             have c55b0 : decide (x7_4 < x6_3) = true := decide_eq_true c55
             clear c55
             replace H := Option.bind_eq_some_iff.mp H
             obtain ⟨t116, A560, H⟩ := H
             replace H : (if t116 < 0 then (some false) else ((spec_l01Bound.f k4 a0_0 l0_1 x6_3 x7_4 false).bind fun t117 => (if t117 < 0 then (some false) else (spec_LatOk.l4 k4 x6_3 (wrap64 (x7_4 + 1)) a0_0 l0_1)))) = some r := H
             have A56 := Aside0.mk A560
             clear A560
             by_cases c57 : t116 < 0
             ·rw [if_pos c57] at H
              have c57b0 : decide (t116 < 0) = true := decide_eq_true c57
              clear c57
              obtain rfl := Option.some.inj H
              have hcz58_0 : wr.cell? ⟨gb101, 0, none⟩ = some (.int .i64 a0_0) := (blk_cell BK101.out 0).trans rfl
              have hcz58_1 : wr.cell? ⟨gb101, 1, none⟩ = some (.slice A0_1 l0_1.length c0_1) := (blk_cell BK101.out 1).trans rfl
              have hfz58_0 := blk_frozen BK101.out 0
              have hfz58_1 := blk_frozen BK101.out 1
              go_wp2_with (first | (go_at_call 122; (with_reducible refine (spec_l01Bound.calls k4 a0_0 _ _ l0_1 x6_3 x7_4 true t116 _ ?side1 ?side2 A56.out).mono ?_); (case side1 => exact qz17 HR0_1.out); (case side2 => exact HC0_1.out); rintro e w59 ⟨rfl, hb⟩; have n0_ := Aside0.mk (blk_below (g := gb101) (o := .cells #[.int .i64 a0_0, .slice A0_1 l0_1.length c0_1] 47 (0, 0)) (qz8 BK101.out) hb); have n1_ := Aside0.mk (below_step (qz10 GE101.out) hb); clear BK101; clear HB; have BK101 := n0_; have HB := n1_; clear n0_ n1_; (try clear hb); (try clear hb2); (try clear hk); (try clear hi)))
              repeat (go_quiet (first | (go_at_call 122; (with_reducible refine (spec_l01Bound.calls k4 a0_0 _ _ l0_1 x6_3 x7_4 true t116 _ ?side1 ?side2 A56.out).mono ?_); (case side1 => exact qz17 HR0_1.out); (case side2 => exact HC0_1.out); rintro e w59 ⟨rfl, hb⟩; have n0_ := Aside0.mk (blk_below (g := gb101) (o := .cells #[.int .i64 a0_0, .slice A0_1 l0_1.length c0_1] 47 (0, 0)) (qz8 BK101.out) hb); have n1_ := Aside0.mk (below_step (qz10 GE101.out) hb); clear BK101; clear HB; have BK101 := n0_; have HB := n1_; clear n0_ n1_; (try clear hb); (try clear hb2); (try clear hk); (try clear hi))); try go_wp2_with (first | (go_at_call 122; (with_reducible refine (spec_l01Bound.calls k4 a0_0 _ _ l0_1 x6_3 x7_4 true t116 _ ?side1 ?side2 A56.out).mono ?_); (case side1 => exact qz17 HR0_1.out); (case side2 => exact HC0_1.out); rintro e w59 ⟨rfl, hb⟩; have n0_ := Aside0.mk (blk_below (g := gb101) (o := .cells #[.int .i64 a0_0, .slice A0_1 l0_1.length c0_1] 47 (0, 0)) (qz8 BK101.out) hb); have n1_ := Aside0.mk (below_step (qz10 GE101.out) hb); clear BK101; clear HB; have BK101 := n0_; have HB := n1_; clear n0_ n1_; (try clear hb); (try clear hb2); (try clear hk); (try clear hi))))
              go_ret
              exact ⟨qz13, qz10 GE101.out⟩
             ·rw [if_neg c57] at H
              have c57b0 : decide (t116 < 0) = false := decide_eq_false c57
              clear c57
              replace H := Option.bind_eq_some_iff.mp H
              obtain ⟨t117, A600, H⟩ := H
              replace H : (if t117 < 0 then (some false) else (spec_LatOk.l4 k4 x6_3 (wrap64 (x7_4 + 1)) a0_0 l0_1)) = some r := H
              have A60 := Aside0.mk A600
              clear A600
              by_cases c61 : t117 < 0
              ·rw [if_pos c61] at H
               have c61b0 : decide (t117 < 0) = true := decide_eq_true c61
               clear c61
               obtain rfl := Option.some.inj H
               have hcz62_0 : wr.cell? ⟨gb101, 0, none⟩ = some (.int .i64 a0_0) := (blk_cell BK101.out 0).trans rfl
               have hcz62_1 : wr.cell? ⟨gb101, 1, none⟩ = some (.slice A0_1 l0_1.length c0_1) := (blk_cell BK101.out 1).trans rfl
               have hfz62_0 := blk_frozen BK101.out 0
               have hfz62_1 := blk_frozen BK101.out 1
               go_wp2_with (first | (go_at_call 122; (with_reducible refine (spec_l01Bound.calls k4 a0_0 _ _ l0_1 x6_3 x7_4 true t116 _ ?side1 ?side2 A56.out).mono ?_); (case side1 => exact qz17 HR0_1.out); (case side2 => exact HC0_1.out); rintro e w63 ⟨rfl, hb⟩; have n0_ := Aside0.mk (blk_below (g := gb101) (o := .cells #[.int .i64 a0_0, .slice A0_1 l0_1.length c0_1] 47 (0, 0)) (qz8 BK101.out) hb); have n1_ := Aside0.mk (below_step (qz10 GE101.out) hb); clear BK101; clear HB; have BK101 := n0_; have HB := n1_; clear n0_ n1_; (try clear hb); (try clear hb2); (try clear hk); (try clear hi); have hcz64_0 : w63.cell? ⟨gb101, 0, none⟩ = some (.int .i64 a0_0) := (blk_cell BK101.out 0).trans rfl; have hcz64_1 : w63.cell? ⟨gb101, 1, none⟩ = some (.slice A0_1 l0_1.length c0_1) := (blk_cell BK101.out 1).trans rfl; have hfz64_0 := blk_frozen BK101.out 0; have hfz64_1 := blk_frozen BK101.out 1) | (go_at_call 122; (with_reducible refine (spec_l01Bound.calls k4 a0_0 _ _ l0_1 x6_3 x7_4 false t117 _ ?side1 ?side2 A60.out).mono ?_); (case side1 => exact qz17 HR0_1.out); (case side2 => exact HC0_1.out); rintro e w65 ⟨rfl, hb⟩; have n0_ := Aside0.mk (blk_below (g := gb101) (o := .cells #[.int .i64 a0_0, .slice A0_1 l0_1.length c0_1] 47 (0, 0)) (qz8 BK101.out) hb); have n1_ := Aside0.mk (below_step (qz10 GE101.out) hb); clear BK101; clear HB; have BK101 := n0_; have HB := n1_; clear n0_ n1_; (try clear hb); (try clear hb2); (try clear hk); (try clear hi)))
               repeat (go_quiet (first | (go_at_call 122; (with_reducible refine (spec_l01Bound.calls k4 a0_0 _ _ l0_1 x6_3 x7_4 true t116 _ ?side1 ?side2 A56.out).mono ?_); (case side1 => exact qz17 HR0_1.out); (case side2 => exact HC0_1.out); rintro e w63 ⟨rfl, hb⟩; have n0_ := Aside0.mk (blk_below (g := gb101) (o := .cells #[.int .i64 a0_0, .slice A0_1 l0_1.length c0_1] 47 (0, 0)) (qz8 BK101.out) hb); have n1_ := Aside0.mk (below_step (qz10 GE101.out) hb); clear BK101; clear HB; have BK101 := n0_; have HB := n1_; clear n0_ n1_; (try clear hb); (try clear hb2); (try clear hk); (try clear hi); have hcz64_0 : w63.cell? ⟨gb101, 0, none⟩ = some (.int .i64 a0_0) := (blk_cell BK101.out 0).trans rfl; have hcz64_1 : w63.cell? ⟨gb101, 1, none⟩ = some (.slice A0_1 l0_1.length c0_1) := (blk_cell BK101.out 1).trans rfl; have hfz64_0 := blk_frozen BK101.out 0; have hfz64_1 := blk_frozen BK101.out 1) | (go_at_call 122; (with_reducible refine (spec_l01Bound.calls k4 a0_0 _ _ l0_1 x6_3 x7_4 false t117 _ ?side1 ?side2 A60.out).mono ?_); (case side1 => exact qz17 HR0_1.out); (case side2 => exact HC0_1.out); rintro e w65 ⟨rfl, hb⟩; have n0_ := Aside0.mk (blk_below (g := gb101) (o := .cells #[.int .i64 a0_0, .slice A0_1 l0_1.length c0_1] 47 (0, 0)) (qz8 BK101.out) hb); have n1_ := Aside0.mk (below_step (qz10 GE101.out) hb); clear BK101; clear HB; have BK101 := n0_; have HB := n1_; clear n0_ n1_; (try clear hb); (try clear hb2); (try clear hk); (try clear hi))); try go_wp2_with (first | (go_at_call 122; (with_reducible refine (spec_l01Bound.calls k4 a0_0 _ _ l0_1 x6_3 x7_4 true t116 _ ?side1 ?side2 A56.out).mono ?_); (case side1 => exact qz17 HR0_1.out); (case side2 => exact HC0_1.out); rintro e w63 ⟨rfl, hb⟩; have n0_ := Aside0.mk (blk_below (g := gb101) (o := .cells #[.int .i64 a0_0, .slice A0_1 l0_1.length c0_1] 47 (0, 0)) (qz8 BK101.out) hb); have n1_ := Aside0.mk (below_step (qz10 GE101.out) hb); clear BK101; clear HB; have BK101 := n0_; have HB := n1_; clear n0_ n1_; (try clear hb); (try clear hb2); (try clear hk); (try clear hi); have hcz64_0 : w63.cell? ⟨gb101, 0, none⟩ = some (.int .i64 a0_0) := (blk_cell BK101.out 0).trans rfl; have hcz64_1 : w63.cell? ⟨gb101, 1, none⟩ = some (.slice A0_1 l0_1.length c0_1) := (blk_cell BK101.out 1).trans rfl; have hfz64_0 := blk_frozen BK101.out 0; have hfz64_1 := blk_frozen BK101.out 1) | (go_at_call 122; (with_reducible refine (spec_l01Bound.calls k4 a0_0 _ _ l0_1 x6_3 x7_4 false t117 _ ?side1 ?side2 A60.out).mono ?_); (case side1 => exact qz17 HR0_1.out); (case side2 => exact HC0_1.out); rintro e w65 ⟨rfl, hb⟩; have n0_ := Aside0.mk (blk_below (g := gb101) (o := .cells #[.int .i64 a0_0, .slice A0_1 l0_1.length c0_1] 47 (0, 0)) (qz8 BK101.out) hb); have n1_ := Aside0.mk (below_step (qz10 GE101.out) hb); clear BK101; clear HB; have BK101 := n0_; have HB := n1_; clear n0_ n1_; (try clear hb); (try clear hb2); (try clear hk); (try clear hi))))
               go_ret
               exact ⟨qz13, qz10 GE101.out⟩
              ·rw [if_neg c61] at H
               have c61b0 : decide (t117 < 0) = false := decide_eq_false c61
               clear c61
               have H' := Aside0.mk H
               clear H
               have hcz66_0 : wr.cell? ⟨gb101, 0, none⟩ = some (.int .i64 a0_0) := (blk_cell BK101.out 0).trans rfl
               have hcz66_1 : wr.cell? ⟨gb101, 1, none⟩ = some (.slice A0_1 l0_1.length c0_1) := (blk_cell BK101.out 1).trans rfl
               have hfz66_0 := blk_frozen BK101.out 0
               have hfz66_1 := blk_frozen BK101.out 1
               go_wp2_with (first | (go_at_call 122; (with_reducible refine (spec_l01Bound.calls k4 a0_0 _ _ l0_1 x6_3 x7_4 true t116 _ ?side1 ?side2 A56.out).mono ?_); (case side1 => exact qz17 HR0_1.out); (case side2 => exact HC0_1.out); rintro e w67 ⟨rfl, hb⟩; have n0_ := Aside0.mk (blk_below (g := gb101) (o := .cells #[.int .i64 a0_0, .slice A0_1 l0_1.length c0_1] 47 (0, 0)) (qz8 BK101.out) hb); have n1_ := Aside0.mk (below_step (qz10 GE101.out) hb); clear BK101; clear HB; have BK101 := n0_; have HB := n1_; clear n0_ n1_; (try clear hb); (try clear hb2); (try clear hk); (try clear hi); have hcz68_0 : w67.cell? ⟨gb101, 0, none⟩ = some (.int .i64 a0_0) := (blk_cell BK101.out 0).trans rfl; have hcz68_1 : w67.cell? ⟨gb101, 1, none⟩ = some (.slice A0_1 l0_1.length c0_1) := (blk_cell BK101.out 1).trans rfl; have hfz68_0 := blk_frozen BK101.out 0; have hfz68_1 := blk_frozen BK101.out 1) | (go_at_call 122; (with_reducible refine (spec_l01Bound.calls k4 a0_0 _ _ l0_1 x6_3 x7_4 false t117 _ ?side1 ?side2 A60.out).mono ?_); (case side1 => exact qz17 HR0_1.out); (case side2 => exact HC0_1.out); rintro e w69 ⟨rfl, hb⟩; have n0_ := Aside0.mk (blk_below (g := gb101) (o := .cells #[.int .i64 a0_0, .slice A0_1 l0_1.length c0_1] 47 (0, 0)) (qz8 BK101.out) hb); have n1_ := Aside0.mk (below_step (qz10 GE101.out) hb); clear BK101; clear HB; have BK101 := n0_; have HB := n1_; clear n0_ n1_; (try clear hb); (try clear hb2); (try clear hk); (try clear hi)))
               repeat (go_quiet (first | (go_at_call 122; (with_reducible refine (spec_l01Bound.calls k4 a0_0 _ _ l0_1 x6_3 x7_4 true t116 _ ?side1 ?side2 A56.out).mono ?_); (case side1 => exact qz17 HR0_1.out); (case side2 => exact HC0_1.out); rintro e w67 ⟨rfl, hb⟩; have n0_ := Aside0.mk (blk_below (g := gb101) (o := .cells #[.int .i64 a0_0, .slice A0_1 l0_1.length c0_1] 47 (0, 0)) (qz8 BK101.out) hb); have n1_ := Aside0.mk (below_step (qz10 GE101.out) hb); clear BK101; clear HB; have BK101 := n0_; have HB := n1_; clear n0_ n1_; (try clear hb); (try clear hb2); (try clear hk); (try clear hi); have hcz68_0 : w67.cell? ⟨gb101, 0, none⟩ = some (.int .i64 a0_0) := (blk_cell BK101.out 0).trans rfl; have hcz68_1 : w67.cell? ⟨gb101, 1, none⟩ = some (.slice A0_1 l0_1.length c0_1) := (blk_cell BK101.out 1).trans rfl; have hfz68_0 := blk_frozen BK101.out 0; have hfz68_1 := blk_frozen BK101.out 1) | (go_at_call 122; (with_reducible refine (spec_l01Bound.calls k4 a0_0 _ _ l0_1 x6_3 x7_4 false t117 _ ?side1 ?side2 A60.out).mono ?_); (case side1 => exact qz17 HR0_1.out); (case side2 => exact HC0_1.out); rintro e w69 ⟨rfl, hb⟩; have n0_ := Aside0.mk (blk_below (g := gb101) (o := .cells #[.int .i64 a0_0, .slice A0_1 l0_1.length c0_1] 47 (0, 0)) (qz8 BK101.out) hb); have n1_ := Aside0.mk (below_step (qz10 GE101.out) hb); clear BK101; clear HB; have BK101 := n0_; have HB := n1_; clear n0_ n1_; (try clear hb); (try clear hb2); (try clear hk); (try clear hi))); try go_wp2_with (first | (go_at_call 122; (with_reducible refine (spec_l01Bound.calls k4 a0_0 _ _ l0_1 x6_3 x7_4 true t116 _ ?side1 ?side2 A56.out).mono ?_); (case side1 => exact qz17 HR0_1.out); (case side2 => exact HC0_1.out); rintro e w67 ⟨rfl, hb⟩; have n0_ := Aside0.mk (blk_below (g := gb101) (o := .cells #[.int .i64 a0_0, .slice A0_1 l0_1.length c0_1] 47 (0, 0)) (qz8 BK101.out) hb); have n1_ := Aside0.mk (below_step (qz10 GE101.out) hb); clear BK101; clear HB; have BK101 := n0_; have HB := n1_; clear n0_ n1_; (try clear hb); (try clear hb2); (try clear hk); (try clear hi); have hcz68_0 : w67.cell? ⟨gb101, 0, none⟩ = some (.int .i64 a0_0) := (blk_cell BK101.out 0).trans rfl; have hcz68_1 : w67.cell? ⟨gb101, 1, none⟩ = some (.slice A0_1 l0_1.length c0_1) := (blk_cell BK101.out 1).trans rfl; have hfz68_0 := blk_frozen BK101.out 0; have hfz68_1 := blk_frozen BK101.out 1) | (go_at_call 122; (with_reducible refine (spec_l01Bound.calls k4 a0_0 _ _ l0_1 x6_3 x7_4 false t117 _ ?side1 ?side2 A60.out).mono ?_); (case side1 => exact qz17 HR0_1.out); (case side2 => exact HC0_1.out); rintro e w69 ⟨rfl, hb⟩; have n0_ := Aside0.mk (blk_below (g := gb101) (o := .cells #[.int .i64 a0_0, .slice A0_1 l0_1.length c0_1] 47 (0, 0)) (qz8 BK101.out) hb); have n1_ := Aside0.mk (below_step (qz10 GE101.out) hb); clear BK101; clear HB; have BK101 := n0_; have HB := n1_; clear n0_ n1_; (try clear hb); (try clear hb2); (try clear hk); (try clear hi))))
               go_roundg k4
               case measure => have := HJ1.out; have := HK2.out; have := HK3.out; have := HK4.out; omega
               case rel => exact ⟨(wrap64 (x7_4 + 1)), qz2, H', ⟨qz32 HJ1.out HK2.out HK3.out HK4.out⟩, ⟨qz8 BK101.out⟩, ⟨qz10 GE101.out⟩⟩
            ·rw [if_neg c55] at H
             have c55b0 : decide (x7_4 < x6_3) = false := decide_eq_false c55
             clear c55
             have H' := Aside0.mk H
             clear H
             go_wp2
             repeat (go_quiet (fail); try go_wp2)
             go_roundg k4
             case measure => have := HJ1.out; have := HK2.out; have := HK3.out; have := HK4.out; omega
             case rel => exact ⟨(wrap64 (x6_3 + 1)), qz2, H', ⟨qz32 HJ1.out HK2.out HK3.out HK4.out⟩, ⟨qz8 BK101.out⟩, ⟨qz10 GE101.out⟩⟩
         ·rw [if_neg c53] at H
          have c53b0 : decide (x6_3 < a0_0) = false := decide_eq_false c53
          clear c53
          obtain rfl := Option.some.inj H
          have hcz70_0 : wr.cell? ⟨gb101, 0, none⟩ = some (.int .i64 a0_0) := (blk_cell BK101.out 0).trans rfl
          have hcz70_1 : wr.cell? ⟨gb101, 1, none⟩ = some (.slice A0_1 l0_1.length c0_1) := (blk_cell BK101.out 1).trans rfl
          have hfz70_0 := blk_frozen BK101.out 0
          have hfz70_1 := blk_frozen BK101.out 1
          go_wp2
          repeat (go_quiet (fail); try go_wp2)
          go_ret
          exact ⟨qz13, qz10 GE101.out⟩

end Go.Proofs.Ytjhfjnknajhanaa.P
