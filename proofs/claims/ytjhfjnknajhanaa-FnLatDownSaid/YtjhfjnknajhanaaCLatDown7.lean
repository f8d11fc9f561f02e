/- Part 7 of 9 of the proof of FnLatDown: functions on lists and numbers, contracts of Go functions, plain lemmas. -/
import Derived.Test.YtjhfjnknajhanaaCLatDown5
import Derived.Test.YtjhfjnknajhanaaCLatDown6
namespace Go.Proofs.Ytjhfjnknajhanaa.P
open Go.RowKit Go.Proofs.YtjhfjnknajhanaaW.PrintWords Go.Proofs.YtjhfjnknajhanaaW.PrintLast Go.Proofs.YtjhfjnknajhanaaW.PrintMore
attribute [local go_sem] max2_int min2_int max_two min_two max_three min_three max_four min_four   -- for this text's walks alone
set_option linter.unusedVariables false
set_option linter.unusedSimpArgs false

/-! ### spec_LatOf: function 272 -/
def spec_LatOf.T15 : Bool × List (List Nat × List Nat) := (true, [([], []), ([], []), ([1], [1]), ([0, 2], [0, 2]), ([3], [3]), ([], []), ([5], [5]), ([4, 6, 0, 1, 2, 3, 4, 5, 6], [4, 6]), ([7, 0, 1, 2, 3, 4, 5, 6], [7])])
def spec_LatOf.B15 : List Nat := [0, 0, 2, 7, 15, 0, 32, 127, 255]
theorem spec_LatOf.tab15 : rtab .any (opsOf Try.f272 15) = spec_LatOf.T15 := by kernel_rfl
theorem spec_LatOf.bits15 : waitsOk spec_LatOf.T15.2 spec_LatOf.B15 = true := by kernel_rfl
def spec_LatOf.T25 : Bool × List (List Nat × List Nat) := (true, [([], []), ([], []), ([0, 1], [0, 1]), ([2], [2]), ([], []), ([], []), ([], []), ([5, 6], [5, 6]), ([7], [7]), ([], []), ([8, 9], [8, 9]), ([10], [10]), ([11], [11]), ([12], [12]), ([12], [12]), ([13, 14, 12], [12, 13, 14]), ([15, 12], [12, 15]), ([12], [12]), ([16, 17, 12], [12, 16, 17]), ([18, 12], [12, 18]), ([19, 12, 12], [12, 19]), ([20], [20]), ([20], [20]), ([21, 22, 20], [20, 21, 22]), ([23, 20], [20, 23]), ([20], [20]), ([24, 25, 20], [20, 24, 25]), ([26, 20], [20, 26]), ([20, 27, 12], [12, 20, 27]), ([12, 28], [12, 28]), ([3, 4, 0, 1, 2, 3, 4, 5, 6, 7, 8, 9, 10, 11, 12, 13, 14, 15, 16, 17, 18, 19, 20, 21, 22, 23, 24, 25, 26, 27, 28, 29], [3, 4]), ([30, 29, 20, 0, 1, 2, 3, 4, 5, 6, 7, 8, 9, 10, 11, 12, 13, 14, 15, 16, 17, 18, 19, 20, 21, 22, 23, 24, 25, 26, 27, 28, 29], [29, 30])])
def spec_LatOf.B25 : List Nat := [0, 0, 3, 7, 0, 0, 0, 96, 224, 0, 992, 2016, 4064, 8160, 8160, 32736, 65504, 8160, 262112, 524256, 1048544, 2097120, 2097120, 8388576, 16777184, 2097120, 67108832, 134217696, 268435424, 536870880, 1073741823, 2147483647]
theorem spec_LatOf.tab25 : rtab .any (opsOf Try.f272 25) = spec_LatOf.T25 := by kernel_rfl
theorem spec_LatOf.bits25 : waitsOk spec_LatOf.T25.2 spec_LatOf.B25 = true := by kernel_rfl
set_option maxHeartbeats 8000000 in
set_option maxRecDepth 100000 in
theorem spec_LatOf.calls (k : Nat) (a0 : Int) (A1 : Option Addr) (c1 : Nat) (l1 : List (S151)) (r1 : Int) (r2 : List Int) (r3 : Bool) (w : World) (hr1 : Kd.C k151 w A1 l1.length l1) (hc1 : l1.length ≤ c1) (h : spec_LatOf.f k a0 l1 = some (r1, r2, r3)) :
  Calls Try.prog 272 #[.int .i64 a0, .slice A1 l1.length c1] w fun e w' => ∃ v1_ : Value, e = .returned (.tuple #[.agg #[.int .i64 r1, v1_], .bool r3]) ∧ Kd.R (Kd.int .u64) 153 w' w.heap.size (fun _ => True) v1_ r2 ∧ Below w.heap.size w w' := by
 have hu47 := Try.underlying47
 have hu151 := Try.underlying151
 have HR1 := Aside0.mk hr1
 have HC1 := Aside0.mk hc1
 clear hr1 hc1
 have HB := Aside0.mk (Below.refl w.heap.size w)
 have H : (if a0 < 1 then (spec_LatOf.j0 k a0 l1 true) else (if a0 > 16 then (spec_LatOf.j0 k a0 l1 true) else (spec_LatOf.j0 k a0 l1 (decide ((l1.length : Int) > 100))))) = some (r1, r2, r3) := h
 clear h
 have HC3 := Aside0.mk H
 clear H
 go_enter Try.func272, Try.ntmps272
 go_upto_region 1 with (first | ((with_reducible refine gate_dst (N := 4) rfl ?_); (try (refine gate_guard (by rfl) ?_; dsimp only)); refine box_event ?hg (N := 4) ?hd (cs := #[.int .i64 0, .slice none 0 0]) (t := 47) ?hr ?_; (case hd => rfl); (case hg => rfl); (case hr => exact qz5); intro gb101 hg w4 hbox hb; have n0_ := Aside0.mk (below_step qz6 hb); have n1_ := Aside0.mk (hbox); have n2_ := Aside0.mk ((qz7 : w.heap.size ≤ gb101)); have n3_ := Aside0.mk ((qz7 : w.heap.size ≤ gb101)); clear HB; have HB := n0_; have BK101 := n1_; have GW101 := n2_; have GE101 := n3_; clear n0_ n1_ n2_ n3_; clear hb hbox hg))
 (try simp only [Act.put, List.setIfInBounds_toArray, List.set_cons_zero, List.set_cons_succ])
 go_cut [27] (fun v27 wc => ∃ (kq : Nat) (x27_2 : Bool), v27 = .bool x27_2 ∧ Aside0 (spec_LatOf.j0 kq a0 l1 x27_2 = some (r1, r2, r3)) ∧ Aside0 (kq ≤ k) ∧ Aside0 (wc.heap[gb101]? = some (.cells #[.int .i64 0, (.slice none 0 0)] 47 (0, 0))) ∧ Aside0 (Below w.heap.size w wc))
 case first =>
  have H := HC3.out
  clear HC3
  by_cases c5 : a0 < 1
  ·rw [if_pos c5] at H
   have c5b0 : decide (a0 < 1) = true := decide_eq_true c5
   clear c5
   (first | rw [c5b0] | (simp only [i64_w, i32_w]; rw [c5b0]) | skip)
   have H' := Aside0.mk H
   clear H
   go_wp2
   go_meet
   case rel => exact ⟨_, (true), qz2, H', ⟨qz36⟩, ⟨qz8 BK101.out⟩, ⟨qz10 GE101.out⟩⟩
  ·rw [if_neg c5] at H
   have c5b0 : decide (a0 < 1) = false := decide_eq_false c5
   clear c5
   (first | rw [c5b0] | (simp only [i64_w, i32_w]; rw [c5b0]) | skip)
   by_cases c6 : a0 > 16
   ·rw [if_pos c6] at H
    have c6b0 : decide (16 < a0) = true := decide_eq_true c6
    clear c6
    have H' := Aside0.mk H
    clear H
    go_wp2
    go_meet
    case rel => exact ⟨_, (true), qz2, H', ⟨qz36⟩, ⟨qz8 BK101.out⟩, ⟨qz10 GE101.out⟩⟩
   ·rw [if_neg c6] at H
    have c6b0 : decide (16 < a0) = false := decide_eq_false c6
    clear c6
    have H' := Aside0.mk H
    clear H
    go_wp2
    go_meet
    case rel => exact ⟨_, (decide ((l1.length : Int) > 100)), qz2, H', ⟨qz36⟩, ⟨qz8 BK101.out⟩, ⟨qz10 GE101.out⟩⟩
 case rest =>
  clear HC3
  try clear c1
  try clear c2
  try clear p2
  try clear c5
  try clear c5b0
  try clear c6
  try clear c6b0
  obtain ⟨kq, x27_2, rfl, HA, HJ2, BK101, HB⟩ := hcut
  cases kq with
  | zero => exact absurd HA.out (by simp [spec_LatOf.j0])
  | succ kj2 =>
   have H := HA.out
   clear HA
   simp only [spec_LatOf.j0] at H
   by_cases c7 : x27_2 = true
   ·subst c7
    have H1 : (some (0, ([] : List Int), false)) = some (r1, r2, r3) := by rw [if_pos rfl] at H; exact H
    clear H
    have H := H1
    clear H1
    simp only [Option.some.injEq, Prod.mk.injEq] at H
    obtain ⟨rfl, rfl, rfl⟩ := H
    have hcz8_0 : wc.cell? ⟨gb101, 0, none⟩ = some (.int .i64 0) := (blk_cell BK101.out 0).trans rfl
    have hcz8_1 : wc.cell? ⟨gb101, 1, none⟩ = some (.slice none 0 0) := (blk_cell BK101.out 1).trans rfl
    have hfz8_0 := blk_frozen BK101.out 0
    have hfz8_1 := blk_frozen BK101.out 1
    go_wp2
    refine bodyPost_ret (results_ct rfl _ _ gb101 47 #[.int .i64 0, .slice none 0 0] (0, 0) _ rfl (qz37 BK101.out) Try.underlying47 rfl (by kernel_rfl)) rfl ?_
    exact ⟨_, qz13, qz15, qz10 GE101.out⟩
   ·replace c7 := Bool.eq_false_iff.mpr c7
    subst c7
    have H1 : (if 0 ≤ a0 then (if (a0 : Int).toNat ≤ 11728124029610 then (spec_LatOf.l0 kj2 a0 l1 (List.replicate (a0 : Int).toNat []) 0) else (none)) else (none)) = some (r1, r2, r3) := by rw [if_neg (show ¬ (false = true) by decide)] at H; exact H
    clear H
    have H := H1
    clear H1
    by_cases c9 : 0 ≤ a0
    ·rw [if_pos c9] at H
     have c9b0 := eq_true c9
     have c9b1 : decide (0 ≤ a0) = true := decide_eq_true c9
     clear c9
     by_cases c10 : (a0 : Int).toNat ≤ 11728124029610
     ·rw [if_pos c10] at H
      have c10b0 := eq_true c10
      have c10b1 : decide ((a0 : Int).toNat ≤ 11728124029610) = true := decide_eq_true c10
      clear c10
      obtain ⟨y102, hy102⟩ : ∃ y_ : List (List Bool), y_ = (List.replicate (a0 : Int).toNat []) := ⟨_, rfl⟩
      replace H : (spec_LatOf.l0 kj2 a0 l1 y102 0) = some (r1, r2, r3) := by first | (rw [hy102]; with_reducible exact H) | (have H2_ := (Option.bind_some _ _).symm.trans H; rw [hy102]; with_reducible exact H2_) | (have H2_ := (Option.bind_some _ _).symm.trans H; with_reducible exact H2_) | with_reducible exact H | (rw [hy102]; exact H) | exact H
      have Ny102 := Aside0.mk hy102
      clear hy102
      have H' := Aside0.mk H
      clear H
      go_wp2_with (first | ((with_reducible refine gate_dst (N := 30) rfl ?_); (try (refine gate_guard (by rfl) ?_; dsimp only)); refine Kd.S_make (Kd.slice 4 Kd.bool) _ 277 rfl (N := 30) rfl 276 _ _ rfl a0 rfl rfl Try.underlying276 (.slice none 0 0) 24 info277 rfl (by decide) (by omega) [] (ok := fun _ => True) (okp := fun _ => True) ⟨_, rfl, Kd.R_nil _ _ _ _ _⟩ (fun _ hk => hk) trivial (of_decide_eq_true qz4) (Nat.le_trans (Nat.mul_le_mul_right _ (of_decide_eq_true qz4 : a0.toNat ≤ 11728124029610)) (by omega)) (Below.refl _ _) (Nat.le_refl _) ?_; intro v103 w11 ho12 hb hg_ hnew_; clear hg_ hnew_; (first | rw [← Ny102.out] at ho12 | (simp only [Int.reduceToNat] at ho12; rw [← Ny102.out] at ho12)); have n0_ := Aside0.mk (Kd.S_lower ho12 (below_size (qz10 GE101.out))); have n1_ := Aside0.mk (blk_below (g := gb101) (o := .cells #[.int .i64 0, .slice none 0 0] 47 (0, 0)) (qz8 BK101.out) hb); have n2_ := Aside0.mk (below_step (qz10 GE101.out) hb); clear BK101; clear HB; have HO104 := n0_; have BK101 := n1_; have HB := n2_; clear n0_ n1_ n2_; clear hb ho12))
      go_loopg [7] kj2 (fun kq v7 w' => ∃ (x6_2 : List (List Bool)) (x7_2 : Int), v7 = .int .i64 x7_2 ∧ Aside0 (spec_LatOf.l0 kq a0 l1 x6_2 x7_2 = some (r1, r2, r3)) ∧ Aside0 (kq ≤ kj2) ∧ Aside0 (Kd.S (Kd.slice 4 Kd.bool) 277 w' w.heap.size (fun _ => True) v103 x6_2) ∧ Aside0 (w'.heap[gb101]? = some (.cells #[.int .i64 0, (.slice none 0 0)] 47 (0, 0))) ∧ Aside0 (Below w.heap.size w w'))
      case atStart => exact ⟨(y102), (0), qz2, H', ⟨Nat.le_refl _⟩, ⟨qz257 HO104.out⟩, ⟨qz8 BK101.out⟩, ⟨qz10 GE101.out⟩⟩
      case round =>
       clear H'
       try clear c1
       try clear c2
       try clear p2
       try clear c5
       try clear c5b0
       try clear c6
       try clear c6b0
       try clear c7
       try clear c9
       try clear c9b0
       try clear c9b1
       try clear c10
       try clear c10b0
       try clear c10b1
       try clear hcz8_0
       try clear hcz8_1
       try clear hfz8_0
       try clear hfz8_1
       try clear p2
       obtain ⟨x6_2, x7_2, rfl, HA, HK2, HO_6, BK101, HB⟩ := hrel
       cases gk with
       | zero => exact absurd HA.out (by simp [spec_LatOf.l0])
       | succ k2 =>
        have H := HA.out
        clear HA
        simp only [spec_LatOf.l0] at H
        by_cases c13 : x7_2 < a0
        ·rw [if_pos c13] at H
         have c13b0 : decide (x7_2 < a0) = true := decide_eq_true c13
         clear c13
         by_cases c14 : 0 ≤ a0
         ·rw [if_pos c14] at H
          have c14b0 := eq_true c14
          have c14b1 : decide (0 ≤ a0) = true := decide_eq_true c14
          clear c14
          by_cases c15 : (a0 : Int).toNat ≤ 281474976710656
          ·rw [if_pos c15] at H
           have c15b0 := eq_true c15
           have c15b1 : decide ((a0 : Int).toNat ≤ 281474976710656) = true := decide_eq_true c15
           clear c15
           obtain ⟨y105, hy105⟩ : ∃ y_ : List Bool, y_ = (List.replicate (a0 : Int).toNat false) := ⟨_, rfl⟩
           replace H : (if 0 ≤ x7_2 then (if x7_2 < (x6_2.length : Int) then ((some (x6_2.set (x7_2 : Int).toNat y105 : List (List Bool))).bind fun y108 => (if x7_2 < ((rd_L43 y108 x7_2).length : Int) then (spec_LatOf.l0 k2 a0 l1 (y108.set (x7_2 : Int).toNat ((rd_L43 y108 x7_2).set (x7_2 : Int).toNat true)) (wrap64 (x7_2 + 1))) else (none))) else (none)) else (none)) = some (r1, r2, r3) := by first | (rw [hy105]; with_reducible exact H) | (have H2_ := (Option.bind_some _ _).symm.trans H; rw [hy105]; with_reducible exact H2_) | (have H2_ := (Option.bind_some _ _).symm.trans H; with_reducible exact H2_) | with_reducible exact H | (rw [hy105]; exact H) | exact H
           have Ny105 := Aside0.mk hy105
           clear hy105
           by_cases c16 : 0 ≤ x7_2
           ·rw [if_pos c16] at H
            have c16b0 : decide (0 ≤ x7_2) = true := decide_eq_true c16
            clear c16
            by_cases c17 : x7_2 < (x6_2.length : Int)
            ·rw [if_pos c17] at H
             have c17b0 : decide (x7_2 < (x6_2.length : Int)) = true := decide_eq_true c17
             clear c17
             obtain ⟨y108, hy108⟩ : ∃ y_ : List (List Bool), y_ = (x6_2.set (x7_2 : Int).toNat y105) := ⟨_, rfl⟩
             replace H : (if x7_2 < ((rd_L43 y108 x7_2).length : Int) then (spec_LatOf.l0 k2 a0 l1 (y108.set (x7_2 : Int).toNat ((rd_L43 y108 x7_2).set (x7_2 : Int).toNat true)) (wrap64 (x7_2 + 1))) else (none)) = some (r1, r2, r3) := by first | (rw [hy108]; with_reducible exact H) | (have H2_ := (Option.bind_some _ _).symm.trans H; rw [hy108]; with_reducible exact H2_) | (have H2_ := (Option.bind_some _ _).symm.trans H; with_reducible exact H2_) | with_reducible exact H | (rw [hy108]; exact H) | exact H
             have Ny108 := Aside0.mk hy108
             clear hy108
             by_cases c19 : x7_2 < ((rd_L43 y108 x7_2).length : Int)
             ·rw [if_pos c19] at H
              have c19b0 : decide (x7_2 < ((rd_L43 y108 x7_2).length : Int)) = true := decide_eq_true c19
              clear c19
              obtain ⟨y110, hy110⟩ : ∃ y_ : List Bool, y_ = ((rd_L43 y108 x7_2).set (x7_2 : Int).toNat true) := ⟨_, rfl⟩
              replace H : (spec_LatOf.l0 k2 a0 l1 (y108.set (x7_2 : Int).toNat y110) (wrap64 (x7_2 + 1))) = some (r1, r2, r3) := by first | (rw [hy110]; with_reducible exact H) | (have H2_ := (Option.bind_some _ _).symm.trans H; rw [hy110]; with_reducible exact H2_) | (have H2_ := (Option.bind_some _ _).symm.trans H; with_reducible exact H2_) | with_reducible exact H | (rw [hy110]; exact H) | exact H
              have Ny110 := Aside0.mk hy110
              clear hy110
              obtain ⟨y112, hy112⟩ : ∃ y_ : List (List Bool), y_ = (y108.set (x7_2 : Int).toNat y110) := ⟨_, rfl⟩
              replace H : (spec_LatOf.l0 k2 a0 l1 y112 (wrap64 (x7_2 + 1))) = some (r1, r2, r3) := by first | (rw [hy112]; with_reducible exact H) | (have H2_ := (Option.bind_some _ _).symm.trans H; rw [hy112]; with_reducible exact H2_) | (have H2_ := (Option.bind_some _ _).symm.trans H; with_reducible exact H2_) | with_reducible exact H | (rw [hy112]; exact H) | exact H
              have Ny112 := Aside0.mk hy112
              clear hy112
              have H' := Aside0.mk H
              clear H
              go_wp2_with (first | ((with_reducible refine gate_dst (N := 39) rfl ?_); (try (refine gate_guard (by rfl) ?_; dsimp only)); refine Kd.R_make Kd.bool _ 4 rfl (N := 39) rfl 277 _ _ rfl a0 rfl rfl Try.underlying277 (.bool false) 1 info4 rfl (by decide) (by omega) false (ok := fun _ => True) (okp := fun _ => True) rfl (fun _ hk => hk) trivial (of_decide_eq_true qz4) (Nat.le_trans (Nat.mul_le_mul_right _ (of_decide_eq_true qz4 : a0.toNat ≤ 281474976710656)) (by omega)) (Below.refl _ _) (Nat.le_refl _) ?_; intro v106 w21 ho22 hb hg_ hnew_; clear hg_ hnew_; (first | rw [← Ny105.out] at ho22 | (simp only [Int.reduceToNat] at ho22; rw [← Ny105.out] at ho22)); have n0_ := Aside0.mk (Kd.S_elder' qz346 (Kd.R_base ho22) hb); have n1_ := Aside0.mk (Kd.R_lower ho22 (below_size (qz10 GE101.out))); have n2_ := Aside0.mk (blk_below (g := gb101) (o := .cells #[.int .i64 0, .slice none 0 0] 47 (0, 0)) (qz8 BK101.out) hb); have n3_ := Aside0.mk (below_step (qz10 GE101.out) hb); clear HO_6; clear BK101; clear HB; have HO_6 := n0_; have HO107 := n1_; have BK101 := n2_; have HB := n3_; clear n0_ n1_ n2_ n3_; clear hb ho22; have p18 : 0 ≤ (x7_2 : Int) := of_decide_eq_true qz4; have q18 : (x7_2 : Int) < ((x6_2.length : Int) : Int) := of_decide_eq_true qz4; obtain ⟨go18, co18, eo18, gb18, gl18, cl18, HG18⟩ := Kd.S_form HO_6.out (by omega); (first | cases eo18 | (injection eo18 with ea_ en_ ec_; (first | subst ea_ | (injection ea_ with ea_; subst ea_)); subst ec_; clear en_)); have GB18 := Aside0.mk gb18; have GG18 := Aside0.mk HG18; clear gb18 gl18 HG18; obtain ⟨_, ce18, hcl18, hM18, hcc18, hfr18, _, _⟩ := Kd.S_elem HO_6.out [] (x7_2 : Int) p18 q18; obtain ⟨ve18_0, rfl, ge18_0⟩ := hM18; have hx18_0 := hcc18 0 _ rfl; have hf18_0 := hfr18 0; (try simp only [show ((Kd.slice 4 Kd.bool)).sz = 1 from rfl, Nat.mul_one, Nat.add_zero] at hx18_0); (try simp only [show ((Kd.slice 4 Kd.bool)).sz = 1 from rfl, Nat.mul_one, Nat.add_zero] at hf18_0); (try clear hcl18); (try clear hcc18); (try clear hfr18); (try clear hM18); replace p18 := eq_true p18; replace q18 := eq_true q18; have n_ := Aside0.mk (Kd.S_mono (ok' := (fun k_ => some k_ ≠ (v106 : Value).ownBlock)) HO_6.out (fun k_ hk => hk.2)); clear HO_6; have HO_6 := n_; clear n_; have HX23 := Aside0.mk (show Kd.S (Kd.slice 4 Kd.bool) 277 w21 w.heap.size (fun k_ => ((fun _ => True)) k_ ∧ ¬ ((fun k_ => some k_ = (v106 : Value).ownBlock)) k_) (.slice (some ⟨go18, 0, none⟩) x6_2.length co18) x6_2 from (by (with_reducible repeat (first | apply Kd.S_alloc | apply Kd.S_drewN | apply Kd.S_drew)); exact Kd.S_mono HO_6.out (fun k_ hk => ⟨trivial, fun e_ => hk e_⟩))); obtain ⟨oki23, ce23, hcl23, hM23, hcc23, hfr23, hoki23, hH23⟩ := Kd.S_elem HX23.out [] (x7_2 : Int) (of_decide_eq_true qz4) qz347; obtain ⟨ve23_0, rfl, ge23_0⟩ := hM23; have HP23 := Kd.S_seg hH23 (of_decide_eq_true qz4) qz347 (seg := [v106]) (j := 0) (show 1 ≤ 1 from by decide) (x' := y105) (Kd.M_row (Kd.R_mono (Kd.R_tight rfl (Kd.R_mono (ok' := fun k_ => ((fun _ => True)) k_ ∧ k_ ≠ go18) (Kd.R_apart' (HO107.out) (Kd.S_typed HO_6.out) (by decide)) (fun k_ hk => ⟨trivial, fun e_ => (hk.2) (by rw [e_]; rfl)⟩))) (fun _ h_ => Or.inr (h_)))) (fun _ hk => hk) (fun k_ hk_ => ((Kd.R_mono (ok' := fun k_ => ((fun _ => True)) k_ ∧ k_ ≠ go18) (Kd.R_apart' (HO107.out) (Kd.S_typed HO_6.out) (by decide)) (fun k_ hk => ⟨trivial, fun e_ => (hk.2) (by rw [e_]; rfl)⟩))).1 k_ hk_.symm); have hx23_0 := hcc23 0 _ rfl; (try simp only [show ((Kd.slice 4 Kd.bool)).sz = 1 from rfl, Nat.mul_one, Nat.add_zero] at hx23_0); have hf23_0 := hfr23 0; (try simp only [show ((Kd.slice 4 Kd.bool)).sz = 1 from rfl, Nat.mul_one, Nat.add_zero] at hf23_0); (try clear hcl23); (try clear hcc23); (try clear hfr23); (try clear hM23); (try clear hoki23); (try clear hH23); (try simp only [show ((Kd.slice 4 Kd.bool)).sz = 1 from rfl, Nat.mul_one, Nat.add_zero] at HP23)) | ((with_reducible refine gate_store (t := 277) (p := 40) rfl ?_); refine store_event (t := 277) (p := 40) (v := ?vo_w24) (w1 := (w21.setCell ⟨go18, (x7_2 : Int).toNat, none⟩ (v106))) ?hg ?ho ?hn ?hr ?_; (case ho => rfl); (case hg => rfl); (case hn => rfl); (case hr => obtain ⟨Ao106, co106, eo106⟩ := Kd.R_slice HO107.out; rw [eo106]; exact qz5); intro w24 hw; have hg : w21.grownBy w24 (some go18) := (by rw [hw]; exact HP23.2); have hp_ : Kd.S (Kd.slice 4 Kd.bool) 277 w24 w.heap.size (fun _ => True) (.slice (some ⟨go18, 0, none⟩) x6_2.length co18) y108 := (by rw [hw, Ny108.out]; exact HP23.1); clear HP23; have n0_ := Aside0.mk (hp_); have n1_ := Aside0.mk (blk_grown (g := gb101) (o := .cells #[.int .i64 0, .slice none 0 0] 47 (0, 0)) (qz8 BK101.out) hg (Kd.S_ne HO_6.out BK101.out (by decide))); have n2_ := Aside0.mk ((qz163 GB18.out : Below w.heap.size w w24)); clear HO_6; clear BK101; clear HB; clear HO107; have HO_6 := n0_; have BK101 := n1_; have HB := n2_; clear n0_ n1_ n2_; clear hg hw hp_; have p109 : 0 ≤ (x7_2 : Int) := of_decide_eq_true qz4; have q109 : x7_2 < (y108.length : Int) := (by have h_ : (x7_2 : Int) < ((x6_2.length : Int) : Int) := of_decide_eq_true qz4; first | (have e_ := (Kd.S_reads' HO_6.out).1; omega) | simpa only [Ny108.out, List.length_set] using h_); have ql109 : ((x7_2 : Int) < ((x6_2.length : Int) : Int)) = True := eq_true (of_decide_eq_true qz4); obtain ⟨ad109, A109_0, c109_0, e109, hx109_0, hl109_0, hi109_0⟩ := at_L43 (Kd.S_reads' HO_6.out).2.2 x7_2 p109 q109; obtain rfl : (⟨go18, 0, none⟩ : Addr) = ad109 := (by injection e109); obtain ⟨ce109, hce109, hMe109, hcc109⟩ := Kd.S_get HO_6.out [] x7_2 p109 (by first | exact q109 | exact of_decide_eq_true qz4 | (have e_ := (Kd.S_reads' HO_6.out).1; omega)); obtain ⟨ve109_0, rfl, ge109_0⟩ := hMe109; have hv109_0 := hcc109 0 _ rfl; rw [Nat.add_zero, show ((Kd.slice 4 Kd.bool)).sz = 1 from rfl, Nat.mul_one] at hv109_0; replace hv109_0 := Option.some.inj (hv109_0.symm.trans hx109_0); rw [hv109_0] at ge109_0; have HL109_0 := Aside0.mk (show Kd.R Kd.bool 4 _ _ _ _ (rd_L43 y108 x7_2) from ge109_0); clear hv109_0 ge109_0; have HX109_0 := Aside0.mk hx109_0; clear hcc109 hce109; (first | simp only [add_plain] at hx109_0 | simp only [add_at] at hx109_0 | simp only [Addr.add, Nat.zero_add] at hx109_0 | skip); have HR109_0 := Aside0.mk hi109_0; have HC109_0 := Aside0.mk hl109_0; clear hi109_0 hl109_0; replace p109 := eq_true p109; replace q109 := eq_true q109; have p20 : 0 ≤ (x7_2 : Int) := of_decide_eq_true qz4; have q20 : (x7_2 : Int) < (((rd_L43 y108 x7_2).length : Int) : Int) := of_decide_eq_true qz4; obtain ⟨go20, co20, eo20, gb20, gl20, cl20, HG20⟩ := Kd.R_form HL109_0.out (by omega); (first | cases eo20 | (injection eo20 with ea_ en_ ec_; (first | subst ea_ | (injection ea_ with ea_; subst ea_)); subst ec_; clear en_)); have GB20 := Aside0.mk gb20; have GG20 := Aside0.mk HG20; clear gb20 gl20 HG20; obtain ⟨hx20_0, hf20_0⟩ := Kd.R_celln false HL109_0.out (x7_2 : Int) p20 q20; replace p20 := eq_true p20; replace q20 := eq_true q20; have hq25 : (x7_2 : Int) < (y108.length : Int) := (by have h_ : (x7_2 : Int) < ((x6_2.length : Int) : Int) := of_decide_eq_true qz4; first | exact h_ | (have e_ := (Kd.S_reads' HO_6.out).1; omega) | simpa only [Ny108.out, List.length_set] using h_); obtain ⟨oki25, ce25, hcl25, hM25, hcc25, hok25, hbk25⟩ := Kd.S_borrow HO_6.out [] (x7_2 : Int) (of_decide_eq_true qz4) (of_eq_true ql109); obtain ⟨ve25_0, rfl, ge25_0⟩ := hM25; have hv25 := hcc25 0 _ rfl; rw [Nat.add_zero, show ((Kd.slice 4 Kd.bool)).sz = 1 from rfl, Nat.mul_one] at hv25; replace hv25 := Option.some.inj (hv25.symm.trans HX109_0.out); subst hv25; clear hcc25 hcl25; replace ge25_0 := (show Kd.R Kd.bool 4 _ _ _ _ (rd_L43 y108 x7_2) from ge25_0); have HP25 := Kd.R_putg ge25_0 (x7_2 : Int) true) | ((with_reducible refine gate_store (t := 4) (p := 46) rfl ?_); refine store_event (t := 4) (p := 46) (v := ?vo_w26) (w1 := (w24.setCell ⟨go20, (x7_2 : Int).toNat, none⟩ (.bool true))) ?hg ?ho ?hn ?hr ?_; (case ho => rfl); (case hg => rfl); (case hn => rfl); (case hr => exact qz5); intro w26 hw; have hg : w24.grownBy w26 (some go20) := (by rw [hw]; exact HP25.2); have hz_ : Kd.R Kd.bool 4 w26 w.heap.size oki25 (.slice (some ⟨go20, 0, none⟩) (rd_L43 y108 x7_2).length c109_0) y110 := (by rw [hw, Ny110.out]; exact HP25.1); have hp_ : Kd.S (Kd.slice 4 Kd.bool) 277 w26 w.heap.size (fun _ => True) (.slice (some ⟨go18, 0, none⟩) x6_2.length co18) y112 := (by rw [Ny112.out]; exact hbk25 hg (fun k_ e_ => by injection e_ with e_; subst e_; exact ge25_0.1 _ rfl) (Kd.M_row hz_)); have hm_ := Kd.R_mono hz_ hok25; clear HP25 hbk25; have n0_ := Aside0.mk (hp_); have n1_ := Aside0.mk (blk_grown (g := gb101) (o := .cells #[.int .i64 0, .slice none 0 0] 47 (0, 0)) (qz8 BK101.out) hg (Kd.R_ne HL109_0.out BK101.out (by decide))); have n2_ := Aside0.mk ((qz163 GB20.out : Below w.heap.size w w26)); have n3_ := Aside0.mk (hm_); have n4_ := Aside0.mk ((Kd.R_reads' hm_).2.1); clear HO_6; clear BK101; clear HB; clear HL109_0; have HO_6 := n0_; have BK101 := n1_; have HB := n2_; have HL143 := n3_; have HC111 := n4_; clear n0_ n1_ n2_ n3_ n4_; clear hg hw hp_ hz_ hm_ hok25))
              go_roundg k2
              case measure => have := HJ2.out; have := HK2.out; omega
              case rel => exact ⟨(y112), (wrap64 (x7_2 + 1)), qz2, H', ⟨qz34 HJ2.out HK2.out⟩, ⟨qz346⟩, ⟨qz8 BK101.out⟩, ⟨qz10 GE101.out⟩⟩
             ·rw [if_neg c19] at H
              exact absurd H (by simp)
            ·rw [if_neg c17] at H
             exact absurd H (by simp)
           ·rw [if_neg c16] at H
            exact absurd H (by simp)
          ·rw [if_neg c15] at H
           exact absurd H (by simp)
         ·rw [if_neg c14] at H
          exact absurd H (by simp)
        ·rw [if_neg c13] at H
         have c13b0 : decide (x7_2 < a0) = false := decide_eq_false c13
         clear c13
         have H' := Aside0.mk H
         clear H
         go_wp2
         go_loopg [8] k2 (fun kq v8 w' => ∃ (x6_3 : List (List Bool)) (x8_3 : Int) (x102000_3 : Int), v8 = .int .i64 x8_3 ∧ Aside0 (spec_LatOf.l1 kq a0 l1 x6_3 x8_3 = some (r1, r2, r3)) ∧ Aside0 (kq ≤ k2) ∧ Aside0 (Kd.S (Kd.slice 4 Kd.bool) 277 w' w.heap.size (fun _ => True) v103 x6_3) ∧ Aside0 (w'.heap[gb101]? = some (.cells #[.int .i64 x102000_3, (.slice none 0 0)] 47 (0, 0))) ∧ Aside0 (Below w.heap.size w w'))
         case atStart => exact ⟨(x6_2), (0), (0), qz2, H', ⟨Nat.le_refl _⟩, ⟨qz346⟩, ⟨qz8 BK101.out⟩, ⟨qz10 GE101.out⟩⟩
         case round =>
          clear H'
          try clear c1
          try clear p1
          try clear q1
          try clear hx1
          try clear c2
          try clear p2
          try clear q2
          try clear hx2
          try clear hf2
          try clear c5
          try clear c5b0
          try clear c6
          try clear c6b0
          try clear p6
          try clear c7
          try clear c9
          try clear c9b0
          try clear c9b1
          try clear c10
          try clear c10b0
          try clear c10b1
          try clear p10
          try clear q10
          try clear hx10
          try clear c13
          try clear c13b0
          try clear c14
          try clear c14b0
          try clear c14b1
          try clear c15
          try clear c15b0
          try clear c15b1
          try clear c16
          try clear c16b0
          try clear c17
          try clear c17b0
          try clear c18
          try clear p18
          try clear q18
          try clear hx18
          try clear hf18
          try clear c19
          try clear c19b0
          try clear p20
          try clear q20
          try clear hx20
          try clear hf20
          try clear c23
          try clear hx23
          try clear hf23
          try clear c25
          try clear q25
          try clear hcz8_0
          try clear hcz8_1
          try clear hfz8_0
          try clear hfz8_1
          try clear hx109_0
          try clear hx18_0
          try clear hx20_0
          try clear hx23_0
          try clear p109
          try clear p18
          try clear p2
          try clear p20
          try clear q109
          try clear q18
          try clear q20
          obtain ⟨x6_3, x8_3, x102000_3, rfl, HA, HK3, HO_6, BK101, HB⟩ := hrel
          cases gk with
          | zero => exact absurd HA.out (by simp [spec_LatOf.l1])
          | succ k3 =>
           have H := HA.out
           clear HA
           simp only [spec_LatOf.l1] at H
           by_cases c27 : x8_3 < (l1.length : Int)
           ·rw [if_pos c27] at H
            have c27b0 : decide (x8_3 < (l1.length : Int)) = true := decide_eq_true c27
            clear c27
            by_cases c28 : 0 ≤ x8_3
            ·rw [if_pos c28] at H
             have c28b0 : decide (0 ≤ x8_3) = true := decide_eq_true c28
             clear c28
             by_cases c29 : ((rd_T151 l1 x8_3).f0) < 0
             ·rw [if_pos c29] at H
              have c29b0 : decide (((rd_T151 l1 x8_3).f0) < 0) = true := decide_eq_true c29
              clear c29
              simp only [Option.some.injEq, Prod.mk.injEq] at H
              obtain ⟨rfl, rfl, rfl⟩ := H
              have p113 : 0 ≤ (x8_3 : Int) := of_decide_eq_true qz4
              have q113 : x8_3 < (l1.length : Int) := of_decide_eq_true qz4
              obtain ⟨ad113, e113, hx113_0, hx113_1⟩ := at_T151 HR1.out x8_3 p113 q113
              cases e113
              replace hx113_0 := qcb HB hx113_0
              replace hx113_1 := qcb HB hx113_1
              replace p113 := eq_true p113
              replace q113 := eq_true q113
              go_wp2_with (first | ((with_reducible refine gate_dst (N := 9) rfl ?_); (try (refine gate_guard (by rfl) ?_; dsimp only)); refine box_event ?hg (N := 9) ?hd (cs := #[.int .i64 0, .int .i64 0]) (t := 151) ?hr ?_; (case hd => rfl); (case hg => rfl); (case hr => exact qz5); intro gb114 hg w30 hbox hb; have n0_ := Aside0.mk (Kd.S_below qz346 hb); have n1_ := Aside0.mk (blk_below (g := gb101) (o := .cells #[.int .i64 x102000_3, .slice none 0 0] 47 (0, 0)) (qz8 BK101.out) hb); have n2_ := Aside0.mk (below_step (qz10 GE101.out) hb); have n3_ := Aside0.mk (hbox); have n4_ := Aside0.mk ((qz38 GE101.out : w.heap.size ≤ gb114)); have n5_ := Aside0.mk ((qz38 GE101.out : w.heap.size ≤ gb114)); have n6_ := Aside0.mk ((qz49 BK101.out : gb101 ≠ gb114)); have n7_ := Aside0.mk ((qz50 BK101.out : gb114 ≠ gb101)); clear HO_6; clear BK101; clear HB; have HO_6 := n0_; have BK101 := n1_; have HB := n2_; have BK114 := n3_; have GW114 := n4_; have GE114 := n5_; have NB101_114 := n6_; have NB114_101 := n7_; clear n0_ n1_ n2_ n3_ n4_ n5_ n6_ n7_; clear hb hbox hg; have hnb31 := NB114_101.out; have hnc31 := NB101_114.out; have hcz32_0 : w30.cell? ⟨gb114, 0, none⟩ = some (.int .i64 0) := (blk_cell BK114.out 0).trans rfl; have hcz32_1 : w30.cell? ⟨gb114, 1, none⟩ = some (.int .i64 0) := (blk_cell BK114.out 1).trans rfl; have hfz32_0 := blk_frozen BK114.out 0; have hfz32_1 := blk_frozen BK114.out 1; have hcz33_0 : w30.cell? ⟨gb101, 0, none⟩ = some (.int .i64 x102000_3) := (blk_cell BK101.out 0).trans rfl; have hcz33_1 : w30.cell? ⟨gb101, 1, none⟩ = some (.slice none 0 0) := (blk_cell BK101.out 1).trans rfl; have hfz33_0 := blk_frozen BK101.out 0; have hfz33_1 := blk_frozen BK101.out 1))
              refine bodyPost_ret (results_ct rfl _ _ gb101 47 #[.int .i64 0, .slice none 0 0] (0, 0) _ rfl (qz348 NB101_114.out BK101.out) Try.underlying47 rfl (by kernel_rfl)) rfl ?_
              exact ⟨_, qz13, qz15, qz43 GE101.out GE114.out⟩
             ·rw [if_neg c29] at H
              have c29b0 : decide (((rd_T151 l1 x8_3).f0) < 0) = false := decide_eq_false c29
              clear c29
              by_cases c34 : ((rd_T151 l1 x8_3).f0) ≥ a0
              ·rw [if_pos c34] at H
               have c34b0 : decide (a0 ≤ ((rd_T151 l1 x8_3).f0)) = true := decide_eq_true c34
               clear c34
               simp only [Option.some.injEq, Prod.mk.injEq] at H
               obtain ⟨rfl, rfl, rfl⟩ := H
               have p113 : 0 ≤ (x8_3 : Int) := of_decide_eq_true qz4
               have q113 : x8_3 < (l1.length : Int) := of_decide_eq_true qz4
               obtain ⟨ad113, e113, hx113_0, hx113_1⟩ := at_T151 HR1.out x8_3 p113 q113
               cases e113
               replace hx113_0 := qcb HB hx113_0
               replace hx113_1 := qcb HB hx113_1
               replace p113 := eq_true p113
               replace q113 := eq_true q113
               go_wp2_with (first | ((with_reducible refine gate_dst (N := 9) rfl ?_); (try (refine gate_guard (by rfl) ?_; dsimp only)); refine box_event ?hg (N := 9) ?hd (cs := #[.int .i64 0, .int .i64 0]) (t := 151) ?hr ?_; (case hd => rfl); (case hg => rfl); (case hr => exact qz5); intro gb114 hg w35 hbox hb; have n0_ := Aside0.mk (Kd.S_below qz346 hb); have n1_ := Aside0.mk (blk_below (g := gb101) (o := .cells #[.int .i64 x102000_3, .slice none 0 0] 47 (0, 0)) (qz8 BK101.out) hb); have n2_ := Aside0.mk (below_step (qz10 GE101.out) hb); have n3_ := Aside0.mk (hbox); have n4_ := Aside0.mk ((qz38 GE101.out : w.heap.size ≤ gb114)); have n5_ := Aside0.mk ((qz38 GE101.out : w.heap.size ≤ gb114)); have n6_ := Aside0.mk ((qz49 BK101.out : gb101 ≠ gb114)); have n7_ := Aside0.mk ((qz50 BK101.out : gb114 ≠ gb101)); clear HO_6; clear BK101; clear HB; have HO_6 := n0_; have BK101 := n1_; have HB := n2_; have BK114 := n3_; have GW114 := n4_; have GE114 := n5_; have NB101_114 := n6_; have NB114_101 := n7_; clear n0_ n1_ n2_ n3_ n4_ n5_ n6_ n7_; clear hb hbox hg; have hnb36 := NB114_101.out; have hnc36 := NB101_114.out; have hcz37_0 : w35.cell? ⟨gb114, 0, none⟩ = some (.int .i64 0) := (blk_cell BK114.out 0).trans rfl; have hcz37_1 : w35.cell? ⟨gb114, 1, none⟩ = some (.int .i64 0) := (blk_cell BK114.out 1).trans rfl; have hfz37_0 := blk_frozen BK114.out 0; have hfz37_1 := blk_frozen BK114.out 1; have hcz38_0 : w35.cell? ⟨gb101, 0, none⟩ = some (.int .i64 x102000_3) := (blk_cell BK101.out 0).trans rfl; have hcz38_1 : w35.cell? ⟨gb101, 1, none⟩ = some (.slice none 0 0) := (blk_cell BK101.out 1).trans rfl; have hfz38_0 := blk_frozen BK101.out 0; have hfz38_1 := blk_frozen BK101.out 1))
               refine bodyPost_ret (results_ct rfl _ _ gb101 47 #[.int .i64 0, .slice none 0 0] (0, 0) _ rfl (qz348 NB101_114.out BK101.out) Try.underlying47 rfl (by kernel_rfl)) rfl ?_
               exact ⟨_, qz13, qz15, qz43 GE101.out GE114.out⟩
              ·rw [if_neg c34] at H
               have c34b0 : decide (a0 ≤ ((rd_T151 l1 x8_3).f0)) = false := decide_eq_false c34
               clear c34
               by_cases c39 : ((rd_T151 l1 x8_3).f1) < 0
               ·rw [if_pos c39] at H
                have c39b0 : decide (((rd_T151 l1 x8_3).f1) < 0) = true := decide_eq_true c39
                clear c39
                simp only [Option.some.injEq, Prod.mk.injEq] at H
                obtain ⟨rfl, rfl, rfl⟩ := H
                have p113 : 0 ≤ (x8_3 : Int) := of_decide_eq_true qz4
                have q113 : x8_3 < (l1.length : Int) := of_decide_eq_true qz4
                obtain ⟨ad113, e113, hx113_0, hx113_1⟩ := at_T151 HR1.out x8_3 p113 q113
                cases e113
                replace hx113_0 := qcb HB hx113_0
                replace hx113_1 := qcb HB hx113_1
                replace p113 := eq_true p113
                replace q113 := eq_true q113
                go_wp2_with (first | ((with_reducible refine gate_dst (N := 9) rfl ?_); (try (refine gate_guard (by rfl) ?_; dsimp only)); refine box_event ?hg (N := 9) ?hd (cs := #[.int .i64 0, .int .i64 0]) (t := 151) ?hr ?_; (case hd => rfl); (case hg => rfl); (case hr => exact qz5); intro gb114 hg w40 hbox hb; have n0_ := Aside0.mk (Kd.S_below qz346 hb); have n1_ := Aside0.mk (blk_below (g := gb101) (o := .cells #[.int .i64 x102000_3, .slice none 0 0] 47 (0, 0)) (qz8 BK101.out) hb); have n2_ := Aside0.mk (below_step (qz10 GE101.out) hb); have n3_ := Aside0.mk (hbox); have n4_ := Aside0.mk ((qz38 GE101.out : w.heap.size ≤ gb114)); have n5_ := Aside0.mk ((qz38 GE101.out : w.heap.size ≤ gb114)); have n6_ := Aside0.mk ((qz49 BK101.out : gb101 ≠ gb114)); have n7_ := Aside0.mk ((qz50 BK101.out : gb114 ≠ gb101)); clear HO_6; clear BK101; clear HB; have HO_6 := n0_; have BK101 := n1_; have HB := n2_; have BK114 := n3_; have GW114 := n4_; have GE114 := n5_; have NB101_114 := n6_; have NB114_101 := n7_; clear n0_ n1_ n2_ n3_ n4_ n5_ n6_ n7_; clear hb hbox hg; have hnb41 := NB114_101.out; have hnc41 := NB101_114.out; have hcz42_0 : w40.cell? ⟨gb114, 0, none⟩ = some (.int .i64 0) := (blk_cell BK114.out 0).trans rfl; have hcz42_1 : w40.cell? ⟨gb114, 1, none⟩ = some (.int .i64 0) := (blk_cell BK114.out 1).trans rfl; have hfz42_0 := blk_frozen BK114.out 0; have hfz42_1 := blk_frozen BK114.out 1; have hcz43_0 : w40.cell? ⟨gb101, 0, none⟩ = some (.int .i64 x102000_3) := (blk_cell BK101.out 0).trans rfl; have hcz43_1 : w40.cell? ⟨gb101, 1, none⟩ = some (.slice none 0 0) := (blk_cell BK101.out 1).trans rfl; have hfz43_0 := blk_frozen BK101.out 0; have hfz43_1 := blk_frozen BK101.out 1))
                refine bodyPost_ret (results_ct rfl _ _ gb101 47 #[.int .i64 0, .slice none 0 0] (0, 0) _ rfl (qz348 NB101_114.out BK101.out) Try.underlying47 rfl (by kernel_rfl)) rfl ?_
                exact ⟨_, qz13, qz15, qz43 GE101.out GE114.out⟩
               ·rw [if_neg c39] at H
                have c39b0 : decide (((rd_T151 l1 x8_3).f1) < 0) = false := decide_eq_false c39
                clear c39
                by_cases c44 : ((rd_T151 l1 x8_3).f1) ≥ a0
                ·rw [if_pos c44] at H
                 have c44b0 : decide (a0 ≤ ((rd_T151 l1 x8_3).f1)) = true := decide_eq_true c44
                 clear c44
                 simp only [Option.some.injEq, Prod.mk.injEq] at H
                 obtain ⟨rfl, rfl, rfl⟩ := H
                 have p113 : 0 ≤ (x8_3 : Int) := of_decide_eq_true qz4
                 have q113 : x8_3 < (l1.length : Int) := of_decide_eq_true qz4
                 obtain ⟨ad113, e113, hx113_0, hx113_1⟩ := at_T151 HR1.out x8_3 p113 q113
                 cases e113
                 replace hx113_0 := qcb HB hx113_0
                 replace hx113_1 := qcb HB hx113_1
                 replace p113 := eq_true p113
                 replace q113 := eq_true q113
                 go_wp2_with (first | ((with_reducible refine gate_dst (N := 9) rfl ?_); (try (refine gate_guard (by rfl) ?_; dsimp only)); refine box_event ?hg (N := 9) ?hd (cs := #[.int .i64 0, .int .i64 0]) (t := 151) ?hr ?_; (case hd => rfl); (case hg => rfl); (case hr => exact qz5); intro gb114 hg w45 hbox hb; have n0_ := Aside0.mk (Kd.S_below qz346 hb); have n1_ := Aside0.mk (blk_below (g := gb101) (o := .cells #[.int .i64 x102000_3, .slice none 0 0] 47 (0, 0)) (qz8 BK101.out) hb); have n2_ := Aside0.mk (below_step (qz10 GE101.out) hb); have n3_ := Aside0.mk (hbox); have n4_ := Aside0.mk ((qz38 GE101.out : w.heap.size ≤ gb114)); have n5_ := Aside0.mk ((qz38 GE101.out : w.heap.size ≤ gb114)); have n6_ := Aside0.mk ((qz49 BK101.out : gb101 ≠ gb114)); have n7_ := Aside0.mk ((qz50 BK101.out : gb114 ≠ gb101)); clear HO_6; clear BK101; clear HB; have HO_6 := n0_; have BK101 := n1_; have HB := n2_; have BK114 := n3_; have GW114 := n4_; have GE114 := n5_; have NB101_114 := n6_; have NB114_101 := n7_; clear n0_ n1_ n2_ n3_ n4_ n5_ n6_ n7_; clear hb hbox hg; have hnb46 := NB114_101.out; have hnc46 := NB101_114.out; have hcz47_0 : w45.cell? ⟨gb114, 0, none⟩ = some (.int .i64 0) := (blk_cell BK114.out 0).trans rfl; have hcz47_1 : w45.cell? ⟨gb114, 1, none⟩ = some (.int .i64 0) := (blk_cell BK114.out 1).trans rfl; have hfz47_0 := blk_frozen BK114.out 0; have hfz47_1 := blk_frozen BK114.out 1; have hcz48_0 : w45.cell? ⟨gb101, 0, none⟩ = some (.int .i64 x102000_3) := (blk_cell BK101.out 0).trans rfl; have hcz48_1 : w45.cell? ⟨gb101, 1, none⟩ = some (.slice none 0 0) := (blk_cell BK101.out 1).trans rfl; have hfz48_0 := blk_frozen BK101.out 0; have hfz48_1 := blk_frozen BK101.out 1))
                 refine bodyPost_ret (results_ct rfl _ _ gb101 47 #[.int .i64 0, .slice none 0 0] (0, 0) _ rfl (qz348 NB101_114.out BK101.out) Try.underlying47 rfl (by kernel_rfl)) rfl ?_
                 exact ⟨_, qz13, qz15, qz43 GE101.out GE114.out⟩
                ·rw [if_neg c44] at H
                 have c44b0 : decide (a0 ≤ ((rd_T151 l1 x8_3).f1)) = false := decide_eq_false c44
                 clear c44
                 by_cases c49 : 0 ≤ ((rd_T151 l1 x8_3).f0)
                 ·rw [if_pos c49] at H
                  have c49b0 : decide (0 ≤ ((rd_T151 l1 x8_3).f0)) = true := decide_eq_true c49
                  clear c49
                  by_cases c50 : ((rd_T151 l1 x8_3).f0) < (x6_3.length : Int)
                  ·rw [if_pos c50] at H
                   have c50b0 : decide (((rd_T151 l1 x8_3).f0) < (x6_3.length : Int)) = true := decide_eq_true c50
                   clear c50
                   by_cases c51 : 0 ≤ ((rd_T151 l1 x8_3).f1)
                   ·rw [if_pos c51] at H
                    have c51b0 : decide (0 ≤ ((rd_T151 l1 x8_3).f1)) = true := decide_eq_true c51
                    clear c51
                    by_cases c52 : ((rd_T151 l1 x8_3).f1) < ((rd_L43 x6_3 ((rd_T151 l1 x8_3).f0)).length : Int)
                    ·rw [if_pos c52] at H
                     have c52b0 : decide (((rd_T151 l1 x8_3).f1) < ((rd_L43 x6_3 ((rd_T151 l1 x8_3).f0)).length : Int)) = true := decide_eq_true c52
                     clear c52
                     obtain ⟨y116, hy116⟩ : ∃ y_ : List Bool, y_ = ((rd_L43 x6_3 ((rd_T151 l1 x8_3).f0)).set (((rd_T151 l1 x8_3).f1) : Int).toNat true) := ⟨_, rfl⟩
                     replace H : (spec_LatOf.l1 k3 a0 l1 (x6_3.set (((rd_T151 l1 x8_3).f0) : Int).toNat y116) (wrap64 (x8_3 + 1))) = some (r1, r2, r3) := by first | (rw [hy116]; with_reducible exact H) | (have H2_ := (Option.bind_some _ _).symm.trans H; rw [hy116]; with_reducible exact H2_) | (have H2_ := (Option.bind_some _ _).symm.trans H; with_reducible exact H2_) | with_reducible exact H | (rw [hy116]; exact H) | exact H
                     have Ny116 := Aside0.mk hy116
                     clear hy116
                     obtain ⟨y118, hy118⟩ : ∃ y_ : List (List Bool), y_ = (x6_3.set (((rd_T151 l1 x8_3).f0) : Int).toNat y116) := ⟨_, rfl⟩
                     replace H : (spec_LatOf.l1 k3 a0 l1 y118 (wrap64 (x8_3 + 1))) = some (r1, r2, r3) := by first | (rw [hy118]; with_reducible exact H) | (have H2_ := (Option.bind_some _ _).symm.trans H; rw [hy118]; with_reducible exact H2_) | (have H2_ := (Option.bind_some _ _).symm.trans H; with_reducible exact H2_) | with_reducible exact H | (rw [hy118]; exact H) | exact H
                     have Ny118 := Aside0.mk hy118
                     clear hy118
                     have H' := Aside0.mk H
                     clear H
                     have p113 : 0 ≤ (x8_3 : Int) := of_decide_eq_true qz4
                     have q113 : x8_3 < (l1.length : Int) := of_decide_eq_true qz4
                     obtain ⟨ad113, e113, hx113_0, hx113_1⟩ := at_T151 HR1.out x8_3 p113 q113
                     cases e113
                     replace hx113_0 := qcb HB hx113_0
                     replace hx113_1 := qcb HB hx113_1
                     replace p113 := eq_true p113
                     replace q113 := eq_true q113
                     try go_wp2_with (first | ((with_reducible refine gate_dst (N := 9) rfl ?_); (try (refine gate_guard (by rfl) ?_; dsimp only)); refine box_event ?hg (N := 9) ?hd (cs := #[.int .i64 0, .int .i64 0]) (t := 151) ?hr ?_; (case hd => rfl); (case hg => rfl); (case hr => exact qz5); intro gb114 hg w54 hbox hb; have n0_ := Aside0.mk (Kd.S_below qz346 hb); have n1_ := Aside0.mk (blk_below (g := gb101) (o := .cells #[.int .i64 x102000_3, .slice none 0 0] 47 (0, 0)) (qz8 BK101.out) hb); have n2_ := Aside0.mk (below_step (qz10 GE101.out) hb); have n3_ := Aside0.mk (hbox); have n4_ := Aside0.mk ((qz38 GE101.out : w.heap.size ≤ gb114)); have n5_ := Aside0.mk ((qz38 GE101.out : w.heap.size ≤ gb114)); have n6_ := Aside0.mk ((qz49 BK101.out : gb101 ≠ gb114)); have n7_ := Aside0.mk ((qz50 BK101.out : gb114 ≠ gb101)); clear HO_6; clear BK101; clear HB; have HO_6 := n0_; have BK101 := n1_; have HB := n2_; have BK114 := n3_; have GW114 := n4_; have GE114 := n5_; have NB101_114 := n6_; have NB114_101 := n7_; clear n0_ n1_ n2_ n3_ n4_ n5_ n6_ n7_; clear hb hbox hg; have hnb55 := NB114_101.out; have hnc55 := NB101_114.out; have hcz56_0 : w54.cell? ⟨gb114, 0, none⟩ = some (.int .i64 0) := (blk_cell BK114.out 0).trans rfl; have hcz56_1 : w54.cell? ⟨gb114, 1, none⟩ = some (.int .i64 0) := (blk_cell BK114.out 1).trans rfl; have hfz56_0 := blk_frozen BK114.out 0; have hfz56_1 := blk_frozen BK114.out 1))
                     have n0_ : Aside0 (Kd.S (Kd.slice 4 Kd.bool) 277 ((w54.setCell ⟨gb114, 0, none⟩ (.int .i64 ((rd_T151 l1 x8_3).f0))).setCell ⟨gb114, 1, none⟩ (.int .i64 ((rd_T151 l1 x8_3).f1))) w.heap.size (fun _ => True) v103 x6_3) := ⟨by (with_reducible repeat (first | apply Kd.S_alloc | apply Kd.S_drewN | apply Kd.S_drew)); exact Kd.S_mono (Kd.S_far (p := ⟨gb114, 1, none⟩) (Kd.S_far (p := ⟨gb114, 0, none⟩) (Kd.S_types HO_6.out BK114.out (by decide)) (fun _ hk => hk.2) (.int .i64 ((rd_T151 l1 x8_3).f0))) (fun _ hk => hk.2) (.int .i64 ((rd_T151 l1 x8_3).f1))) (fun _ hk => trivial)⟩
                     have n1_ : Aside0 (((w54.setCell ⟨gb114, 0, none⟩ (.int .i64 ((rd_T151 l1 x8_3).f0))).setCell ⟨gb114, 1, none⟩ (.int .i64 ((rd_T151 l1 x8_3).f1))).heap[gb101]? = some (.cells #[.int .i64 x102000_3, .slice none 0 0] 47 (0, 0))) := ⟨qz41 NB101_114.out BK101.out⟩
                     have n2_ : Aside0 (((w54.setCell ⟨gb114, 0, none⟩ (.int .i64 ((rd_T151 l1 x8_3).f0))).setCell ⟨gb114, 1, none⟩ (.int .i64 ((rd_T151 l1 x8_3).f1))).heap[gb114]? = some (.cells #[.int .i64 ((rd_T151 l1 x8_3).f0), .int .i64 ((rd_T151 l1 x8_3).f1)] 151 (0, 0))) := ⟨by (with_reducible repeat (first | refine blk_drewN ?_ _ | refine blk_drew ?_ | refine blk_alloc ?_ _)); refine blk_put (cs := #[.int .i64 ((rd_T151 l1 x8_3).f0), .int .i64 0]) ?_ 1 _ rfl; (with_reducible repeat (first | refine blk_drewN ?_ _ | refine blk_drew ?_ | refine blk_alloc ?_ _)); refine blk_put (cs := #[.int .i64 0, .int .i64 0]) ?_ 0 _ rfl; (with_reducible repeat (first | refine blk_drewN ?_ _ | refine blk_drew ?_ | refine blk_alloc ?_ _)); exact BK114.out⟩
                     have n3_ : Aside0 (Below w.heap.size w ((w54.setCell ⟨gb114, 0, none⟩ (.int .i64 ((rd_T151 l1 x8_3).f0))).setCell ⟨gb114, 1, none⟩ (.int .i64 ((rd_T151 l1 x8_3).f1)))) := ⟨qz43 GE101.out GE114.out⟩
                     (try clear HO_6)
                     (try clear BK101)
                     (try clear BK114)
                     (try clear HB)
                     generalize ((w54.setCell ⟨gb114, 0, none⟩ (.int .i64 ((rd_T151 l1 x8_3).f0))).setCell ⟨gb114, 1, none⟩ (.int .i64 ((rd_T151 l1 x8_3).f1))) = w57 at n0_ n1_ n2_ n3_ ⊢
                     have HO_6 := n0_
                     have BK101 := n1_
                     have BK114 := n2_
                     have HB := n3_
                     clear n0_ n1_ n2_ n3_
                     have n0_ := Aside0.mk (Kd.S_drew HO_6.out)
                     have n1_ := Aside0.mk (blk_drew BK101.out)
                     have n2_ := Aside0.mk (blk_drew BK114.out)
                     have n3_ := Aside0.mk (below_drew1 HB.out)
                     clear HO_6
                     clear BK101
                     clear BK114
                     clear HB
                     have HO_6 := n0_
                     have BK101 := n1_
                     have BK114 := n2_
                     have HB := n3_
                     clear n0_ n1_ n2_ n3_
                     obtain ⟨Ao59, co59, eo59⟩ := Kd.S_slice HO_6.out
                     (first | subst eo59 | (injection eo59 with f1_ f2_ f3_; have f4_ := f1_.symm; have f5_ := f3_.symm; clear f1_ f2_ f3_; subst f4_; subst f5_))
                     have p115 : 0 ≤ (((rd_T151 l1 x8_3).f0) : Int) := of_decide_eq_true qz4
                     have q115 : ((rd_T151 l1 x8_3).f0) < (x6_3.length : Int) := of_decide_eq_true qz4
                     obtain ⟨ad115, A115_0, c115_0, e115, hx115_0, hl115_0, hi115_0⟩ := at_L43 (Kd.S_reads' HO_6.out).2.2 ((rd_T151 l1 x8_3).f0) p115 q115
                     cases e115
                     obtain ⟨ce115, hce115, hMe115, hcc115⟩ := Kd.S_get HO_6.out [] ((rd_T151 l1 x8_3).f0) p115 (by first | exact q115 | exact of_decide_eq_true qz4 | (have e_ := (Kd.S_reads' HO_6.out).1; omega))
                     obtain ⟨ve115_0, rfl, ge115_0⟩ := hMe115
                     have hv115_0 := hcc115 0 _ rfl
                     rw [Nat.add_zero, show ((Kd.slice 4 Kd.bool)).sz = 1 from rfl, Nat.mul_one] at hv115_0
                     replace hv115_0 := Option.some.inj (hv115_0.symm.trans hx115_0)
                     rw [hv115_0] at ge115_0
                     have HL115_0 := Aside0.mk (show Kd.R Kd.bool 4 _ _ _ _ (rd_L43 x6_3 ((rd_T151 l1 x8_3).f0)) from ge115_0)
                     clear hv115_0 ge115_0
                     have HX115_0 := Aside0.mk hx115_0
                     clear hcc115 hce115
                     have HR115_0 := Aside0.mk hi115_0
                     have HC115_0 := Aside0.mk hl115_0
                     clear hi115_0 hl115_0
                     replace p115 := eq_true p115
                     replace q115 := eq_true q115
                     have p53 : 0 ≤ (((rd_T151 l1 x8_3).f1) : Int) := of_decide_eq_true qz4
                     have q53 : (((rd_T151 l1 x8_3).f1) : Int) < (((rd_L43 x6_3 ((rd_T151 l1 x8_3).f0)).length : Int) : Int) := of_decide_eq_true qz4
                     obtain ⟨go53, co53, eo53, gb53, gl53, cl53, HG53⟩ := Kd.R_form HL115_0.out (by omega)
                     (first | cases eo53 | (injection eo53 with ea_ en_ ec_; (first | subst ea_ | (injection ea_ with ea_; subst ea_)); subst ec_; clear en_))
                     have GB53 := Aside0.mk gb53
                     have GG53 := Aside0.mk HG53
                     clear gb53 gl53 HG53
                     obtain ⟨hx53_0, hf53_0⟩ := Kd.R_celln false HL115_0.out (((rd_T151 l1 x8_3).f1) : Int) p53 q53
                     replace p53 := eq_true p53
                     replace q53 := eq_true q53
                     have hq60 : (((rd_T151 l1 x8_3).f0) : Int) < (x6_3.length : Int) := (by have h_ : (((rd_T151 l1 x8_3).f0) : Int) < ((x6_3.length : Int) : Int) := of_decide_eq_true qz4; first | exact h_ | (have e_ := (Kd.S_reads' HO_6.out).1; omega) | simpa only [List.length_set, List.length_set] using h_)
                     obtain ⟨oki60, ce60, hcl60, hM60, hcc60, hok60, hbk60⟩ := Kd.S_borrow HO_6.out [] (((rd_T151 l1 x8_3).f0) : Int) (of_decide_eq_true qz4) hq60
                     obtain ⟨ve60_0, rfl, ge60_0⟩ := hM60
                     have hv60 := hcc60 0 _ rfl
                     rw [Nat.add_zero, show ((Kd.slice 4 Kd.bool)).sz = 1 from rfl, Nat.mul_one] at hv60
                     replace hv60 := Option.some.inj (hv60.symm.trans HX115_0.out)
                     subst hv60
                     clear hcc60 hcl60
                     replace ge60_0 := (show Kd.R Kd.bool 4 _ _ _ _ (rd_L43 x6_3 ((rd_T151 l1 x8_3).f0)) from ge60_0)
                     have HP60 := Kd.R_putg ge60_0 (((rd_T151 l1 x8_3).f1) : Int) true
                     rw [← Ny116.out] at HP60
                     have HS60 := hbk60 HP60.2 (fun k_ e_ => by injection e_ with e_; subst e_; exact ge60_0.1 _ rfl) (x' := y116) (Kd.M_row HP60.1)
                     rw [← Ny118.out] at HS60
                     have HQ60 := Aside0.mk HS60
                     clear HP60 HS60 hbk60 hok60
                     refine start_ (n := 9) (S := fun w' => w'.cell? ⟨gb114, 0, none⟩ = some (.int .i64 ((rd_T151 l1 x8_3).f0)) ∧ w'.cell? ⟨gb114, 1, none⟩ = some (.int .i64 ((rd_T151 l1 x8_3).f1)) ∧ w'.cell? _ = some _) (ds := [8]) #[false, false, false, false, false, false, false, false, false] (by kernel_rfl) rfl rfl ⟨(blk_cell BK114.out 0).trans rfl, (blk_cell BK114.out 1).trans rfl, hx115_0⟩ (fun hHeld => ?_); refine with_tabW spec_LatOf.tab15 spec_LatOf.bits15 (fun HT_ HW_ => ?_)
                     generalize w57.drew = w58 at HO_6 BK101 BK114 HB GG53 HL115_0 HQ60 HR115_0 HX115_0 hf53_0 hx115_0 hx53_0 hHeld ⊢
                     refine pure_ (i := 0) (N := some 78) (v := ?_) (a' := ?_) #[true, false, false, false, false, false, false, false, false] rfl rfl (any_of HT_.out (by kernel_rfl)) (fun _ _ _ h => h) (Or.inl ⟨by rfl, ?_⟩) ?_ ?_
                     rotate_left
                     ·intro w'
                      go_simp
                      with_reducible rfl
                     rotate_left
                     ·simp only [Act.put, List.setIfInBounds_toArray, List.set_cons_zero, List.set_cons_succ, i64_w, i32_w]
                      rfl
                     refine pure_ (i := 1) (N := some 79) (v := ?_) (a' := ?_) #[true, true, false, false, false, false, false, false, false] rfl rfl (any_of HT_.out (by kernel_rfl)) (fun _ _ _ h => h) (Or.inl ⟨by rfl, ?_⟩) ?_ ?_
                     rotate_left
                     ·intro w'
                      go_simp
                      with_reducible rfl
                     rotate_left
                     ·simp only [Act.put, List.setIfInBounds_toArray, List.set_cons_zero, List.set_cons_succ, i64_w, i32_w]
                      rfl
                     refine pure_ (i := 5) (N := some 83) (v := ?_) (a' := ?_) #[true, true, false, false, false, true, false, false, false] rfl rfl (any_of HT_.out (by kernel_rfl)) (fun _ _ _ h => h) (Or.inl ⟨by rfl, ?_⟩) ?_ ?_
                     rotate_left
                     ·intro w'
                      go_simp
                      with_reducible rfl
                     rotate_left
                     ·simp only [Act.put, List.setIfInBounds_toArray, List.set_cons_zero, List.set_cons_succ, i64_w, i32_w]
                      rfl
                     refine take_ (i := 2) (N := some 80) (v := ?_) (a' := ?_) #[true, true, true, false, false, true, false, false, false] rfl rfl (take_ofW HT_.out HW_.out (by kernel_rfl)) (fun _ _ _ h => h) (Or.inl ⟨by rfl, ?_⟩) hHeld ?_ ?_
                     rotate_left
                     ·rintro w' ⟨s0, s1, s2⟩
                      go_simp
                      with_reducible rfl
                     rotate_left
                     ·simp only [Act.put, List.setIfInBounds_toArray, List.set_cons_zero, List.set_cons_succ, i64_w, i32_w]
                      rfl
                     refine pure_ (i := 3) (N := some 81) (v := ?_) (a' := ?_) #[true, true, true, true, false, true, false, false, false] rfl rfl (any_of HT_.out (by kernel_rfl)) (fun _ _ _ h => h) (Or.inl ⟨by rfl, ?_⟩) ?_ ?_
                     rotate_left
                     ·intro w'
                      go_simp
                      with_reducible rfl
                     rotate_left
                     ·simp only [Act.put, List.setIfInBounds_toArray, List.set_cons_zero, List.set_cons_succ, i64_w, i32_w]
                      rfl
                     refine take_ (i := 4) (N := some 82) (v := ?_) (a' := ?_) #[true, true, true, true, true, true, false, false, false] rfl rfl (take_ofW HT_.out HW_.out (by kernel_rfl)) (fun _ _ _ h => h) (Or.inl ⟨by rfl, ?_⟩) hHeld ?_ ?_
                     rotate_left
                     ·rintro w' ⟨s0, s1, s2⟩
                      go_simp
                      with_reducible rfl
                     rotate_left
                     ·simp only [Act.put, List.setIfInBounds_toArray, List.set_cons_zero, List.set_cons_succ, i64_w, i32_w]
                      rfl
                     refine take_ (i := 6) (N := some 84) (v := ?_) (a' := ?_) #[true, true, true, true, true, true, true, false, false] rfl rfl (take_ofW HT_.out HW_.out (by kernel_rfl)) (fun _ _ _ h => h) (Or.inl ⟨by rfl, ?_⟩) hHeld ?_ ?_
                     rotate_left
                     ·rintro w' ⟨s0, s1, s2⟩
                      go_simp
                      with_reducible rfl
                     rotate_left
                     ·simp only [Act.put, List.setIfInBounds_toArray, List.set_cons_zero, List.set_cons_succ, i64_w, i32_w]
                      rfl
                     refine pure_ (i := 7) (N := some 85) (v := ?_) (a' := ?_) #[true, true, true, true, true, true, true, true, false] rfl rfl (any_of HT_.out (by kernel_rfl)) (fun _ _ _ h => h) (Or.inl ⟨by rfl, ?_⟩) ?_ ?_
                     rotate_left
                     ·intro w'
                      go_simp
                      with_reducible rfl
                     rotate_left
                     ·simp only [Act.put, List.setIfInBounds_toArray, List.set_cons_zero, List.set_cons_succ, i64_w, i32_w]
                      rfl
                     refine last_ (i := 8) (N := none) #[true, true, true, true, true, true, true, true, true] rfl rfl (one_of HT_.out (by kernel_rfl)) (by decide) (fun K hK => ?_)
                     refine skip_ (w1 := ?_) (by rfl) rfl ?_ ?_
                     rotate_left
                     ·go_simp
                      rfl
                     refine hK.out _ _ ?_
                     clear hK K
                     refine done_ (done_of HT_.out (by kernel_rfl)) ?_
                     try go_wp2
                     go_roundg k3
                     case measure => have := HJ2.out; have := HK2.out; have := HK3.out; omega
                     case rel => exact ⟨(y118), (wrap64 (x8_3 + 1)), (x102000_3), qz2, H', ⟨qz31 HJ2.out HK2.out HK3.out⟩, ⟨qz257 HQ60.out⟩, ⟨qz193 HL115_0.out BK101.out⟩, ⟨qz46 GB53.out GE101.out GE114.out⟩⟩
                    ·rw [if_neg c52] at H
                     exact absurd H (by simp)
                   ·rw [if_neg c51] at H
                    exact absurd H (by simp)
                  ·rw [if_neg c50] at H
                   exact absurd H (by simp)
                 ·rw [if_neg c49] at H
                  exact absurd H (by simp)
            ·rw [if_neg c28] at H
             exact absurd H (by simp)
           ·rw [if_neg c27] at H
            have c27b0 : decide (x8_3 < (l1.length : Int)) = false := decide_eq_false c27
            clear c27
            have H' := Aside0.mk H
            clear H
            go_wp2
            go_loopg [10] k3 (fun kq v10 w' => ∃ (x6_4 : List (List Bool)) (x10_4 : Int), v10 = .int .i64 x10_4 ∧ Aside0 (spec_LatOf.l2 kq a0 x6_4 x10_4 = some (r1, r2, r3)) ∧ Aside0 (kq ≤ k3) ∧ Aside0 (Kd.S (Kd.slice 4 Kd.bool) 277 w' w.heap.size (fun _ => True) v103 x6_4) ∧ Aside0 (w'.heap[gb101]? = some (.cells #[.int .i64 x102000_3, (.slice none 0 0)] 47 (0, 0))) ∧ Aside0 (Below w.heap.size w w'))
            case atStart => exact ⟨(x6_3), (0), qz2, H', ⟨Nat.le_refl _⟩, ⟨qz346⟩, ⟨qz8 BK101.out⟩, ⟨qz10 GE101.out⟩⟩
            case round =>
             clear H'
             try clear c1
             try clear p1
             try clear q1
             try clear hx1
             try clear c2
             try clear p2
             try clear q2
             try clear hx2
             try clear hf2
             try clear c3
             try clear c4
             try clear c5
             try clear c5b0
             try clear p5
             try clear q5
             try clear hx5
             try clear hf5
             try clear c6
             try clear c6b0
             try clear p6
             try clear q6
             try clear c7
             try clear c9
             try clear c9b0
             try clear c9b1
             try clear c10
             try clear c10b0
             try clear c10b1
             try clear p10
             try clear q10
             try clear hx10
             try clear c11
             try clear p11
             try clear q11
             try clear hx11
             try clear c13
             try clear c13b0
             try clear c14
             try clear c14b0
             try clear c14b1
             try clear c15
             try clear c15b0
             try clear c15b1
             try clear c16
             try clear c16b0
             try clear c17
             try clear c17b0
             try clear c18
             try clear p18
             try clear q18
             try clear hx18
             try clear hf18
             try clear c19
             try clear c19b0
             try clear p20
             try clear q20
             try clear hx20
             try clear hf20
             try clear c23
             try clear hx23
             try clear hf23
             try clear c25
             try clear q25
             try clear c27
             try clear c27b0
             try clear c28
             try clear c28b0
             try clear c29
             try clear c29b0
             try clear c31
             try clear c34
             try clear c34b0
             try clear c36
             try clear c39
             try clear c39b0
             try clear c41
             try clear c44
             try clear c44b0
             try clear c46
             try clear c49
             try clear c49b0
             try clear c50
             try clear c50b0
             try clear c51
             try clear c51b0
             try clear c52
             try clear c52b0
             try clear p53
             try clear q53
             try clear hx53
             try clear hf53
             try clear c55
             try clear c60
             try clear q60
             try clear hcz32_0
             try clear hcz32_1
             try clear hcz33_0
             try clear hcz33_1
             try clear hcz37_0
             try clear hcz37_1
             try clear hcz38_0
             try clear hcz38_1
             try clear hcz42_0
             try clear hcz42_1
             try clear hcz43_0
             try clear hcz43_1
             try clear hcz47_0
             try clear hcz47_1
             try clear hcz48_0
             try clear hcz48_1
             try clear hcz56_0
             try clear hcz56_1
             try clear hcz8_0
             try clear hcz8_1
             try clear hfz32_0
             try clear hfz32_1
             try clear hfz33_0
             try clear hfz33_1
             try clear hfz37_0
             try clear hfz37_1
             try clear hfz38_0
             try clear hfz38_1
             try clear hfz42_0
             try clear hfz42_1
             try clear hfz43_0
             try clear hfz43_1
             try clear hfz47_0
             try clear hfz47_1
             try clear hfz48_0
             try clear hfz48_1
             try clear hfz56_0
             try clear hfz56_1
             try clear hfz8_0
             try clear hfz8_1
             try clear hx109_0
             try clear hx113_0
             try clear hx113_1
             try clear hx115_0
             try clear hx18_0
             try clear hx20_0
             try clear hx23_0
             try clear hx53_0
             try clear p1
             try clear p10
             try clear p109
             try clear p113
             try clear p115
             try clear p18
             try clear p2
             try clear p20
             try clear p53
             try clear p6
             try clear q1
             try clear q10
             try clear q109
             try clear q113
             try clear q115
             try clear q18
             try clear q2
             try clear q20
             try clear q25
             try clear q53
             obtain ⟨x6_4, x10_4, rfl, HA, HK4, HO_6, BK101, HB⟩ := hrel
             cases gk with
             | zero => exact absurd HA.out (by simp [spec_LatOf.l2])
             | succ k4 =>
              have H := HA.out
              clear HA
              simp only [spec_LatOf.l2] at H
              by_cases c62 : x10_4 < a0
              ·rw [if_pos c62] at H
               have c62b0 : decide (x10_4 < a0) = true := decide_eq_true c62
               clear c62
               have H' := Aside0.mk H
               clear H
               go_wp2
               go_loopg [11] k4 (fun kq v11 w' => ∃ (x6_5 : List (List Bool)) (x11_5 : Int), v11 = .int .i64 x11_5 ∧ Aside0 (spec_LatOf.l3 kq a0 x6_5 x10_4 x11_5 = some (r1, r2, r3)) ∧ Aside0 (kq ≤ k4) ∧ Aside0 (Kd.S (Kd.slice 4 Kd.bool) 277 w' w.heap.size (fun _ => True) v103 x6_5) ∧ Aside0 (w'.heap[gb101]? = some (.cells #[.int .i64 x102000_3, (.slice none 0 0)] 47 (0, 0))) ∧ Aside0 (Below w.heap.size w w'))
               case atStart => exact ⟨(x6_4), (0), qz2, H', ⟨Nat.le_refl _⟩, ⟨qz346⟩, ⟨qz8 BK101.out⟩, ⟨qz10 GE101.out⟩⟩
               case round =>
                clear H'
                try clear c1
                try clear p1
                try clear q1
                try clear hx1
                try clear c2
                try clear p2
                try clear q2
                try clear hx2
                try clear hf2
                try clear c3
                try clear c4
                try clear c5
                try clear c5b0
                try clear p5
                try clear q5
                try clear hx5
                try clear hf5
                try clear c6
                try clear c6b0
                try clear p6
                try clear q6
                try clear c7
                try clear c9
                try clear c9b0
                try clear c9b1
                try clear c10
                try clear c10b0
                try clear c10b1
                try clear p10
                try clear q10
                try clear hx10
                try clear c11
                try clear p11
                try clear q11
                try clear hx11
                try clear c13
                try clear c13b0
                try clear c14
                try clear c14b0
                try clear c14b1
                try clear c15
                try clear c15b0
                try clear c15b1
                try clear c16
                try clear c16b0
                try clear c17
                try clear c17b0
                try clear c18
                try clear p18
                try clear q18
                try clear hx18
                try clear hf18
                try clear c19
                try clear c19b0
                try clear p20
                try clear q20
                try clear hx20
                try clear hf20
                try clear c23
                try clear hx23
                try clear hf23
                try clear c25
                try clear q25
                try clear c27
                try clear c27b0
                try clear c28
                try clear c28b0
                try clear c29
                try clear c29b0
                try clear c31
                try clear c34
                try clear c34b0
                try clear c36
                try clear c39
                try clear c39b0
                try clear c41
                try clear c44
                try clear c44b0
                try clear c46
                try clear c49
                try clear c49b0
                try clear c50
                try clear c50b0
                try clear c51
                try clear c51b0
                try clear c52
                try clear c52b0
                try clear p53
                try clear q53
                try clear hx53
                try clear hf53
                try clear c55
                try clear c60
                try clear q60
                try clear c62
                try clear c62b0
                try clear hcz32_0
                try clear hcz32_1
                try clear hcz33_0
                try clear hcz33_1
                try clear hcz37_0
                try clear hcz37_1
                try clear hcz38_0
                try clear hcz38_1
                try clear hcz42_0
                try clear hcz42_1
                try clear hcz43_0
                try clear hcz43_1
                try clear hcz47_0
                try clear hcz47_1
                try clear hcz48_0
                try clear hcz48_1
                try clear hcz56_0
                try clear hcz56_1
                try clear hcz8_0
                try clear hcz8_1
                try clear hfz32_0
                try clear hfz32_1
                try clear hfz33_0
                try clear hfz33_1
                try clear hfz37_0
                try clear hfz37_1
                try clear hfz38_0
                try clear hfz38_1
                try clear hfz42_0
                try clear hfz42_1
                try clear hfz43_0
                try clear hfz43_1
                try clear hfz47_0
                try clear hfz47_1
                try clear hfz48_0
                try clear hfz48_1
                try clear hfz56_0
                try clear hfz56_1
                try clear hfz8_0
                try clear hfz8_1
                try clear hx109_0
                try clear hx113_0
                try clear hx113_1
                try clear hx115_0
                try clear hx18_0
                try clear hx20_0
                try clear hx23_0
                try clear hx53_0
                try clear p1
                try clear p10
                try clear p109
                try clear p11
                try clear p113
                try clear p115
                try clear p18
                try clear p2
                try clear p20
                try clear p5
                try clear p53
                try clear p6
                try clear q1
                try clear q10
                try clear q109
                try clear q11
                try clear q113
                try clear q115
                try clear q18
                try clear q2
                try clear q20
                try clear q25
                try clear q5
                try clear q53
                try clear q6
                try clear q60
                obtain ⟨x6_5, x11_5, rfl, HA, HK5, HO_6, BK101, HB⟩ := hrel
                cases gk with
                | zero => exact absurd HA.out (by simp [spec_LatOf.l3])
                | succ k5 =>
                 have H := HA.out
                 clear HA
                 simp only [spec_LatOf.l3] at H
                 by_cases c63 : x11_5 < a0
                 ·rw [if_pos c63] at H
                  have c63b0 : decide (x11_5 < a0) = true := decide_eq_true c63
                  clear c63
                  have H' := Aside0.mk H
                  clear H
                  go_wp2
                  go_loopg [12] k5 (fun kq v12 w' => ∃ (x6_6 : List (List Bool)) (x12_6 : Int), v12 = .int .i64 x12_6 ∧ Aside0 (spec_LatOf.l4 kq a0 x6_6 x10_4 x11_5 x12_6 = some (r1, r2, r3)) ∧ Aside0 (kq ≤ k5) ∧ Aside0 (Kd.S (Kd.slice 4 Kd.bool) 277 w' w.heap.size (fun _ => True) v103 x6_6) ∧ Aside0 (w'.heap[gb101]? = some (.cells #[.int .i64 x102000_3, (.slice none 0 0)] 47 (0, 0))) ∧ Aside0 (Below w.heap.size w w'))
                  case atStart => exact ⟨(x6_5), (0), qz2, H', ⟨Nat.le_refl _⟩, ⟨qz346⟩, ⟨qz8 BK101.out⟩, ⟨qz10 GE101.out⟩⟩
                  case round =>
                   clear H'
                   try clear c1
                   try clear p1
                   try clear q1
                   try clear hx1
                   try clear c2
                   try clear p2
                   try clear q2
                   try clear hx2
                   try clear hf2
                   try clear c3
                   try clear c4
                   try clear c5
                   try clear c5b0
                   try clear p5
                   try clear q5
                   try clear hx5
                   try clear hf5
                   try clear c6
                   try clear c6b0
                   try clear p6
                   try clear q6
                   try clear c7
                   try clear c9
                   try clear c9b0
                   try clear c9b1
                   try clear c10
                   try clear c10b0
                   try clear c10b1
                   try clear p10
                   try clear q10
                   try clear hx10
                   try clear c11
                   try clear p11
                   try clear q11
                   try clear hx11
                   try clear c13
                   try clear c13b0
                   try clear c14
                   try clear c14b0
                   try clear c14b1
                   try clear c15
                   try clear c15b0
                   try clear c15b1
                   try clear c16
                   try clear c16b0
                   try clear c17
                   try clear c17b0
                   try clear c18
                   try clear p18
                   try clear q18
                   try clear hx18
                   try clear hf18
                   try clear c19
                   try clear c19b0
                   try clear p20
                   try clear q20
                   try clear hx20
                   try clear hf20
                   try clear c23
                   try clear hx23
                   try clear hf23
                   try clear c25
                   try clear q25
                   try clear c27
                   try clear c27b0
                   try clear c28
                   try clear c28b0
                   try clear c29
                   try clear c29b0
                   try clear c31
                   try clear c34
                   try clear c34b0
                   try clear c36
                   try clear c39
                   try clear c39b0
                   try clear c41
                   try clear c44
                   try clear c44b0
                   try clear c46
                   try clear c49
                   try clear c49b0
                   try clear c50
                   try clear c50b0
                   try clear c51
                   try clear c51b0
                   try clear c52
                   try clear c52b0
                   try clear p53
                   try clear q53
                   try clear hx53
                   try clear hf53
                   try clear c55
                   try clear c60
                   try clear q60
                   try clear c62
                   try clear c62b0
                   try clear c63
                   try clear c63b0
                   try clear hcz32_0
                   try clear hcz32_1
                   try clear hcz33_0
                   try clear hcz33_1
                   try clear hcz37_0
                   try clear hcz37_1
                   try clear hcz38_0
                   try clear hcz38_1
                   try clear hcz42_0
                   try clear hcz42_1
                   try clear hcz43_0
                   try clear hcz43_1
                   try clear hcz47_0
                   try clear hcz47_1
                   try clear hcz48_0
                   try clear hcz48_1
                   try clear hcz56_0
                   try clear hcz56_1
                   try clear hcz8_0
                   try clear hcz8_1
                   try clear hfz32_0
                   try clear hfz32_1
                   try clear hfz33_0
                   try clear hfz33_1
                   try clear hfz37_0
                   try clear hfz37_1
                   try clear hfz38_0
                   try clear hfz38_1
                   try clear hfz42_0
                   try clear hfz42_1
                   try clear hfz43_0
                   try clear hfz43_1
                   try clear hfz47_0
                   try clear hfz47_1
                   try clear hfz48_0
                   try clear hfz48_1
                   try clear hfz56_0
                   try clear hfz56_1
                   try clear hfz8_0
                   try clear hfz8_1
                   try clear hx109_0
                   try clear hx113_0
                   try clear hx113_1
                   try clear hx115_0
                   try clear hx18_0
                   try clear hx20_0
                   try clear hx23_0
                   try clear hx53_0
                   try clear p1
                   try clear p10
                   try clear p109
                   try clear p11
                   try clear p113
                   try clear p115
                   try clear p18
                   try clear p2
                   try clear p20
                   try clear p5
                   try clear p53
                   try clear p6
                   try clear q1
                   try clear q10
                   try clear q109
                   try clear q11
                   try clear q113
                   try clear q115
                   try clear q18
                   try clear q2
                   try clear q20
                   try clear q25
                   try clear q5
                   try clear q53
                   try clear q6
                   try clear q60
                   obtain ⟨x6_6, x12_6, rfl, HA, HK6, HO_6, BK101, HB⟩ := hrel
                   cases gk with
                   | zero => exact absurd HA.out (by simp [spec_LatOf.l4])
                   | succ k6 =>
                    have H := HA.out
                    clear HA
                    simp only [spec_LatOf.l4] at H
                    by_cases c64 : x12_6 < a0
                    ·rw [if_pos c64] at H
                     have c64b0 : decide (x12_6 < a0) = true := decide_eq_true c64
                     clear c64
                     by_cases c65 : 0 ≤ x11_5
                     ·rw [if_pos c65] at H
                      have c65b0 : decide (0 ≤ x11_5) = true := decide_eq_true c65
                      clear c65
                      by_cases c66 : x11_5 < (x6_6.length : Int)
                      ·rw [if_pos c66] at H
                       have c66b0 : decide (x11_5 < (x6_6.length : Int)) = true := decide_eq_true c66
                       clear c66
                       by_cases c67 : 0 ≤ x12_6
                       ·rw [if_pos c67] at H
                        have c67b0 : decide (0 ≤ x12_6) = true := decide_eq_true c67
                        clear c67
                        by_cases c68 : x12_6 < ((rd_L43 x6_6 x11_5).length : Int)
                        ·rw [if_pos c68] at H
                         have c68b0 : decide (x12_6 < ((rd_L43 x6_6 x11_5).length : Int)) = true := decide_eq_true c68
                         clear c68
                         obtain ⟨bq69, hbq69⟩ : ∃ b_ : Bool, b_ = (rdOf false (rd_L43 x6_6 x11_5) x12_6) := ⟨_, rfl⟩
                         replace H : (if bq69 = true then (spec_LatOf.l4 k6 a0 (x6_6.set (x11_5 : Int).toNat ((rd_L43 x6_6 x11_5).set (x12_6 : Int).toNat true)) x10_4 x11_5 (wrap64 (x12_6 + 1))) else (if 0 ≤ x10_4 then (if x10_4 < ((rd_L43 x6_6 x11_5).length : Int) then (if rdOf false (rd_L43 x6_6 x11_5) x10_4 = true then (if x10_4 < (x6_6.length : Int) then (if x12_6 < ((rd_L43 x6_6 x10_4).length : Int) then (spec_LatOf.l4 k6 a0 (x6_6.set (x11_5 : Int).toNat ((rd_L43 x6_6 x11_5).set (x12_6 : Int).toNat (rdOf false (rd_L43 x6_6 x10_4) x12_6))) x10_4 x11_5 (wrap64 (x12_6 + 1))) else (none)) else (none)) else (spec_LatOf.l4 k6 a0 (x6_6.set (x11_5 : Int).toNat ((rd_L43 x6_6 x11_5).set (x12_6 : Int).toNat false)) x10_4 x11_5 (wrap64 (x12_6 + 1)))) else (none)) else (none))) = some (r1, r2, r3) := by rw [← hbq69] at H; exact H
                         have Nbq69 := Aside0.mk hbq69
                         clear hbq69
                         by_cases c70 : bq69 = true
                         ·subst c70
                          have H1 : (spec_LatOf.l4 k6 a0 (x6_6.set (x11_5 : Int).toNat ((rd_L43 x6_6 x11_5).set (x12_6 : Int).toNat true)) x10_4 x11_5 (wrap64 (x12_6 + 1))) = some (r1, r2, r3) := by rw [if_pos rfl] at H; exact H
                          clear H
                          have H := H1
                          clear H1
                          obtain ⟨y122, hy122⟩ : ∃ y_ : List Bool, y_ = ((rd_L43 x6_6 x11_5).set (x12_6 : Int).toNat true) := ⟨_, rfl⟩
                          replace H : (spec_LatOf.l4 k6 a0 (x6_6.set (x11_5 : Int).toNat y122) x10_4 x11_5 (wrap64 (x12_6 + 1))) = some (r1, r2, r3) := by first | (rw [hy122]; with_reducible exact H) | (have H2_ := (Option.bind_some _ _).symm.trans H; rw [hy122]; with_reducible exact H2_) | (have H2_ := (Option.bind_some _ _).symm.trans H; with_reducible exact H2_) | with_reducible exact H | (rw [hy122]; exact H) | exact H
                          have Ny122 := Aside0.mk hy122
                          clear hy122
                          obtain ⟨y124, hy124⟩ : ∃ y_ : List (List Bool), y_ = (x6_6.set (x11_5 : Int).toNat y122) := ⟨_, rfl⟩
                          replace H : (spec_LatOf.l4 k6 a0 y124 x10_4 x11_5 (wrap64 (x12_6 + 1))) = some (r1, r2, r3) := by first | (rw [hy124]; with_reducible exact H) | (have H2_ := (Option.bind_some _ _).symm.trans H; rw [hy124]; with_reducible exact H2_) | (have H2_ := (Option.bind_some _ _).symm.trans H; with_reducible exact H2_) | with_reducible exact H | (rw [hy124]; exact H) | exact H
                          have Ny124 := Aside0.mk hy124
                          clear hy124
                          have H' := Aside0.mk H
                          clear H
                          try go_wp2
                          have n0_ := Aside0.mk (Kd.S_drew HO_6.out)
                          have n1_ := Aside0.mk (blk_drew BK101.out)
                          have n2_ := Aside0.mk (below_drew1 HB.out)
                          clear HO_6
                          clear BK101
                          clear HB
                          have HO_6 := n0_
                          have BK101 := n1_
                          have HB := n2_
                          clear n0_ n1_ n2_
                          obtain ⟨Ao73, co73, eo73⟩ := Kd.S_slice HO_6.out
                          (first | subst eo73 | (injection eo73 with f1_ f2_ f3_; have f4_ := f1_.symm; have f5_ := f3_.symm; clear f1_ f2_ f3_; subst f4_; subst f5_))
                          have p119 : 0 ≤ (x11_5 : Int) := of_decide_eq_true qz4
                          have q119 : x11_5 < (x6_6.length : Int) := of_decide_eq_true qz4
                          obtain ⟨ad119, A119_0, c119_0, e119, hx119_0, hl119_0, hi119_0⟩ := at_L43 (Kd.S_reads' HO_6.out).2.2 x11_5 p119 q119
                          cases e119
                          obtain ⟨ce119, hce119, hMe119, hcc119⟩ := Kd.S_get HO_6.out [] x11_5 p119 qz349
                          obtain ⟨ve119_0, rfl, ge119_0⟩ := hMe119
                          have hv119_0 := hcc119 0 _ rfl
                          rw [Nat.add_zero, show ((Kd.slice 4 Kd.bool)).sz = 1 from rfl, Nat.mul_one] at hv119_0
                          replace hv119_0 := Option.some.inj (hv119_0.symm.trans hx119_0)
                          rw [hv119_0] at ge119_0
                          have HL119_0 := Aside0.mk (show Kd.R Kd.bool 4 _ _ _ _ (rd_L43 x6_6 x11_5) from ge119_0)
                          clear hv119_0 ge119_0
                          have HX119_0 := Aside0.mk hx119_0
                          clear hcc119 hce119
                          have HR119_0 := Aside0.mk hi119_0
                          have HC119_0 := Aside0.mk hl119_0
                          clear hi119_0 hl119_0
                          replace p119 := eq_true p119
                          replace q119 := eq_true q119
                          have p120 : 0 ≤ (x11_5 : Int) := of_decide_eq_true qz4
                          have q120 : x11_5 < (x6_6.length : Int) := of_decide_eq_true qz4
                          obtain ⟨ad120, A120_0, c120_0, e120, hx120_0, hl120_0, hi120_0⟩ := at_L43 (Kd.S_reads' HO_6.out).2.2 x11_5 p120 q120
                          obtain rfl : ad119 = ad120 := (by injection e120)
                          obtain ⟨ce120, hce120, hMe120, hcc120⟩ := Kd.S_get HO_6.out [] x11_5 p120 qz350
                          obtain ⟨ve120_0, rfl, ge120_0⟩ := hMe120
                          have hv120_0 := hcc120 0 _ rfl
                          rw [Nat.add_zero, show ((Kd.slice 4 Kd.bool)).sz = 1 from rfl, Nat.mul_one] at hv120_0
                          replace hv120_0 := Option.some.inj (hv120_0.symm.trans hx120_0)
                          rw [hv120_0] at ge120_0
                          have HL120_0 := Aside0.mk (show Kd.R Kd.bool 4 _ _ _ _ (rd_L43 x6_6 x11_5) from ge120_0)
                          clear hv120_0 ge120_0
                          have HX120_0 := Aside0.mk hx120_0
                          clear hcc120 hce120
                          have HR120_0 := Aside0.mk hi120_0
                          have HC120_0 := Aside0.mk hl120_0
                          clear hi120_0 hl120_0
                          replace p120 := eq_true p120
                          replace q120 := eq_true q120
                          have ea_ := Option.some.inj (hx119_0.symm.trans hx120_0)
                          injection ea_ with ea_ en_ ec_
                          subst ea_
                          subst ec_
                          clear en_
                          have p121 : 0 ≤ (x12_6 : Int) := of_decide_eq_true qz4
                          have q121 : x12_6 < ((rd_L43 x6_6 x11_5).length : Int) := of_decide_eq_true qz4
                          obtain ⟨ad121, e121, hx121_0⟩ := Kd.at_bool (qz351 HR120_0.out) x12_6 p121 q121
                          (try rw [← Nbq69.out] at hx121_0)
                          cases e121
                          replace p121 := eq_true p121
                          replace q121 := eq_true q121
                          have p71 : 0 ≤ (x12_6 : Int) := of_decide_eq_true qz4
                          have q71 : (x12_6 : Int) < (((rd_L43 x6_6 x11_5).length : Int) : Int) := of_decide_eq_true qz4
                          obtain ⟨go71, co71, eo71, gb71, gl71, cl71, HG71⟩ := Kd.R_form HL119_0.out (by omega)
                          (first | cases eo71 | (injection eo71 with ea_ en_ ec_; (first | subst ea_ | (injection ea_ with ea_; subst ea_)); subst ec_; clear en_))
                          have GB71 := Aside0.mk gb71
                          have GG71 := Aside0.mk HG71
                          clear gb71 gl71 HG71
                          (first | simp only [add_plain] at hx121_0 | skip)
                          obtain ⟨hx71_0, hf71_0⟩ := Kd.R_celln false HL119_0.out (x12_6 : Int) p71 q71
                          replace p71 := eq_true p71
                          replace q71 := eq_true q71
                          have hq74 : (x11_5 : Int) < (x6_6.length : Int) := qz352
                          obtain ⟨oki74, ce74, hcl74, hM74, hcc74, hok74, hbk74⟩ := Kd.S_borrow HO_6.out [] (x11_5 : Int) (of_decide_eq_true qz4) hq74
                          obtain ⟨ve74_0, rfl, ge74_0⟩ := hM74
                          have hv74 := hcc74 0 _ rfl
                          rw [Nat.add_zero, show ((Kd.slice 4 Kd.bool)).sz = 1 from rfl, Nat.mul_one] at hv74
                          replace hv74 := Option.some.inj (hv74.symm.trans HX119_0.out)
                          subst hv74
                          clear hcc74 hcl74
                          replace ge74_0 := (show Kd.R Kd.bool 4 _ _ _ _ (rd_L43 x6_6 x11_5) from ge74_0)
                          have HP74 := Kd.R_putg ge74_0 (x12_6 : Int) true
                          rw [← Ny122.out] at HP74
                          have HS74 := hbk74 HP74.2 (fun k_ e_ => by injection e_ with e_; subst e_; exact ge74_0.1 _ rfl) (x' := y122) (Kd.M_row HP74.1)
                          rw [← Ny124.out] at HS74
                          have HQ74 := Aside0.mk HS74
                          clear HP74 HS74 hbk74 hok74
                          refine start_ (n := 32) (S := fun w' => w'.cell? _ = some _ ∧ w'.cell? _ = some _ ∧ w'.cell? _ = some _) (ds := [31]) #[false, false, false, false, false, false, false, false, false, false, false, false, false, false, false, false, false, false, false, false, false, false, false, false, false, false, false, false, false, false, false, false] (by kernel_rfl) rfl rfl ⟨hx119_0, hx120_0, hx121_0⟩ (fun hHeld => ?_); refine with_tabW spec_LatOf.tab25 spec_LatOf.bits25 (fun HT_ HW_ => ?_)
                          generalize wr.drew = w72 at HO_6 BK101 HB GG71 HL119_0 HL120_0 HQ74 HR119_0 HR120_0 HX119_0 HX120_0 hf71_0 hx119_0 hx120_0 hx121_0 hx71_0 hHeld ⊢
                          refine pure_ (i := 0) (N := some 101) (v := ?_) (a' := ?_) #[true, false, false, false, false, false, false, false, false, false, false, false, false, false, false, false, false, false, false, false, false, false, false, false, false, false, false, false, false, false, false, false] rfl rfl (any_of HT_.out (by kernel_rfl)) (fun _ _ _ h => h) (Or.inl ⟨by rfl, ?_⟩) ?_ ?_
                          rotate_left
                          ·intro w'
                           go_simp
                           with_reducible rfl
                          rotate_left
                          ·simp only [Act.put, List.setIfInBounds_toArray, List.set_cons_zero, List.set_cons_succ, i64_w, i32_w]
                           rfl
                          refine pure_ (i := 1) (N := some 102) (v := ?_) (a' := ?_) #[true, true, false, false, false, false, false, false, false, false, false, false, false, false, false, false, false, false, false, false, false, false, false, false, false, false, false, false, false, false, false, false] rfl rfl (any_of HT_.out (by kernel_rfl)) (fun _ _ _ h => h) (Or.inl ⟨by rfl, ?_⟩) ?_ ?_
                          rotate_left
                          ·intro w'
                           go_simp
                           with_reducible rfl
                          rotate_left
                          ·simp only [Act.put, List.setIfInBounds_toArray, List.set_cons_zero, List.set_cons_succ, i64_w, i32_w]
                           rfl
                          refine pure_ (i := 2) (N := some 103) (v := ?_) (a' := ?_) #[true, true, true, false, false, false, false, false, false, false, false, false, false, false, false, false, false, false, false, false, false, false, false, false, false, false, false, false, false, false, false, false] rfl rfl (any_of HT_.out (by kernel_rfl)) (fun _ _ _ h => h) (Or.inl ⟨by rfl, ?_⟩) ?_ ?_
                          rotate_left
                          ·intro w'
                           go_simp
                           with_reducible rfl
                          rotate_left
                          ·simp only [Act.put, List.setIfInBounds_toArray, List.set_cons_zero, List.set_cons_succ, i64_w, i32_w]
                           rfl
                          refine pure_ (i := 4) (N := some 105) (v := ?_) (a' := ?_) #[true, true, true, false, true, false, false, false, false, false, false, false, false, false, false, false, false, false, false, false, false, false, false, false, false, false, false, false, false, false, false, false] rfl rfl (any_of HT_.out (by kernel_rfl)) (fun _ _ _ h => h) (Or.inl ⟨by rfl, ?_⟩) ?_ ?_
                          rotate_left
                          ·intro w'
                           go_simp
                           with_reducible rfl
                          rotate_left
                          ·simp only [Act.put, List.setIfInBounds_toArray, List.set_cons_zero, List.set_cons_succ, i64_w, i32_w]
                           rfl
                          refine pure_ (i := 5) (N := some 106) (v := ?_) (a' := ?_) #[true, true, true, false, true, true, false, false, false, false, false, false, false, false, false, false, false, false, false, false, false, false, false, false, false, false, false, false, false, false, false, false] rfl rfl (any_of HT_.out (by kernel_rfl)) (fun _ _ _ h => h) (Or.inl ⟨by rfl, ?_⟩) ?_ ?_
                          rotate_left
                          ·intro w'
                           go_simp
                           with_reducible rfl
                          rotate_left
                          ·simp only [Act.put, List.setIfInBounds_toArray, List.set_cons_zero, List.set_cons_succ, i64_w, i32_w]
                           rfl
                          refine pure_ (i := 6) (N := some 107) (v := ?_) (a' := ?_) #[true, true, true, false, true, true, true, false, false, false, false, false, false, false, false, false, false, false, false, false, false, false, false, false, false, false, false, false, false, false, false, false] rfl rfl (any_of HT_.out (by kernel_rfl)) (fun _ _ _ h => h) (Or.inl ⟨by rfl, ?_⟩) ?_ ?_
                          rotate_left
                          ·intro w'
                           go_simp
                           with_reducible rfl
                          rotate_left
                          ·simp only [Act.put, List.setIfInBounds_toArray, List.set_cons_zero, List.set_cons_succ, i64_w, i32_w]
                           rfl
                          refine pure_ (i := 7) (N := some 108) (v := ?_) (a' := ?_) #[true, true, true, false, true, true, true, true, false, false, false, false, false, false, false, false, false, false, false, false, false, false, false, false, false, false, false, false, false, false, false, false] rfl rfl (any_of HT_.out (by kernel_rfl)) (fun _ _ _ h => h) (Or.inl ⟨by rfl, ?_⟩) ?_ ?_
                          rotate_left
                          ·intro w'
                           go_simp
                           with_reducible rfl
                          rotate_left
                          ·simp only [Act.put, List.setIfInBounds_toArray, List.set_cons_zero, List.set_cons_succ, i64_w, i32_w]
                           rfl
                          refine pure_ (i := 9) (N := some 110) (v := ?_) (a' := ?_) #[true, true, true, false, true, true, true, true, false, true, false, false, false, false, false, false, false, false, false, false, false, false, false, false, false, false, false, false, false, false, false, false] rfl rfl (any_of HT_.out (by kernel_rfl)) (fun _ _ _ h => h) (Or.inl ⟨by rfl, ?_⟩) ?_ ?_
                          rotate_left
                          ·intro w'
                           go_simp
                           with_reducible rfl
                          rotate_left
                          ·simp only [Act.put, List.setIfInBounds_toArray, List.set_cons_zero, List.set_cons_succ, i64_w, i32_w]
                           rfl
                          refine take_ (i := 3) (N := some 104) (v := ?_) (a' := ?_) #[true, true, true, true, true, true, true, true, false, true, false, false, false, false, false, false, false, false, false, false, false, false, false, false, false, false, false, false, false, false, false, false] rfl rfl (take_ofW HT_.out HW_.out (by kernel_rfl)) (fun _ _ _ h => h) (Or.inl ⟨by rfl, ?_⟩) hHeld ?_ ?_
                          rotate_left
                          ·rintro w' ⟨s0, s1, s2⟩
                           go_simp
                           with_reducible rfl
                          rotate_left
                          ·simp only [Act.put, List.setIfInBounds_toArray, List.set_cons_zero, List.set_cons_succ, i64_w, i32_w]
                           rfl
                          refine take_ (i := 8) (N := some 109) (v := ?_) (a' := ?_) #[true, true, true, true, true, true, true, true, true, true, false, false, false, false, false, false, false, false, false, false, false, false, false, false, false, false, false, false, false, false, false, false] rfl rfl (take_ofW HT_.out HW_.out (by kernel_rfl)) (fun _ _ _ h => h) (Or.inl ⟨by rfl, ?_⟩) hHeld ?_ ?_
                          rotate_left
                          ·rintro w' ⟨s0, s1, s2⟩
                           go_simp
                           with_reducible rfl
                          rotate_left
                          ·simp only [Act.put, List.setIfInBounds_toArray, List.set_cons_zero, List.set_cons_succ, i64_w, i32_w]
                           rfl
                          refine pure_ (i := 10) (N := some 111) (v := ?_) (a' := ?_) #[true, true, true, true, true, true, true, true, true, true, true, false, false, false, false, false, false, false, false, false, false, false, false, false, false, false, false, false, false, false, false, false] rfl rfl (any_of HT_.out (by kernel_rfl)) (fun _ _ _ h => h) (Or.inl ⟨by rfl, ?_⟩) ?_ ?_
                          rotate_left
                          ·intro w'
                           go_simp
                           with_reducible rfl
                          rotate_left
                          ·simp only [Act.put, List.setIfInBounds_toArray, List.set_cons_zero, List.set_cons_succ, i64_w, i32_w]
                           rfl
                          refine take_ (i := 11) (N := some 112) (v := ?_) (a' := ?_) #[true, true, true, true, true, true, true, true, true, true, true, true, false, false, false, false, false, false, false, false, false, false, false, false, false, false, false, false, false, false, false, false] rfl rfl (take_ofW HT_.out HW_.out (by kernel_rfl)) (fun _ _ _ h => h) (Or.inl ⟨by rfl, ?_⟩) hHeld ?_ ?_
                          rotate_left
                          ·rintro w' ⟨s0, s1, s2⟩
                           go_simp
                           with_reducible rfl
                          rotate_left
                          ·simp only [Act.put, List.setIfInBounds_toArray, List.set_cons_zero, List.set_cons_succ, i64_w, i32_w]
                           rfl
                          refine pure_ (i := 12) (N := some 113) (v := ?_) (a' := ?_) #[true, true, true, true, true, true, true, true, true, true, true, true, true, false, false, false, false, false, false, false, false, false, false, false, false, false, false, false, false, false, false, false] rfl rfl (any_of HT_.out (by kernel_rfl)) (fun _ _ _ h => h) (Or.inl ⟨by rfl, ?_⟩) ?_ ?_
                          rotate_left
                          ·intro w'
                           go_simp
                           with_reducible rfl
                          rotate_left
                          ·simp only [Act.put, List.setIfInBounds_toArray, List.set_cons_zero, List.set_cons_succ, i64_w, i32_w]
                           rfl
                          refine pure_ (i := 13) (N := some 114) (v := undef) (a' := ?_) #[true, true, true, true, true, true, true, true, true, true, true, true, true, true, false, false, false, false, false, false, false, false, false, false, false, false, false, false, false, false, false, false] rfl rfl (any_of HT_.out (by kernel_rfl)) (fun _ _ _ h => h) (Or.inr ⟨by rfl, rfl⟩) ?_ ?_
                          rotate_left
                          ·simp only [Act.put, List.setIfInBounds_toArray, List.set_cons_zero, List.set_cons_succ, i64_w, i32_w]
                           rfl
                          refine pure_ (i := 14) (N := some 115) (v := undef) (a' := ?_) #[true, true, true, true, true, true, true, true, true, true, true, true, true, true, true, false, false, false, false, false, false, false, false, false, false, false, false, false, false, false, false, false] rfl rfl (any_of HT_.out (by kernel_rfl)) (fun _ _ _ h => h) (Or.inr ⟨by rfl, rfl⟩) ?_ ?_
                          rotate_left
                          ·simp only [Act.put, List.setIfInBounds_toArray, List.set_cons_zero, List.set_cons_succ, i64_w, i32_w]
                           rfl
                          refine pure_ (i := 15) (N := some 116) (v := undef) (a' := ?_) #[true, true, true, true, true, true, true, true, true, true, true, true, true, true, true, true, false, false, false, false, false, false, false, false, false, false, false, false, false, false, false, false] rfl rfl (any_of HT_.out (by kernel_rfl)) (fun _ _ _ h => h) (Or.inr ⟨by rfl, rfl⟩) ?_ ?_
                          rotate_left
                          ·simp only [Act.put, List.setIfInBounds_toArray, List.set_cons_zero, List.set_cons_succ, i64_w, i32_w]
                           rfl
                          refine pure_ (i := 16) (N := some 117) (v := undef) (a' := ?_) #[true, true, true, true, true, true, true, true, true, true, true, true, true, true, true, true, true, false, false, false, false, false, false, false, false, false, false, false, false, false, false, false] rfl rfl (any_of HT_.out (by kernel_rfl)) (fun _ _ _ h => h) (Or.inr ⟨by rfl, rfl⟩) ?_ ?_
                          rotate_left
                          ·simp only [Act.put, List.setIfInBounds_toArray, List.set_cons_zero, List.set_cons_succ, i64_w, i32_w]
                           rfl
                          refine pure_ (i := 17) (N := some 118) (v := undef) (a' := ?_) #[true, true, true, true, true, true, true, true, true, true, true, true, true, true, true, true, true, true, false, false, false, false, false, false, false, false, false, false, false, false, false, false] rfl rfl (any_of HT_.out (by kernel_rfl)) (fun _ _ _ h => h) (Or.inr ⟨by rfl, rfl⟩) ?_ ?_
                          rotate_left
                          ·simp only [Act.put, List.setIfInBounds_toArray, List.set_cons_zero, List.set_cons_succ, i64_w, i32_w]
                           rfl
                          refine pure_ (i := 18) (N := some 119) (v := undef) (a' := ?_) #[true, true, true, true, true, true, true, true, true, true, true, true, true, true, true, true, true, true, true, false, false, false, false, false, false, false, false, false, false, false, false, false] rfl rfl (any_of HT_.out (by kernel_rfl)) (fun _ _ _ h => h) (Or.inr ⟨by rfl, rfl⟩) ?_ ?_
                          rotate_left
                          ·simp only [Act.put, List.setIfInBounds_toArray, List.set_cons_zero, List.set_cons_succ, i64_w, i32_w]
                           rfl
                          refine pure_ (i := 19) (N := some 120) (v := undef) (a' := ?_) #[true, true, true, true, true, true, true, true, true, true, true, true, true, true, true, true, true, true, true, true, false, false, false, false, false, false, false, false, false, false, false, false] rfl rfl (any_of HT_.out (by kernel_rfl)) (fun _ _ _ h => h) (Or.inr ⟨by rfl, rfl⟩) ?_ ?_
                          rotate_left
                          ·simp only [Act.put, List.setIfInBounds_toArray, List.set_cons_zero, List.set_cons_succ, i64_w, i32_w]
                           rfl
                          refine pure_ (i := 20) (N := some 121) (v := undef) (a' := ?_) #[true, true, true, true, true, true, true, true, true, true, true, true, true, true, true, true, true, true, true, true, true, false, false, false, false, false, false, false, false, false, false, false] rfl rfl (any_of HT_.out (by kernel_rfl)) (fun _ _ _ h => h) (Or.inr ⟨by rfl, rfl⟩) ?_ ?_
                          rotate_left
                          ·simp only [Act.put, List.setIfInBounds_toArray, List.set_cons_zero, List.set_cons_succ, i64_w, i32_w]
                           rfl
                          refine pure_ (i := 21) (N := some 122) (v := undef) (a' := ?_) #[true, true, true, true, true, true, true, true, true, true, true, true, true, true, true, true, true, true, true, true, true, true, false, false, false, false, false, false, false, false, false, false] rfl rfl (any_of HT_.out (by kernel_rfl)) (fun _ _ _ h => h) (Or.inr ⟨by rfl, rfl⟩) ?_ ?_
                          rotate_left
                          ·simp only [Act.put, List.setIfInBounds_toArray, List.set_cons_zero, List.set_cons_succ, i64_w, i32_w]
                           rfl
                          refine pure_ (i := 22) (N := some 123) (v := undef) (a' := ?_) #[true, true, true, true, true, true, true, true, true, true, true, true, true, true, true, true, true, true, true, true, true, true, true, false, false, false, false, false, false, false, false, false] rfl rfl (any_of HT_.out (by kernel_rfl)) (fun _ _ _ h => h) (Or.inr ⟨by rfl, rfl⟩) ?_ ?_
                          rotate_left
                          ·simp only [Act.put, List.setIfInBounds_toArray, List.set_cons_zero, List.set_cons_succ, i64_w, i32_w]
                           rfl
                          refine pure_ (i := 23) (N := some 124) (v := undef) (a' := ?_) #[true, true, true, true, true, true, true, true, true, true, true, true, true, true, true, true, true, true, true, true, true, true, true, true, false, false, false, false, false, false, false, false] rfl rfl (any_of HT_.out (by kernel_rfl)) (fun _ _ _ h => h) (Or.inr ⟨by rfl, rfl⟩) ?_ ?_
                          rotate_left
                          ·simp only [Act.put, List.setIfInBounds_toArray, List.set_cons_zero, List.set_cons_succ, i64_w, i32_w]
                           rfl
                          refine pure_ (i := 24) (N := some 125) (v := undef) (a' := ?_) #[true, true, true, true, true, true, true, true, true, true, true, true, true, true, true, true, true, true, true, true, true, true, true, true, true, false, false, false, false, false, false, false] rfl rfl (any_of HT_.out (by kernel_rfl)) (fun _ _ _ h => h) (Or.inr ⟨by rfl, rfl⟩) ?_ ?_
                          rotate_left
                          ·simp only [Act.put, List.setIfInBounds_toArray, List.set_cons_zero, List.set_cons_succ, i64_w, i32_w]
                           rfl
                          refine pure_ (i := 25) (N := some 126) (v := undef) (a' := ?_) #[true, true, true, true, true, true, true, true, true, true, true, true, true, true, true, true, true, true, true, true, true, true, true, true, true, true, false, false, false, false, false, false] rfl rfl (any_of HT_.out (by kernel_rfl)) (fun _ _ _ h => h) (Or.inr ⟨by rfl, rfl⟩) ?_ ?_
                          rotate_left
                          ·simp only [Act.put, List.setIfInBounds_toArray, List.set_cons_zero, List.set_cons_succ, i64_w, i32_w]
                           rfl
                          refine pure_ (i := 26) (N := some 127) (v := undef) (a' := ?_) #[true, true, true, true, true, true, true, true, true, true, true, true, true, true, true, true, true, true, true, true, true, true, true, true, true, true, true, false, false, false, false, false] rfl rfl (any_of HT_.out (by kernel_rfl)) (fun _ _ _ h => h) (Or.inr ⟨by rfl, rfl⟩) ?_ ?_
                          rotate_left
                          ·simp only [Act.put, List.setIfInBounds_toArray, List.set_cons_zero, List.set_cons_succ, i64_w, i32_w]
                           rfl
                          refine pure_ (i := 27) (N := some 128) (v := undef) (a' := ?_) #[true, true, true, true, true, true, true, true, true, true, true, true, true, true, true, true, true, true, true, true, true, true, true, true, true, true, true, true, false, false, false, false] rfl rfl (any_of HT_.out (by kernel_rfl)) (fun _ _ _ h => h) (Or.inr ⟨by rfl, rfl⟩) ?_ ?_
                          rotate_left
                          ·simp only [Act.put, List.setIfInBounds_toArray, List.set_cons_zero, List.set_cons_succ, i64_w, i32_w]
                           rfl
                          refine pure_ (i := 28) (N := some 129) (v := undef) (a' := ?_) #[true, true, true, true, true, true, true, true, true, true, true, true, true, true, true, true, true, true, true, true, true, true, true, true, true, true, true, true, true, false, false, false] rfl rfl (any_of HT_.out (by kernel_rfl)) (fun _ _ _ h => h) (Or.inr ⟨by rfl, rfl⟩) ?_ ?_
                          rotate_left
                          ·simp only [Act.put, List.setIfInBounds_toArray, List.set_cons_zero, List.set_cons_succ, i64_w, i32_w]
                           rfl
                          refine pure_ (i := 29) (N := some 130) (v := ?_) (a' := ?_) #[true, true, true, true, true, true, true, true, true, true, true, true, true, true, true, true, true, true, true, true, true, true, true, true, true, true, true, true, true, true, false, false] rfl rfl (any_of HT_.out (by kernel_rfl)) (fun _ _ _ h => h) (Or.inl ⟨by rfl, ?_⟩) ?_ ?_
                          rotate_left
                          ·intro w'
                           go_simp
                           with_reducible rfl
                          rotate_left
                          ·simp only [Act.put, List.setIfInBounds_toArray, List.set_cons_zero, List.set_cons_succ, i64_w, i32_w]
                           rfl
                          refine pure_ (i := 30) (N := some 131) (v := ?_) (a' := ?_) #[true, true, true, true, true, true, true, true, true, true, true, true, true, true, true, true, true, true, true, true, true, true, true, true, true, true, true, true, true, true, true, false] rfl rfl (any_of HT_.out (by kernel_rfl)) (fun _ _ _ h => h) (Or.inl ⟨by rfl, ?_⟩) ?_ ?_
                          rotate_left
                          ·intro w'
                           go_simp
                           with_reducible rfl
                          rotate_left
                          ·simp only [Act.put, List.setIfInBounds_toArray, List.set_cons_zero, List.set_cons_succ, i64_w, i32_w]
                           rfl
                          refine last_ (i := 31) (N := none) #[true, true, true, true, true, true, true, true, true, true, true, true, true, true, true, true, true, true, true, true, true, true, true, true, true, true, true, true, true, true, true, true] rfl rfl (one_of HT_.out (by kernel_rfl)) (by decide) (fun K hK => ?_)
                          refine skip_ (w1 := ?_) (by rfl) rfl ?_ ?_
                          rotate_left
                          ·go_simp
                           rfl
                          refine hK.out _ _ ?_
                          clear hK K
                          refine done_ (done_of HT_.out (by kernel_rfl)) ?_
                          try go_wp2
                          go_roundg k6
                          case measure => have := HJ2.out; have := HK2.out; have := HK3.out; have := HK4.out; have := HK5.out; have := HK6.out; omega
                          case rel => exact ⟨(y124), (wrap64 (x12_6 + 1)), qz2, H', ⟨qz353⟩, ⟨qz257 HQ74.out⟩, ⟨qz193 HL119_0.out BK101.out⟩, ⟨qz43 GB71.out GE101.out⟩⟩
                         ·replace c70 := Bool.eq_false_iff.mpr c70
                          subst c70
                          have H1 : (if 0 ≤ x10_4 then (if x10_4 < ((rd_L43 x6_6 x11_5).length : Int) then (if rdOf false (rd_L43 x6_6 x11_5) x10_4 = true then (if x10_4 < (x6_6.length : Int) then (if x12_6 < ((rd_L43 x6_6 x10_4).length : Int) then (spec_LatOf.l4 k6 a0 (x6_6.set (x11_5 : Int).toNat ((rd_L43 x6_6 x11_5).set (x12_6 : Int).toNat (rdOf false (rd_L43 x6_6 x10_4) x12_6))) x10_4 x11_5 (wrap64 (x12_6 + 1))) else (none)) else (none)) else (spec_LatOf.l4 k6 a0 (x6_6.set (x11_5 : Int).toNat ((rd_L43 x6_6 x11_5).set (x12_6 : Int).toNat false)) x10_4 x11_5 (wrap64 (x12_6 + 1)))) else (none)) else (none)) = some (r1, r2, r3) := by rw [if_neg (show ¬ (false = true) by decide)] at H; exact H
                          clear H
                          have H := H1
                          clear H1
                          by_cases c76 : 0 ≤ x10_4
                          ·rw [if_pos c76] at H
                           have c76b0 : decide (0 ≤ x10_4) = true := decide_eq_true c76
                           clear c76
                           by_cases c77 : x10_4 < ((rd_L43 x6_6 x11_5).length : Int)
                           ·rw [if_pos c77] at H
                            have c77b0 : decide (x10_4 < ((rd_L43 x6_6 x11_5).length : Int)) = true := decide_eq_true c77
                            clear c77
                            obtain ⟨bq78, hbq78⟩ : ∃ b_ : Bool, b_ = (rdOf false (rd_L43 x6_6 x11_5) x10_4) := ⟨_, rfl⟩
                            replace H : (if bq78 = true then (if x10_4 < (x6_6.length : Int) then (if x12_6 < ((rd_L43 x6_6 x10_4).length : Int) then (spec_LatOf.l4 k6 a0 (x6_6.set (x11_5 : Int).toNat ((rd_L43 x6_6 x11_5).set (x12_6 : Int).toNat (rdOf false (rd_L43 x6_6 x10_4) x12_6))) x10_4 x11_5 (wrap64 (x12_6 + 1))) else (none)) else (none)) else (spec_LatOf.l4 k6 a0 (x6_6.set (x11_5 : Int).toNat ((rd_L43 x6_6 x11_5).set (x12_6 : Int).toNat false)) x10_4 x11_5 (wrap64 (x12_6 + 1)))) = some (r1, r2, r3) := by rw [← hbq78] at H; exact H
                            have Nbq78 := Aside0.mk hbq78
                            clear hbq78
                            by_cases c79 : bq78 = true
                            ·subst c79
                             have H1 : (if x10_4 < (x6_6.length : Int) then (if x12_6 < ((rd_L43 x6_6 x10_4).length : Int) then (spec_LatOf.l4 k6 a0 (x6_6.set (x11_5 : Int).toNat ((rd_L43 x6_6 x11_5).set (x12_6 : Int).toNat (rdOf false (rd_L43 x6_6 x10_4) x12_6))) x10_4 x11_5 (wrap64 (x12_6 + 1))) else (none)) else (none)) = some (r1, r2, r3) := by rw [if_pos rfl] at H; exact H
                             clear H
                             have H := H1
                             clear H1
                             by_cases c80 : x10_4 < (x6_6.length : Int)
                             ·rw [if_pos c80] at H
                              have c80b0 : decide (x10_4 < (x6_6.length : Int)) = true := decide_eq_true c80
                              clear c80
                              by_cases c81 : x12_6 < ((rd_L43 x6_6 x10_4).length : Int)
                              ·rw [if_pos c81] at H
                               have c81b0 : decide (x12_6 < ((rd_L43 x6_6 x10_4).length : Int)) = true := decide_eq_true c81
                               clear c81
                               obtain ⟨y129, hy129⟩ : ∃ y_ : List Bool, y_ = ((rd_L43 x6_6 x11_5).set (x12_6 : Int).toNat (rdOf false (rd_L43 x6_6 x10_4) x12_6)) := ⟨_, rfl⟩
                               replace H : (spec_LatOf.l4 k6 a0 (x6_6.set (x11_5 : Int).toNat y129) x10_4 x11_5 (wrap64 (x12_6 + 1))) = some (r1, r2, r3) := by first | (rw [hy129]; with_reducible exact H) | (have H2_ := (Option.bind_some _ _).symm.trans H; rw [hy129]; with_reducible exact H2_) | (have H2_ := (Option.bind_some _ _).symm.trans H; with_reducible exact H2_) | with_reducible exact H | (rw [hy129]; exact H) | exact H
                               have Ny129 := Aside0.mk hy129
                               clear hy129
                               obtain ⟨y131, hy131⟩ : ∃ y_ : List (List Bool), y_ = (x6_6.set (x11_5 : Int).toNat y129) := ⟨_, rfl⟩
                               replace H : (spec_LatOf.l4 k6 a0 y131 x10_4 x11_5 (wrap64 (x12_6 + 1))) = some (r1, r2, r3) := by first | (rw [hy131]; with_reducible exact H) | (have H2_ := (Option.bind_some _ _).symm.trans H; rw [hy131]; with_reducible exact H2_) | (have H2_ := (Option.bind_some _ _).symm.trans H; with_reducible exact H2_) | with_reducible exact H | (rw [hy131]; exact H) | exact H
                               have Ny131 := Aside0.mk hy131
                               clear hy131
                               have H' := Aside0.mk H
                               clear H
                               try go_wp2
                               have n0_ := Aside0.mk (Kd.S_drew HO_6.out)
                               have n1_ := Aside0.mk (blk_drew BK101.out)
                               have n2_ := Aside0.mk (below_drew1 HB.out)
                               clear HO_6
                               clear BK101
                               clear HB
                               have HO_6 := n0_
                               have BK101 := n1_
                               have HB := n2_
                               clear n0_ n1_ n2_
                               obtain ⟨Ao84, co84, eo84⟩ := Kd.S_slice HO_6.out
                               (first | subst eo84 | (injection eo84 with f1_ f2_ f3_; have f4_ := f1_.symm; have f5_ := f3_.symm; clear f1_ f2_ f3_; subst f4_; subst f5_))
                               have p119 : 0 ≤ (x11_5 : Int) := of_decide_eq_true qz4
                               have q119 : x11_5 < (x6_6.length : Int) := of_decide_eq_true qz4
                               obtain ⟨ad119, A119_0, c119_0, e119, hx119_0, hl119_0, hi119_0⟩ := at_L43 (Kd.S_reads' HO_6.out).2.2 x11_5 p119 q119
                               cases e119
                               obtain ⟨ce119, hce119, hMe119, hcc119⟩ := Kd.S_get HO_6.out [] x11_5 p119 qz349
                               obtain ⟨ve119_0, rfl, ge119_0⟩ := hMe119
                               have hv119_0 := hcc119 0 _ rfl
                               rw [Nat.add_zero, show ((Kd.slice 4 Kd.bool)).sz = 1 from rfl, Nat.mul_one] at hv119_0
                               replace hv119_0 := Option.some.inj (hv119_0.symm.trans hx119_0)
                               rw [hv119_0] at ge119_0
                               have HL119_0 := Aside0.mk (show Kd.R Kd.bool 4 _ _ _ _ (rd_L43 x6_6 x11_5) from ge119_0)
                               clear hv119_0 ge119_0
                               have HX119_0 := Aside0.mk hx119_0
                               clear hcc119 hce119
                               have HR119_0 := Aside0.mk hi119_0
                               have HC119_0 := Aside0.mk hl119_0
                               clear hi119_0 hl119_0
                               replace p119 := eq_true p119
                               replace q119 := eq_true q119
                               have p120 : 0 ≤ (x11_5 : Int) := of_decide_eq_true qz4
                               have q120 : x11_5 < (x6_6.length : Int) := of_decide_eq_true qz4
                               obtain ⟨ad120, A120_0, c120_0, e120, hx120_0, hl120_0, hi120_0⟩ := at_L43 (Kd.S_reads' HO_6.out).2.2 x11_5 p120 q120
                               obtain rfl : ad119 = ad120 := (by injection e120)
                               obtain ⟨ce120, hce120, hMe120, hcc120⟩ := Kd.S_get HO_6.out [] x11_5 p120 qz350
                               obtain ⟨ve120_0, rfl, ge120_0⟩ := hMe120
                               have hv120_0 := hcc120 0 _ rfl
                               rw [Nat.add_zero, show ((Kd.slice 4 Kd.bool)).sz = 1 from rfl, Nat.mul_one] at hv120_0
                               replace hv120_0 := Option.some.inj (hv120_0.symm.trans hx120_0)
                               rw [hv120_0] at ge120_0
                               have HL120_0 := Aside0.mk (show Kd.R Kd.bool 4 _ _ _ _ (rd_L43 x6_6 x11_5) from ge120_0)
                               clear hv120_0 ge120_0
                               have HX120_0 := Aside0.mk hx120_0
                               clear hcc120 hce120
                               have HR120_0 := Aside0.mk hi120_0
                               have HC120_0 := Aside0.mk hl120_0
                               clear hi120_0 hl120_0
                               replace p120 := eq_true p120
                               replace q120 := eq_true q120
                               have ea_ := Option.some.inj (hx119_0.symm.trans hx120_0)
                               injection ea_ with ea_ en_ ec_
                               subst ea_
                               subst ec_
                               clear en_
                               have p121 : 0 ≤ (x12_6 : Int) := of_decide_eq_true qz4
                               have q121 : x12_6 < ((rd_L43 x6_6 x11_5).length : Int) := of_decide_eq_true qz4
                               obtain ⟨ad121, e121, hx121_0⟩ := Kd.at_bool (qz351 HR120_0.out) x12_6 p121 q121
                               (try rw [← Nbq69.out] at hx121_0)
                               (try rw [← Nbq78.out] at hx121_0)
                               cases e121
                               replace p121 := eq_true p121
                               replace q121 := eq_true q121
                               have p125 : 0 ≤ (x11_5 : Int) := of_decide_eq_true qz4
                               have q125 : x11_5 < (x6_6.length : Int) := of_decide_eq_true qz4
                               obtain ⟨ad125, A125_0, c125_0, e125, hx125_0, hl125_0, hi125_0⟩ := at_L43 (Kd.S_reads' HO_6.out).2.2 x11_5 p125 q125
                               obtain rfl : ad119 = ad125 := (by injection e125)
                               obtain ⟨ce125, hce125, hMe125, hcc125⟩ := Kd.S_get HO_6.out [] x11_5 p125 qz354
                               obtain ⟨ve125_0, rfl, ge125_0⟩ := hMe125
                               have hv125_0 := hcc125 0 _ rfl
                               rw [Nat.add_zero, show ((Kd.slice 4 Kd.bool)).sz = 1 from rfl, Nat.mul_one] at hv125_0
                               replace hv125_0 := Option.some.inj (hv125_0.symm.trans hx125_0)
                               rw [hv125_0] at ge125_0
                               have HL125_0 := Aside0.mk (show Kd.R Kd.bool 4 _ _ _ _ (rd_L43 x6_6 x11_5) from ge125_0)
                               clear hv125_0 ge125_0
                               have HX125_0 := Aside0.mk hx125_0
                               clear hcc125 hce125
                               have HR125_0 := Aside0.mk hi125_0
                               have HC125_0 := Aside0.mk hl125_0
                               clear hi125_0 hl125_0
                               replace p125 := eq_true p125
                               replace q125 := eq_true q125
                               have ea_ := Option.some.inj (hx119_0.symm.trans hx125_0)
                               injection ea_ with ea_ en_ ec_
                               subst ea_
                               subst ec_
                               clear en_
                               have p126 : 0 ≤ (x10_4 : Int) := of_decide_eq_true qz4
                               have q126 : x10_4 < ((rd_L43 x6_6 x11_5).length : Int) := of_decide_eq_true qz4
                               obtain ⟨ad126, e126, hx126_0⟩ := Kd.at_bool (qz351 HR125_0.out) x10_4 p126 q126
                               (try rw [← Nbq69.out] at hx126_0)
                               (try rw [← Nbq78.out] at hx126_0)
                               cases e126
                               replace p126 := eq_true p126
                               replace q126 := eq_true q126
                               have p127 : 0 ≤ (x10_4 : Int) := of_decide_eq_true qz4
                               have q127 : x10_4 < (x6_6.length : Int) := of_decide_eq_true qz4
                               obtain ⟨ad127, A127_0, c127_0, e127, hx127_0, hl127_0, hi127_0⟩ := at_L43 (Kd.S_reads' HO_6.out).2.2 x10_4 p127 q127
                               obtain rfl : ad119 = ad127 := (by injection e127)
                               obtain ⟨ce127, hce127, hMe127, hcc127⟩ := Kd.S_get HO_6.out [] x10_4 p127 (by first | exact q127 | exact of_decide_eq_true qz4 | (have e_ := (Kd.S_reads' HO_6.out).1; omega))
                               obtain ⟨ve127_0, rfl, ge127_0⟩ := hMe127
                               have hv127_0 := hcc127 0 _ rfl
                               rw [Nat.add_zero, show ((Kd.slice 4 Kd.bool)).sz = 1 from rfl, Nat.mul_one] at hv127_0
                               replace hv127_0 := Option.some.inj (hv127_0.symm.trans hx127_0)
                               rw [hv127_0] at ge127_0
                               have HL127_0 := Aside0.mk (show Kd.R Kd.bool 4 _ _ _ _ (rd_L43 x6_6 x10_4) from ge127_0)
                               clear hv127_0 ge127_0
                               have HX127_0 := Aside0.mk hx127_0
                               clear hcc127 hce127
                               have HR127_0 := Aside0.mk hi127_0
                               have HC127_0 := Aside0.mk hl127_0
                               clear hi127_0 hl127_0
                               replace p127 := eq_true p127
                               replace q127 := eq_true q127
                               have p128 : 0 ≤ (x12_6 : Int) := of_decide_eq_true qz4
                               have q128 : x12_6 < ((rd_L43 x6_6 x10_4).length : Int) := of_decide_eq_true qz4
                               obtain ⟨ad128, e128, hx128_0⟩ := Kd.at_bool (qz351 HR127_0.out) x12_6 p128 q128
                               (try rw [← Nbq69.out] at hx128_0)
                               (try rw [← Nbq78.out] at hx128_0)
                               cases e128
                               replace p128 := eq_true p128
                               replace q128 := eq_true q128
                               have p82 : 0 ≤ (x12_6 : Int) := of_decide_eq_true qz4
                               have q82 : (x12_6 : Int) < (((rd_L43 x6_6 x11_5).length : Int) : Int) := of_decide_eq_true qz4
                               obtain ⟨go82, co82, eo82, gb82, gl82, cl82, HG82⟩ := Kd.R_form HL119_0.out (by omega)
                               (first | cases eo82 | (injection eo82 with ea_ en_ ec_; (first | subst ea_ | (injection ea_ with ea_; subst ea_)); subst ec_; clear en_))
                               have GB82 := Aside0.mk gb82
                               have GG82 := Aside0.mk HG82
                               clear gb82 gl82 HG82
                               (first | simp only [add_plain] at hx126_0 | skip)
                               (first | simp only [add_plain] at hx121_0 | skip)
                               (first | simp only [add_plain] at hx128_0 | skip)
                               obtain ⟨hx82_0, hf82_0⟩ := Kd.R_celln false HL119_0.out (x12_6 : Int) p82 q82
                               replace p82 := eq_true p82
                               replace q82 := eq_true q82
                               have hq85 : (x11_5 : Int) < (x6_6.length : Int) := qz352
                               obtain ⟨oki85, ce85, hcl85, hM85, hcc85, hok85, hbk85⟩ := Kd.S_borrow HO_6.out [] (x11_5 : Int) (of_decide_eq_true qz4) hq85
                               obtain ⟨ve85_0, rfl, ge85_0⟩ := hM85
                               have hv85 := hcc85 0 _ rfl
                               rw [Nat.add_zero, show ((Kd.slice 4 Kd.bool)).sz = 1 from rfl, Nat.mul_one] at hv85
                               replace hv85 := Option.some.inj (hv85.symm.trans HX119_0.out)
                               subst hv85
                               clear hcc85 hcl85
                               replace ge85_0 := (show Kd.R Kd.bool 4 _ _ _ _ (rd_L43 x6_6 x11_5) from ge85_0)
                               have HP85 := Kd.R_putg ge85_0 (x12_6 : Int) (rdOf false (rd_L43 x6_6 x10_4) x12_6)
                               rw [← Ny129.out] at HP85
                               have HS85 := hbk85 HP85.2 (fun k_ e_ => by injection e_ with e_; subst e_; exact ge85_0.1 _ rfl) (x' := y129) (Kd.M_row HP85.1)
                               rw [← Ny131.out] at HS85
                               have HQ85 := Aside0.mk HS85
                               clear HP85 HS85 hbk85 hok85
                               refine start_ (n := 32) (S := fun w' => w'.cell? _ = some _ ∧ w'.cell? _ = some _ ∧ w'.cell? _ = some _ ∧ w'.cell? _ = some _ ∧ w'.cell? _ = some _ ∧ w'.cell? _ = some _ ∧ w'.cell? _ = some _) (ds := [31]) #[false, false, false, false, false, false, false, false, false, false, false, false, false, false, false, false, false, false, false, false, false, false, false, false, false, false, false, false, false, false, false, false] (by kernel_rfl) rfl rfl ⟨hx119_0, hx120_0, hx121_0, hx125_0, hx126_0, hx127_0, hx128_0⟩ (fun hHeld => ?_); refine with_tabW spec_LatOf.tab25 spec_LatOf.bits25 (fun HT_ HW_ => ?_)
                               generalize wr.drew = w83 at HO_6 BK101 HB GG82 HL119_0 HL120_0 HL125_0 HL127_0 HQ85 HR119_0 HR120_0 HR125_0 HR127_0 HX119_0 HX120_0 HX125_0 HX127_0 hf82_0 hx119_0 hx120_0 hx121_0 hx125_0 hx126_0 hx127_0 hx128_0 hx82_0 hHeld ⊢
                               refine pure_ (i := 0) (N := some 101) (v := ?_) (a' := ?_) #[true, false, false, false, false, false, false, false, false, false, false, false, false, false, false, false, false, false, false, false, false, false, false, false, false, false, false, false, false, false, false, false] rfl rfl (any_of HT_.out (by kernel_rfl)) (fun _ _ _ h => h) (Or.inl ⟨by rfl, ?_⟩) ?_ ?_
                               rotate_left
                               ·intro w'
                                go_simp
                                with_reducible rfl
                               rotate_left
                               ·simp only [Act.put, List.setIfInBounds_toArray, List.set_cons_zero, List.set_cons_succ, i64_w, i32_w]
                                rfl
                               refine pure_ (i := 1) (N := some 102) (v := ?_) (a' := ?_) #[true, true, false, false, false, false, false, false, false, false, false, false, false, false, false, false, false, false, false, false, false, false, false, false, false, false, false, false, false, false, false, false] rfl rfl (any_of HT_.out (by kernel_rfl)) (fun _ _ _ h => h) (Or.inl ⟨by rfl, ?_⟩) ?_ ?_
                               rotate_left
                               ·intro w'
                                go_simp
                                with_reducible rfl
                               rotate_left
                               ·simp only [Act.put, List.setIfInBounds_toArray, List.set_cons_zero, List.set_cons_succ, i64_w, i32_w]
                                rfl
                               refine pure_ (i := 2) (N := some 103) (v := ?_) (a' := ?_) #[true, true, true, false, false, false, false, false, false, false, false, false, false, false, false, false, false, false, false, false, false, false, false, false, false, false, false, false, false, false, false, false] rfl rfl (any_of HT_.out (by kernel_rfl)) (fun _ _ _ h => h) (Or.inl ⟨by rfl, ?_⟩) ?_ ?_
                               rotate_left
                               ·intro w'
                                go_simp
                                with_reducible rfl
                               rotate_left
                               ·simp only [Act.put, List.setIfInBounds_toArray, List.set_cons_zero, List.set_cons_succ, i64_w, i32_w]
                                rfl
                               refine pure_ (i := 4) (N := some 105) (v := ?_) (a' := ?_) #[true, true, true, false, true, false, false, false, false, false, false, false, false, false, false, false, false, false, false, false, false, false, false, false, false, false, false, false, false, false, false, false] rfl rfl (any_of HT_.out (by kernel_rfl)) (fun _ _ _ h => h) (Or.inl ⟨by rfl, ?_⟩) ?_ ?_
                               rotate_left
                               ·intro w'
                                go_simp
                                with_reducible rfl
                               rotate_left
                               ·simp only [Act.put, List.setIfInBounds_toArray, List.set_cons_zero, List.set_cons_succ, i64_w, i32_w]
                                rfl
                               refine pure_ (i := 5) (N := some 106) (v := ?_) (a' := ?_) #[true, true, true, false, true, true, false, false, false, false, false, false, false, false, false, false, false, false, false, false, false, false, false, false, false, false, false, false, false, false, false, false] rfl rfl (any_of HT_.out (by kernel_rfl)) (fun _ _ _ h => h) (Or.inl ⟨by rfl, ?_⟩) ?_ ?_
                               rotate_left
                               ·intro w'
                                go_simp
                                with_reducible rfl
                               rotate_left
                               ·simp only [Act.put, List.setIfInBounds_toArray, List.set_cons_zero, List.set_cons_succ, i64_w, i32_w]
                                rfl
                               refine pure_ (i := 6) (N := some 107) (v := ?_) (a' := ?_) #[true, true, true, false, true, true, true, false, false, false, false, false, false, false, false, false, false, false, false, false, false, false, false, false, false, false, false, false, false, false, false, false] rfl rfl (any_of HT_.out (by kernel_rfl)) (fun _ _ _ h => h) (Or.inl ⟨by rfl, ?_⟩) ?_ ?_
                               rotate_left
                               ·intro w'
                                go_simp
                                with_reducible rfl
                               rotate_left
                               ·simp only [Act.put, List.setIfInBounds_toArray, List.set_cons_zero, List.set_cons_succ, i64_w, i32_w]
                                rfl
                               refine pure_ (i := 7) (N := some 108) (v := ?_) (a' := ?_) #[true, true, true, false, true, true, true, true, false, false, false, false, false, false, false, false, false, false, false, false, false, false, false, false, false, false, false, false, false, false, false, false] rfl rfl (any_of HT_.out (by kernel_rfl)) (fun _ _ _ h => h) (Or.inl ⟨by rfl, ?_⟩) ?_ ?_
                               rotate_left
                               ·intro w'
                                go_simp
                                with_reducible rfl
                               rotate_left
                               ·simp only [Act.put, List.setIfInBounds_toArray, List.set_cons_zero, List.set_cons_succ, i64_w, i32_w]
                                rfl
                               refine pure_ (i := 9) (N := some 110) (v := ?_) (a' := ?_) #[true, true, true, false, true, true, true, true, false, true, false, false, false, false, false, false, false, false, false, false, false, false, false, false, false, false, false, false, false, false, false, false] rfl rfl (any_of HT_.out (by kernel_rfl)) (fun _ _ _ h => h) (Or.inl ⟨by rfl, ?_⟩) ?_ ?_
                               rotate_left
                               ·intro w'
                                go_simp
                                with_reducible rfl
                               rotate_left
                               ·simp only [Act.put, List.setIfInBounds_toArray, List.set_cons_zero, List.set_cons_succ, i64_w, i32_w]
                                rfl
                               refine take_ (i := 3) (N := some 104) (v := ?_) (a' := ?_) #[true, true, true, true, true, true, true, true, false, true, false, false, false, false, false, false, false, false, false, false, false, false, false, false, false, false, false, false, false, false, false, false] rfl rfl (take_ofW HT_.out HW_.out (by kernel_rfl)) (fun _ _ _ h => h) (Or.inl ⟨by rfl, ?_⟩) hHeld ?_ ?_
                               rotate_left
                               ·rintro w' ⟨s0, s1, s2, s3, s4, s5, s6⟩
                                go_simp
                                with_reducible rfl
                               rotate_left
                               ·simp only [Act.put, List.setIfInBounds_toArray, List.set_cons_zero, List.set_cons_succ, i64_w, i32_w]
                                rfl
                               refine take_ (i := 8) (N := some 109) (v := ?_) (a' := ?_) #[true, true, true, true, true, true, true, true, true, true, false, false, false, false, false, false, false, false, false, false, false, false, false, false, false, false, false, false, false, false, false, false] rfl rfl (take_ofW HT_.out HW_.out (by kernel_rfl)) (fun _ _ _ h => h) (Or.inl ⟨by rfl, ?_⟩) hHeld ?_ ?_
                               rotate_left
                               ·rintro w' ⟨s0, s1, s2, s3, s4, s5, s6⟩
                                go_simp
                                with_reducible rfl
                               rotate_left
                               ·simp only [Act.put, List.setIfInBounds_toArray, List.set_cons_zero, List.set_cons_succ, i64_w, i32_w]
                                rfl
                               refine pure_ (i := 10) (N := some 111) (v := ?_) (a' := ?_) #[true, true, true, true, true, true, true, true, true, true, true, false, false, false, false, false, false, false, false, false, false, false, false, false, false, false, false, false, false, false, false, false] rfl rfl (any_of HT_.out (by kernel_rfl)) (fun _ _ _ h => h) (Or.inl ⟨by rfl, ?_⟩) ?_ ?_
                               rotate_left
                               ·intro w'
                                go_simp
                                with_reducible rfl
                               rotate_left
                               ·simp only [Act.put, List.setIfInBounds_toArray, List.set_cons_zero, List.set_cons_succ, i64_w, i32_w]
                                rfl
                               refine take_ (i := 11) (N := some 112) (v := ?_) (a' := ?_) #[true, true, true, true, true, true, true, true, true, true, true, true, false, false, false, false, false, false, false, false, false, false, false, false, false, false, false, false, false, false, false, false] rfl rfl (take_ofW HT_.out HW_.out (by kernel_rfl)) (fun _ _ _ h => h) (Or.inl ⟨by rfl, ?_⟩) hHeld ?_ ?_
                               rotate_left
                               ·rintro w' ⟨s0, s1, s2, s3, s4, s5, s6⟩
                                go_simp
                                with_reducible rfl
                               rotate_left
                               ·simp only [Act.put, List.setIfInBounds_toArray, List.set_cons_zero, List.set_cons_succ, i64_w, i32_w]
                                rfl
                               refine pure_ (i := 12) (N := some 113) (v := ?_) (a' := ?_) #[true, true, true, true, true, true, true, true, true, true, true, true, true, false, false, false, false, false, false, false, false, false, false, false, false, false, false, false, false, false, false, false] rfl rfl (any_of HT_.out (by kernel_rfl)) (fun _ _ _ h => h) (Or.inl ⟨by rfl, ?_⟩) ?_ ?_
                               rotate_left
                               ·intro w'
                                go_simp
                                with_reducible rfl
                               rotate_left
                               ·simp only [Act.put, List.setIfInBounds_toArray, List.set_cons_zero, List.set_cons_succ, i64_w, i32_w]
                                rfl
                               refine pure_ (i := 13) (N := some 114) (v := ?_) (a' := ?_) #[true, true, true, true, true, true, true, true, true, true, true, true, true, true, false, false, false, false, false, false, false, false, false, false, false, false, false, false, false, false, false, false] rfl rfl (any_of HT_.out (by kernel_rfl)) (fun _ _ _ h => h) (Or.inl ⟨by rfl, ?_⟩) ?_ ?_
                               rotate_left
                               ·intro w'
                                go_simp
                                with_reducible rfl
                               rotate_left
                               ·simp only [Act.put, List.setIfInBounds_toArray, List.set_cons_zero, List.set_cons_succ, i64_w, i32_w]
                                rfl
                               refine pure_ (i := 14) (N := some 115) (v := ?_) (a' := ?_) #[true, true, true, true, true, true, true, true, true, true, true, true, true, true, true, false, false, false, false, false, false, false, false, false, false, false, false, false, false, false, false, false] rfl rfl (any_of HT_.out (by kernel_rfl)) (fun _ _ _ h => h) (Or.inl ⟨by rfl, ?_⟩) ?_ ?_
                               rotate_left
                               ·intro w'
                                go_simp
                                with_reducible rfl
                               rotate_left
                               ·simp only [Act.put, List.setIfInBounds_toArray, List.set_cons_zero, List.set_cons_succ, i64_w, i32_w]
                                rfl
                               refine pure_ (i := 15) (N := some 116) (v := ?_) (a' := ?_) #[true, true, true, true, true, true, true, true, true, true, true, true, true, true, true, true, false, false, false, false, false, false, false, false, false, false, false, false, false, false, false, false] rfl rfl (any_of HT_.out (by kernel_rfl)) (fun _ _ _ h => h) (Or.inl ⟨by rfl, ?_⟩) ?_ ?_
                               rotate_left
                               ·intro w'
                                go_simp
                                with_reducible rfl
                               rotate_left
                               ·simp only [Act.put, List.setIfInBounds_toArray, List.set_cons_zero, List.set_cons_succ, i64_w, i32_w]
                                rfl
                               refine pure_ (i := 17) (N := some 118) (v := ?_) (a' := ?_) #[true, true, true, true, true, true, true, true, true, true, true, true, true, true, true, true, false, true, false, false, false, false, false, false, false, false, false, false, false, false, false, false] rfl rfl (any_of HT_.out (by kernel_rfl)) (fun _ _ _ h => h) (Or.inl ⟨by rfl, ?_⟩) ?_ ?_
                               rotate_left
                               ·intro w'
                                go_simp
                                with_reducible rfl
                               rotate_left
                               ·simp only [Act.put, List.setIfInBounds_toArray, List.set_cons_zero, List.set_cons_succ, i64_w, i32_w]
                                rfl
                               refine take_ (i := 16) (N := some 117) (v := ?_) (a' := ?_) #[true, true, true, true, true, true, true, true, true, true, true, true, true, true, true, true, true, true, false, false, false, false, false, false, false, false, false, false, false, false, false, false] rfl rfl (take_ofW HT_.out HW_.out (by kernel_rfl)) (fun _ _ _ h => h) (Or.inl ⟨by rfl, ?_⟩) hHeld ?_ ?_
                               rotate_left
                               ·rintro w' ⟨s0, s1, s2, s3, s4, s5, s6⟩
                                go_simp
                                with_reducible rfl
                               rotate_left
                               ·simp only [Act.put, List.setIfInBounds_toArray, List.set_cons_zero, List.set_cons_succ, i64_w, i32_w]
                                rfl
                               refine pure_ (i := 18) (N := some 119) (v := ?_) (a' := ?_) #[true, true, true, true, true, true, true, true, true, true, true, true, true, true, true, true, true, true, true, false, false, false, false, false, false, false, false, false, false, false, false, false] rfl rfl (any_of HT_.out (by kernel_rfl)) (fun _ _ _ h => h) (Or.inl ⟨by rfl, ?_⟩) ?_ ?_
                               rotate_left
                               ·intro w'
                                go_simp
                                with_reducible rfl
                               rotate_left
                               ·simp only [Act.put, List.setIfInBounds_toArray, List.set_cons_zero, List.set_cons_succ, i64_w, i32_w]
                                rfl
                               refine take_ (i := 19) (N := some 120) (v := ?_) (a' := ?_) #[true, true, true, true, true, true, true, true, true, true, true, true, true, true, true, true, true, true, true, true, false, false, false, false, false, false, false, false, false, false, false, false] rfl rfl (take_ofW HT_.out HW_.out (by kernel_rfl)) (fun _ _ _ h => h) (Or.inl ⟨by rfl, ?_⟩) hHeld ?_ ?_
                               rotate_left
                               ·rintro w' ⟨s0, s1, s2, s3, s4, s5, s6⟩
                                go_simp
                                with_reducible rfl
                               rotate_left
                               ·simp only [Act.put, List.setIfInBounds_toArray, List.set_cons_zero, List.set_cons_succ, i64_w, i32_w]
                                rfl
                               refine pure_ (i := 20) (N := some 121) (v := ?_) (a' := ?_) #[true, true, true, true, true, true, true, true, true, true, true, true, true, true, true, true, true, true, true, true, true, false, false, false, false, false, false, false, false, false, false, false] rfl rfl (any_of HT_.out (by kernel_rfl)) (fun _ _ _ h => h) (Or.inl ⟨by rfl, ?_⟩) ?_ ?_
                               rotate_left
                               ·intro w'
                                go_simp
                                with_reducible rfl
                               rotate_left
                               ·simp only [Act.put, List.setIfInBounds_toArray, List.set_cons_zero, List.set_cons_succ, i64_w, i32_w]
                                rfl
                               refine pure_ (i := 21) (N := some 122) (v := ?_) (a' := ?_) #[true, true, true, true, true, true, true, true, true, true, true, true, true, true, true, true, true, true, true, true, true, true, false, false, false, false, false, false, false, false, false, false] rfl rfl (any_of HT_.out (by kernel_rfl)) (fun _ _ _ h => h) (Or.inl ⟨by rfl, ?_⟩) ?_ ?_
                               rotate_left
                               ·intro w'
                                go_simp
                                with_reducible rfl
                               rotate_left
                               ·simp only [Act.put, List.setIfInBounds_toArray, List.set_cons_zero, List.set_cons_succ, i64_w, i32_w]
                                rfl
                               refine pure_ (i := 22) (N := some 123) (v := ?_) (a' := ?_) #[true, true, true, true, true, true, true, true, true, true, true, true, true, true, true, true, true, true, true, true, true, true, true, false, false, false, false, false, false, false, false, false] rfl rfl (any_of HT_.out (by kernel_rfl)) (fun _ _ _ h => h) (Or.inl ⟨by rfl, ?_⟩) ?_ ?_
                               rotate_left
                               ·intro w'
                                go_simp
                                with_reducible rfl
                               rotate_left
                               ·simp only [Act.put, List.setIfInBounds_toArray, List.set_cons_zero, List.set_cons_succ, i64_w, i32_w]
                                rfl
                               refine pure_ (i := 23) (N := some 124) (v := ?_) (a' := ?_) #[true, true, true, true, true, true, true, true, true, true, true, true, true, true, true, true, true, true, true, true, true, true, true, true, false, false, false, false, false, false, false, false] rfl rfl (any_of HT_.out (by kernel_rfl)) (fun _ _ _ h => h) (Or.inl ⟨by rfl, ?_⟩) ?_ ?_
                               rotate_left
                               ·intro w'
                                go_simp
                                with_reducible rfl
                               rotate_left
                               ·simp only [Act.put, List.setIfInBounds_toArray, List.set_cons_zero, List.set_cons_succ, i64_w, i32_w]
                                rfl
                               refine pure_ (i := 25) (N := some 126) (v := ?_) (a' := ?_) #[true, true, true, true, true, true, true, true, true, true, true, true, true, true, true, true, true, true, true, true, true, true, true, true, false, true, false, false, false, false, false, false] rfl rfl (any_of HT_.out (by kernel_rfl)) (fun _ _ _ h => h) (Or.inl ⟨by rfl, ?_⟩) ?_ ?_
                               rotate_left
                               ·intro w'
                                go_simp
                                with_reducible rfl
                               rotate_left
                               ·simp only [Act.put, List.setIfInBounds_toArray, List.set_cons_zero, List.set_cons_succ, i64_w, i32_w]
                                rfl
                               refine take_ (i := 24) (N := some 125) (v := ?_) (a' := ?_) #[true, true, true, true, true, true, true, true, true, true, true, true, true, true, true, true, true, true, true, true, true, true, true, true, true, true, false, false, false, false, false, false] rfl rfl (take_ofW HT_.out HW_.out (by kernel_rfl)) (fun _ _ _ h => h) (Or.inl ⟨by rfl, ?_⟩) hHeld ?_ ?_
                               rotate_left
                               ·rintro w' ⟨s0, s1, s2, s3, s4, s5, s6⟩
                                go_simp
                                with_reducible rfl
                               rotate_left
                               ·simp only [Act.put, List.setIfInBounds_toArray, List.set_cons_zero, List.set_cons_succ, i64_w, i32_w]
                                rfl
                               refine pure_ (i := 26) (N := some 127) (v := ?_) (a' := ?_) #[true, true, true, true, true, true, true, true, true, true, true, true, true, true, true, true, true, true, true, true, true, true, true, true, true, true, true, false, false, false, false, false] rfl rfl (any_of HT_.out (by kernel_rfl)) (fun _ _ _ h => h) (Or.inl ⟨by rfl, ?_⟩) ?_ ?_
                               rotate_left
                               ·intro w'
                                go_simp
                                with_reducible rfl
                               rotate_left
                               ·simp only [Act.put, List.setIfInBounds_toArray, List.set_cons_zero, List.set_cons_succ, i64_w, i32_w]
                                rfl
                               refine take_ (i := 27) (N := some 128) (v := ?_) (a' := ?_) #[true, true, true, true, true, true, true, true, true, true, true, true, true, true, true, true, true, true, true, true, true, true, true, true, true, true, true, true, false, false, false, false] rfl rfl (take_ofW HT_.out HW_.out (by kernel_rfl)) (fun _ _ _ h => h) (Or.inl ⟨by rfl, ?_⟩) hHeld ?_ ?_
                               rotate_left
                               ·rintro w' ⟨s0, s1, s2, s3, s4, s5, s6⟩
                                go_simp
                                with_reducible rfl
                               rotate_left
                               ·simp only [Act.put, List.setIfInBounds_toArray, List.set_cons_zero, List.set_cons_succ, i64_w, i32_w]
                                rfl
                               refine pure_ (i := 28) (N := some 129) (v := ?_) (a' := ?_) #[true, true, true, true, true, true, true, true, true, true, true, true, true, true, true, true, true, true, true, true, true, true, true, true, true, true, true, true, true, false, false, false] rfl rfl (any_of HT_.out (by kernel_rfl)) (fun _ _ _ h => h) (Or.inl ⟨by rfl, ?_⟩) ?_ ?_
                               rotate_left
                               ·intro w'
                                go_simp
                                with_reducible rfl
                               rotate_left
                               ·simp only [Act.put, List.setIfInBounds_toArray, List.set_cons_zero, List.set_cons_succ, i64_w, i32_w]
                                rfl
                               refine pure_ (i := 29) (N := some 130) (v := ?_) (a' := ?_) #[true, true, true, true, true, true, true, true, true, true, true, true, true, true, true, true, true, true, true, true, true, true, true, true, true, true, true, true, true, true, false, false] rfl rfl (any_of HT_.out (by kernel_rfl)) (fun _ _ _ h => h) (Or.inl ⟨by rfl, ?_⟩) ?_ ?_
                               rotate_left
                               ·intro w'
                                go_simp
                                with_reducible rfl
                               rotate_left
                               ·simp only [Act.put, List.setIfInBounds_toArray, List.set_cons_zero, List.set_cons_succ, i64_w, i32_w]
                                rfl
                               refine pure_ (i := 30) (N := some 131) (v := ?_) (a' := ?_) #[true, true, true, true, true, true, true, true, true, true, true, true, true, true, true, true, true, true, true, true, true, true, true, true, true, true, true, true, true, true, true, false] rfl rfl (any_of HT_.out (by kernel_rfl)) (fun _ _ _ h => h) (Or.inl ⟨by rfl, ?_⟩) ?_ ?_
                               rotate_left
                               ·intro w'
                                go_simp
                                with_reducible rfl
                               rotate_left
                               ·simp only [Act.put, List.setIfInBounds_toArray, List.set_cons_zero, List.set_cons_succ, i64_w, i32_w]
                                rfl
                               refine last_ (i := 31) (N := none) #[true, true, true, true, true, true, true, true, true, true, true, true, true, true, true, true, true, true, true, true, true, true, true, true, true, true, true, true, true, true, true, true] rfl rfl (one_of HT_.out (by kernel_rfl)) (by decide) (fun K hK => ?_)
                               refine skip_ (w1 := ?_) (by rfl) rfl ?_ ?_
                               rotate_left
                               ·go_simp
                                rfl
                               refine hK.out _ _ ?_
                               clear hK K
                               refine done_ (done_of HT_.out (by kernel_rfl)) ?_
                               try go_wp2
                               go_roundg k6
                               case measure => have := HJ2.out; have := HK2.out; have := HK3.out; have := HK4.out; have := HK5.out; have := HK6.out; omega
                               case rel => exact ⟨(y131), (wrap64 (x12_6 + 1)), qz2, H', ⟨qz353⟩, ⟨qz257 HQ85.out⟩, ⟨qz193 HL119_0.out BK101.out⟩, ⟨qz43 GB82.out GE101.out⟩⟩
                              ·rw [if_neg c81] at H
                               exact absurd H (by simp)
                             ·rw [if_neg c80] at H
                              exact absurd H (by simp)
                            ·replace c79 := Bool.eq_false_iff.mpr c79
                             subst c79
                             have H1 : (spec_LatOf.l4 k6 a0 (x6_6.set (x11_5 : Int).toNat ((rd_L43 x6_6 x11_5).set (x12_6 : Int).toNat false)) x10_4 x11_5 (wrap64 (x12_6 + 1))) = some (r1, r2, r3) := by rw [if_neg (show ¬ (false = true) by decide)] at H; exact H
                             clear H
                             have H := H1
                             clear H1
                             obtain ⟨y132, hy132⟩ : ∃ y_ : List Bool, y_ = ((rd_L43 x6_6 x11_5).set (x12_6 : Int).toNat false) := ⟨_, rfl⟩
                             replace H : (spec_LatOf.l4 k6 a0 (x6_6.set (x11_5 : Int).toNat y132) x10_4 x11_5 (wrap64 (x12_6 + 1))) = some (r1, r2, r3) := by first | (rw [hy132]; with_reducible exact H) | (have H2_ := (Option.bind_some _ _).symm.trans H; rw [hy132]; with_reducible exact H2_) | (have H2_ := (Option.bind_some _ _).symm.trans H; with_reducible exact H2_) | with_reducible exact H | (rw [hy132]; exact H) | exact H
                             have Ny132 := Aside0.mk hy132
                             clear hy132
                             obtain ⟨y134, hy134⟩ : ∃ y_ : List (List Bool), y_ = (x6_6.set (x11_5 : Int).toNat y132) := ⟨_, rfl⟩
                             replace H : (spec_LatOf.l4 k6 a0 y134 x10_4 x11_5 (wrap64 (x12_6 + 1))) = some (r1, r2, r3) := by first | (rw [hy134]; with_reducible exact H) | (have H2_ := (Option.bind_some _ _).symm.trans H; rw [hy134]; with_reducible exact H2_) | (have H2_ := (Option.bind_some _ _).symm.trans H; with_reducible exact H2_) | with_reducible exact H | (rw [hy134]; exact H) | exact H
                             have Ny134 := Aside0.mk hy134
                             clear hy134
                             have H' := Aside0.mk H
                             clear H
                             try go_wp2
                             have n0_ := Aside0.mk (Kd.S_drew HO_6.out)
                             have n1_ := Aside0.mk (blk_drew BK101.out)
                             have n2_ := Aside0.mk (below_drew1 HB.out)
                             clear HO_6
                             clear BK101
                             clear HB
                             have HO_6 := n0_
                             have BK101 := n1_
                             have HB := n2_
                             clear n0_ n1_ n2_
                             obtain ⟨Ao89, co89, eo89⟩ := Kd.S_slice HO_6.out
                             (first | subst eo89 | (injection eo89 with f1_ f2_ f3_; have f4_ := f1_.symm; have f5_ := f3_.symm; clear f1_ f2_ f3_; subst f4_; subst f5_))
                             have p119 : 0 ≤ (x11_5 : Int) := of_decide_eq_true qz4
                             have q119 : x11_5 < (x6_6.length : Int) := of_decide_eq_true qz4
                             obtain ⟨ad119, A119_0, c119_0, e119, hx119_0, hl119_0, hi119_0⟩ := at_L43 (Kd.S_reads' HO_6.out).2.2 x11_5 p119 q119
                             cases e119
                             obtain ⟨ce119, hce119, hMe119, hcc119⟩ := Kd.S_get HO_6.out [] x11_5 p119 qz349
                             obtain ⟨ve119_0, rfl, ge119_0⟩ := hMe119
                             have hv119_0 := hcc119 0 _ rfl
                             rw [Nat.add_zero, show ((Kd.slice 4 Kd.bool)).sz = 1 from rfl, Nat.mul_one] at hv119_0
                             replace hv119_0 := Option.some.inj (hv119_0.symm.trans hx119_0)
                             rw [hv119_0] at ge119_0
                             have HL119_0 := Aside0.mk (show Kd.R Kd.bool 4 _ _ _ _ (rd_L43 x6_6 x11_5) from ge119_0)
                             clear hv119_0 ge119_0
                             have HX119_0 := Aside0.mk hx119_0
                             clear hcc119 hce119
                             have HR119_0 := Aside0.mk hi119_0
                             have HC119_0 := Aside0.mk hl119_0
                             clear hi119_0 hl119_0
                             replace p119 := eq_true p119
                             replace q119 := eq_true q119
                             have p120 : 0 ≤ (x11_5 : Int) := of_decide_eq_true qz4
                             have q120 : x11_5 < (x6_6.length : Int) := of_decide_eq_true qz4
                             obtain ⟨ad120, A120_0, c120_0, e120, hx120_0, hl120_0, hi120_0⟩ := at_L43 (Kd.S_reads' HO_6.out).2.2 x11_5 p120 q120
                             obtain rfl : ad119 = ad120 := (by injection e120)
                             obtain ⟨ce120, hce120, hMe120, hcc120⟩ := Kd.S_get HO_6.out [] x11_5 p120 qz350
                             obtain ⟨ve120_0, rfl, ge120_0⟩ := hMe120
                             have hv120_0 := hcc120 0 _ rfl
                             rw [Nat.add_zero, show ((Kd.slice 4 Kd.bool)).sz = 1 from rfl, Nat.mul_one] at hv120_0
                             replace hv120_0 := Option.some.inj (hv120_0.symm.trans hx120_0)
                             rw [hv120_0] at ge120_0
                             have HL120_0 := Aside0.mk (show Kd.R Kd.bool 4 _ _ _ _ (rd_L43 x6_6 x11_5) from ge120_0)
                             clear hv120_0 ge120_0
                             have HX120_0 := Aside0.mk hx120_0
                             clear hcc120 hce120
                             have HR120_0 := Aside0.mk hi120_0
                             have HC120_0 := Aside0.mk hl120_0
                             clear hi120_0 hl120_0
                             replace p120 := eq_true p120
                             replace q120 := eq_true q120
                             have ea_ := Option.some.inj (hx119_0.symm.trans hx120_0)
                             injection ea_ with ea_ en_ ec_
                             subst ea_
                             subst ec_
                             clear en_
                             have p121 : 0 ≤ (x12_6 : Int) := of_decide_eq_true qz4
                             have q121 : x12_6 < ((rd_L43 x6_6 x11_5).length : Int) := of_decide_eq_true qz4
                             obtain ⟨ad121, e121, hx121_0⟩ := Kd.at_bool (qz351 HR120_0.out) x12_6 p121 q121
                             (try rw [← Nbq69.out] at hx121_0)
                             (try rw [← Nbq78.out] at hx121_0)
                             cases e121
                             replace p121 := eq_true p121
                             replace q121 := eq_true q121
                             have p125 : 0 ≤ (x11_5 : Int) := of_decide_eq_true qz4
                             have q125 : x11_5 < (x6_6.length : Int) := of_decide_eq_true qz4
                             obtain ⟨ad125, A125_0, c125_0, e125, hx125_0, hl125_0, hi125_0⟩ := at_L43 (Kd.S_reads' HO_6.out).2.2 x11_5 p125 q125
                             obtain rfl : ad119 = ad125 := (by injection e125)
                             obtain ⟨ce125, hce125, hMe125, hcc125⟩ := Kd.S_get HO_6.out [] x11_5 p125 qz354
                             obtain ⟨ve125_0, rfl, ge125_0⟩ := hMe125
                             have hv125_0 := hcc125 0 _ rfl
                             rw [Nat.add_zero, show ((Kd.slice 4 Kd.bool)).sz = 1 from rfl, Nat.mul_one] at hv125_0
                             replace hv125_0 := Option.some.inj (hv125_0.symm.trans hx125_0)
                             rw [hv125_0] at ge125_0
                             have HL125_0 := Aside0.mk (show Kd.R Kd.bool 4 _ _ _ _ (rd_L43 x6_6 x11_5) from ge125_0)
                             clear hv125_0 ge125_0
                             have HX125_0 := Aside0.mk hx125_0
                             clear hcc125 hce125
                             have HR125_0 := Aside0.mk hi125_0
                             have HC125_0 := Aside0.mk hl125_0
                             clear hi125_0 hl125_0
                             replace p125 := eq_true p125
                             replace q125 := eq_true q125
                             have ea_ := Option.some.inj (hx119_0.symm.trans hx125_0)
                             injection ea_ with ea_ en_ ec_
                             subst ea_
                             subst ec_
                             clear en_
                             have p126 : 0 ≤ (x10_4 : Int) := of_decide_eq_true qz4
                             have q126 : x10_4 < ((rd_L43 x6_6 x11_5).length : Int) := of_decide_eq_true qz4
                             obtain ⟨ad126, e126, hx126_0⟩ := Kd.at_bool (qz351 HR125_0.out) x10_4 p126 q126
                             (try rw [← Nbq69.out] at hx126_0)
                             (try rw [← Nbq78.out] at hx126_0)
                             cases e126
                             replace p126 := eq_true p126
                             replace q126 := eq_true q126
                             have p87 : 0 ≤ (x12_6 : Int) := of_decide_eq_true qz4
                             have q87 : (x12_6 : Int) < (((rd_L43 x6_6 x11_5).length : Int) : Int) := of_decide_eq_true qz4
                             obtain ⟨go87, co87, eo87, gb87, gl87, cl87, HG87⟩ := Kd.R_form HL119_0.out (by omega)
                             (first | cases eo87 | (injection eo87 with ea_ en_ ec_; (first | subst ea_ | (injection ea_ with ea_; subst ea_)); subst ec_; clear en_))
                             have GB87 := Aside0.mk gb87
                             have GG87 := Aside0.mk HG87
                             clear gb87 gl87 HG87
                             (first | simp only [add_plain] at hx126_0 | skip)
                             (first | simp only [add_plain] at hx121_0 | skip)
                             obtain ⟨hx87_0, hf87_0⟩ := Kd.R_celln false HL119_0.out (x12_6 : Int) p87 q87
                             replace p87 := eq_true p87
                             replace q87 := eq_true q87
                             have hq90 : (x11_5 : Int) < (x6_6.length : Int) := qz352
                             obtain ⟨oki90, ce90, hcl90, hM90, hcc90, hok90, hbk90⟩ := Kd.S_borrow HO_6.out [] (x11_5 : Int) (of_decide_eq_true qz4) hq90
                             obtain ⟨ve90_0, rfl, ge90_0⟩ := hM90
                             have hv90 := hcc90 0 _ rfl
                             rw [Nat.add_zero, show ((Kd.slice 4 Kd.bool)).sz = 1 from rfl, Nat.mul_one] at hv90
                             replace hv90 := Option.some.inj (hv90.symm.trans HX119_0.out)
                             subst hv90
                             clear hcc90 hcl90
                             replace ge90_0 := (show Kd.R Kd.bool 4 _ _ _ _ (rd_L43 x6_6 x11_5) from ge90_0)
                             have HP90 := Kd.R_putg ge90_0 (x12_6 : Int) false
                             rw [← Ny132.out] at HP90
                             have HS90 := hbk90 HP90.2 (fun k_ e_ => by injection e_ with e_; subst e_; exact ge90_0.1 _ rfl) (x' := y132) (Kd.M_row HP90.1)
                             rw [← Ny134.out] at HS90
                             have HQ90 := Aside0.mk HS90
                             clear HP90 HS90 hbk90 hok90
                             refine start_ (n := 32) (S := fun w' => w'.cell? _ = some _ ∧ w'.cell? _ = some _ ∧ w'.cell? _ = some _ ∧ w'.cell? _ = some _ ∧ w'.cell? _ = some _) (ds := [31]) #[false, false, false, false, false, false, false, false, false, false, false, false, false, false, false, false, false, false, false, false, false, false, false, false, false, false, false, false, false, false, false, false] (by kernel_rfl) rfl rfl ⟨hx119_0, hx120_0, hx121_0, hx125_0, hx126_0⟩ (fun hHeld => ?_); refine with_tabW spec_LatOf.tab25 spec_LatOf.bits25 (fun HT_ HW_ => ?_)
                             generalize wr.drew = w88 at HO_6 BK101 HB GG87 HL119_0 HL120_0 HL125_0 HQ90 HR119_0 HR120_0 HR125_0 HX119_0 HX120_0 HX125_0 hf87_0 hx119_0 hx120_0 hx121_0 hx125_0 hx126_0 hx87_0 hHeld ⊢
                             refine pure_ (i := 0) (N := some 101) (v := ?_) (a' := ?_) #[true, false, false, false, false, false, false, false, false, false, false, false, false, false, false, false, false, false, false, false, false, false, false, false, false, false, false, false, false, false, false, false] rfl rfl (any_of HT_.out (by kernel_rfl)) (fun _ _ _ h => h) (Or.inl ⟨by rfl, ?_⟩) ?_ ?_
                             rotate_left
                             ·intro w'
                              go_simp
                              with_reducible rfl
                             rotate_left
                             ·simp only [Act.put, List.setIfInBounds_toArray, List.set_cons_zero, List.set_cons_succ, i64_w, i32_w]
                              rfl
                             refine pure_ (i := 1) (N := some 102) (v := ?_) (a' := ?_) #[true, true, false, false, false, false, false, false, false, false, false, false, false, false, false, false, false, false, false, false, false, false, false, false, false, false, false, false, false, false, false, false] rfl rfl (any_of HT_.out (by kernel_rfl)) (fun _ _ _ h => h) (Or.inl ⟨by rfl, ?_⟩) ?_ ?_
                             rotate_left
                             ·intro w'
                              go_simp
                              with_reducible rfl
                             rotate_left
                             ·simp only [Act.put, List.setIfInBounds_toArray, List.set_cons_zero, List.set_cons_succ, i64_w, i32_w]
                              rfl
                             refine pure_ (i := 2) (N := some 103) (v := ?_) (a' := ?_) #[true, true, true, false, false, false, false, false, false, false, false, false, false, false, false, false, false, false, false, false, false, false, false, false, false, false, false, false, false, false, false, false] rfl rfl (any_of HT_.out (by kernel_rfl)) (fun _ _ _ h => h) (Or.inl ⟨by rfl, ?_⟩) ?_ ?_
                             rotate_left
                             ·intro w'
                              go_simp
                              with_reducible rfl
                             rotate_left
                             ·simp only [Act.put, List.setIfInBounds_toArray, List.set_cons_zero, List.set_cons_succ, i64_w, i32_w]
                              rfl
                             refine pure_ (i := 4) (N := some 105) (v := ?_) (a' := ?_) #[true, true, true, false, true, false, false, false, false, false, false, false, false, false, false, false, false, false, false, false, false, false, false, false, false, false, false, false, false, false, false, false] rfl rfl (any_of HT_.out (by kernel_rfl)) (fun _ _ _ h => h) (Or.inl ⟨by rfl, ?_⟩) ?_ ?_
                             rotate_left
                             ·intro w'
                              go_simp
                              with_reducible rfl
                             rotate_left
                             ·simp only [Act.put, List.setIfInBounds_toArray, List.set_cons_zero, List.set_cons_succ, i64_w, i32_w]
                              rfl
                             refine pure_ (i := 5) (N := some 106) (v := ?_) (a' := ?_) #[true, true, true, false, true, true, false, false, false, false, false, false, false, false, false, false, false, false, false, false, false, false, false, false, false, false, false, false, false, false, false, false] rfl rfl (any_of HT_.out (by kernel_rfl)) (fun _ _ _ h => h) (Or.inl ⟨by rfl, ?_⟩) ?_ ?_
                             rotate_left
                             ·intro w'
                              go_simp
                              with_reducible rfl
                             rotate_left
                             ·simp only [Act.put, List.setIfInBounds_toArray, List.set_cons_zero, List.set_cons_succ, i64_w, i32_w]
                              rfl
                             refine pure_ (i := 6) (N := some 107) (v := ?_) (a' := ?_) #[true, true, true, false, true, true, true, false, false, false, false, false, false, false, false, false, false, false, false, false, false, false, false, false, false, false, false, false, false, false, false, false] rfl rfl (any_of HT_.out (by kernel_rfl)) (fun _ _ _ h => h) (Or.inl ⟨by rfl, ?_⟩) ?_ ?_
                             rotate_left
                             ·intro w'
                              go_simp
                              with_reducible rfl
                             rotate_left
                             ·simp only [Act.put, List.setIfInBounds_toArray, List.set_cons_zero, List.set_cons_succ, i64_w, i32_w]
                              rfl
                             refine pure_ (i := 7) (N := some 108) (v := ?_) (a' := ?_) #[true, true, true, false, true, true, true, true, false, false, false, false, false, false, false, false, false, false, false, false, false, false, false, false, false, false, false, false, false, false, false, false] rfl rfl (any_of HT_.out (by kernel_rfl)) (fun _ _ _ h => h) (Or.inl ⟨by rfl, ?_⟩) ?_ ?_
                             rotate_left
                             ·intro w'
                              go_simp
                              with_reducible rfl
                             rotate_left
                             ·simp only [Act.put, List.setIfInBounds_toArray, List.set_cons_zero, List.set_cons_succ, i64_w, i32_w]
                              rfl
                             refine pure_ (i := 9) (N := some 110) (v := ?_) (a' := ?_) #[true, true, true, false, true, true, true, true, false, true, false, false, false, false, false, false, false, false, false, false, false, false, false, false, false, false, false, false, false, false, false, false] rfl rfl (any_of HT_.out (by kernel_rfl)) (fun _ _ _ h => h) (Or.inl ⟨by rfl, ?_⟩) ?_ ?_
                             rotate_left
                             ·intro w'
                              go_simp
                              with_reducible rfl
                             rotate_left
                             ·simp only [Act.put, List.setIfInBounds_toArray, List.set_cons_zero, List.set_cons_succ, i64_w, i32_w]
                              rfl
                             refine take_ (i := 3) (N := some 104) (v := ?_) (a' := ?_) #[true, true, true, true, true, true, true, true, false, true, false, false, false, false, false, false, false, false, false, false, false, false, false, false, false, false, false, false, false, false, false, false] rfl rfl (take_ofW HT_.out HW_.out (by kernel_rfl)) (fun _ _ _ h => h) (Or.inl ⟨by rfl, ?_⟩) hHeld ?_ ?_
                             rotate_left
                             ·rintro w' ⟨s0, s1, s2, s3, s4⟩
                              go_simp
                              with_reducible rfl
                             rotate_left
                             ·simp only [Act.put, List.setIfInBounds_toArray, List.set_cons_zero, List.set_cons_succ, i64_w, i32_w]
                              rfl
                             refine take_ (i := 8) (N := some 109) (v := ?_) (a' := ?_) #[true, true, true, true, true, true, true, true, true, true, false, false, false, false, false, false, false, false, false, false, false, false, false, false, false, false, false, false, false, false, false, false] rfl rfl (take_ofW HT_.out HW_.out (by kernel_rfl)) (fun _ _ _ h => h) (Or.inl ⟨by rfl, ?_⟩) hHeld ?_ ?_
                             rotate_left
                             ·rintro w' ⟨s0, s1, s2, s3, s4⟩
                              go_simp
                              with_reducible rfl
                             rotate_left
                             ·simp only [Act.put, List.setIfInBounds_toArray, List.set_cons_zero, List.set_cons_succ, i64_w, i32_w]
                              rfl
                             refine pure_ (i := 10) (N := some 111) (v := ?_) (a' := ?_) #[true, true, true, true, true, true, true, true, true, true, true, false, false, false, false, false, false, false, false, false, false, false, false, false, false, false, false, false, false, false, false, false] rfl rfl (any_of HT_.out (by kernel_rfl)) (fun _ _ _ h => h) (Or.inl ⟨by rfl, ?_⟩) ?_ ?_
                             rotate_left
                             ·intro w'
                              go_simp
                              with_reducible rfl
                             rotate_left
                             ·simp only [Act.put, List.setIfInBounds_toArray, List.set_cons_zero, List.set_cons_succ, i64_w, i32_w]
                              rfl
                             refine take_ (i := 11) (N := some 112) (v := ?_) (a' := ?_) #[true, true, true, true, true, true, true, true, true, true, true, true, false, false, false, false, false, false, false, false, false, false, false, false, false, false, false, false, false, false, false, false] rfl rfl (take_ofW HT_.out HW_.out (by kernel_rfl)) (fun _ _ _ h => h) (Or.inl ⟨by rfl, ?_⟩) hHeld ?_ ?_
                             rotate_left
                             ·rintro w' ⟨s0, s1, s2, s3, s4⟩
                              go_simp
                              with_reducible rfl
                             rotate_left
                             ·simp only [Act.put, List.setIfInBounds_toArray, List.set_cons_zero, List.set_cons_succ, i64_w, i32_w]
                              rfl
                             refine pure_ (i := 12) (N := some 113) (v := ?_) (a' := ?_) #[true, true, true, true, true, true, true, true, true, true, true, true, true, false, false, false, false, false, false, false, false, false, false, false, false, false, false, false, false, false, false, false] rfl rfl (any_of HT_.out (by kernel_rfl)) (fun _ _ _ h => h) (Or.inl ⟨by rfl, ?_⟩) ?_ ?_
                             rotate_left
                             ·intro w'
                              go_simp
                              with_reducible rfl
                             rotate_left
                             ·simp only [Act.put, List.setIfInBounds_toArray, List.set_cons_zero, List.set_cons_succ, i64_w, i32_w]
                              rfl
                             refine pure_ (i := 13) (N := some 114) (v := ?_) (a' := ?_) #[true, true, true, true, true, true, true, true, true, true, true, true, true, true, false, false, false, false, false, false, false, false, false, false, false, false, false, false, false, false, false, false] rfl rfl (any_of HT_.out (by kernel_rfl)) (fun _ _ _ h => h) (Or.inl ⟨by rfl, ?_⟩) ?_ ?_
                             rotate_left
                             ·intro w'
                              go_simp
                              with_reducible rfl
                             rotate_left
                             ·simp only [Act.put, List.setIfInBounds_toArray, List.set_cons_zero, List.set_cons_succ, i64_w, i32_w]
                              rfl
                             refine pure_ (i := 14) (N := some 115) (v := ?_) (a' := ?_) #[true, true, true, true, true, true, true, true, true, true, true, true, true, true, true, false, false, false, false, false, false, false, false, false, false, false, false, false, false, false, false, false] rfl rfl (any_of HT_.out (by kernel_rfl)) (fun _ _ _ h => h) (Or.inl ⟨by rfl, ?_⟩) ?_ ?_
                             rotate_left
                             ·intro w'
                              go_simp
                              with_reducible rfl
                             rotate_left
                             ·simp only [Act.put, List.setIfInBounds_toArray, List.set_cons_zero, List.set_cons_succ, i64_w, i32_w]
                              rfl
                             refine pure_ (i := 15) (N := some 116) (v := ?_) (a' := ?_) #[true, true, true, true, true, true, true, true, true, true, true, true, true, true, true, true, false, false, false, false, false, false, false, false, false, false, false, false, false, false, false, false] rfl rfl (any_of HT_.out (by kernel_rfl)) (fun _ _ _ h => h) (Or.inl ⟨by rfl, ?_⟩) ?_ ?_
                             rotate_left
                             ·intro w'
                              go_simp
                              with_reducible rfl
                             rotate_left
                             ·simp only [Act.put, List.setIfInBounds_toArray, List.set_cons_zero, List.set_cons_succ, i64_w, i32_w]
                              rfl
                             refine pure_ (i := 17) (N := some 118) (v := ?_) (a' := ?_) #[true, true, true, true, true, true, true, true, true, true, true, true, true, true, true, true, false, true, false, false, false, false, false, false, false, false, false, false, false, false, false, false] rfl rfl (any_of HT_.out (by kernel_rfl)) (fun _ _ _ h => h) (Or.inl ⟨by rfl, ?_⟩) ?_ ?_
                             rotate_left
                             ·intro w'
                              go_simp
                              with_reducible rfl
                             rotate_left
                             ·simp only [Act.put, List.setIfInBounds_toArray, List.set_cons_zero, List.set_cons_succ, i64_w, i32_w]
                              rfl
                             refine take_ (i := 16) (N := some 117) (v := ?_) (a' := ?_) #[true, true, true, true, true, true, true, true, true, true, true, true, true, true, true, true, true, true, false, false, false, false, false, false, false, false, false, false, false, false, false, false] rfl rfl (take_ofW HT_.out HW_.out (by kernel_rfl)) (fun _ _ _ h => h) (Or.inl ⟨by rfl, ?_⟩) hHeld ?_ ?_
                             rotate_left
                             ·rintro w' ⟨s0, s1, s2, s3, s4⟩
                              go_simp
                              with_reducible rfl
                             rotate_left
                             ·simp only [Act.put, List.setIfInBounds_toArray, List.set_cons_zero, List.set_cons_succ, i64_w, i32_w]
                              rfl
                             refine pure_ (i := 18) (N := some 119) (v := ?_) (a' := ?_) #[true, true, true, true, true, true, true, true, true, true, true, true, true, true, true, true, true, true, true, false, false, false, false, false, false, false, false, false, false, false, false, false] rfl rfl (any_of HT_.out (by kernel_rfl)) (fun _ _ _ h => h) (Or.inl ⟨by rfl, ?_⟩) ?_ ?_
                             rotate_left
                             ·intro w'
                              go_simp
                              with_reducible rfl
                             rotate_left
                             ·simp only [Act.put, List.setIfInBounds_toArray, List.set_cons_zero, List.set_cons_succ, i64_w, i32_w]
                              rfl
                             refine take_ (i := 19) (N := some 120) (v := ?_) (a' := ?_) #[true, true, true, true, true, true, true, true, true, true, true, true, true, true, true, true, true, true, true, true, false, false, false, false, false, false, false, false, false, false, false, false] rfl rfl (take_ofW HT_.out HW_.out (by kernel_rfl)) (fun _ _ _ h => h) (Or.inl ⟨by rfl, ?_⟩) hHeld ?_ ?_
                             rotate_left
                             ·rintro w' ⟨s0, s1, s2, s3, s4⟩
                              go_simp
                              with_reducible rfl
                             rotate_left
                             ·simp only [Act.put, List.setIfInBounds_toArray, List.set_cons_zero, List.set_cons_succ, i64_w, i32_w]
                              rfl
                             refine pure_ (i := 20) (N := some 121) (v := ?_) (a' := ?_) #[true, true, true, true, true, true, true, true, true, true, true, true, true, true, true, true, true, true, true, true, true, false, false, false, false, false, false, false, false, false, false, false] rfl rfl (any_of HT_.out (by kernel_rfl)) (fun _ _ _ h => h) (Or.inl ⟨by rfl, ?_⟩) ?_ ?_
                             rotate_left
                             ·intro w'
                              go_simp
                              with_reducible rfl
                             rotate_left
                             ·simp only [Act.put, List.setIfInBounds_toArray, List.set_cons_zero, List.set_cons_succ, i64_w, i32_w]
                              rfl
                             refine pure_ (i := 21) (N := some 122) (v := undef) (a' := ?_) #[true, true, true, true, true, true, true, true, true, true, true, true, true, true, true, true, true, true, true, true, true, true, false, false, false, false, false, false, false, false, false, false] rfl rfl (any_of HT_.out (by kernel_rfl)) (fun _ _ _ h => h) (Or.inr ⟨by rfl, rfl⟩) ?_ ?_
                             rotate_left
                             ·simp only [Act.put, List.setIfInBounds_toArray, List.set_cons_zero, List.set_cons_succ, i64_w, i32_w]
                              rfl
                             refine pure_ (i := 22) (N := some 123) (v := undef) (a' := ?_) #[true, true, true, true, true, true, true, true, true, true, true, true, true, true, true, true, true, true, true, true, true, true, true, false, false, false, false, false, false, false, false, false] rfl rfl (any_of HT_.out (by kernel_rfl)) (fun _ _ _ h => h) (Or.inr ⟨by rfl, rfl⟩) ?_ ?_
                             rotate_left
                             ·simp only [Act.put, List.setIfInBounds_toArray, List.set_cons_zero, List.set_cons_succ, i64_w, i32_w]
                              rfl
                             refine pure_ (i := 23) (N := some 124) (v := undef) (a' := ?_) #[true, true, true, true, true, true, true, true, true, true, true, true, true, true, true, true, true, true, true, true, true, true, true, true, false, false, false, false, false, false, false, false] rfl rfl (any_of HT_.out (by kernel_rfl)) (fun _ _ _ h => h) (Or.inr ⟨by rfl, rfl⟩) ?_ ?_
                             rotate_left
                             ·simp only [Act.put, List.setIfInBounds_toArray, List.set_cons_zero, List.set_cons_succ, i64_w, i32_w]
                              rfl
                             refine pure_ (i := 24) (N := some 125) (v := undef) (a' := ?_) #[true, true, true, true, true, true, true, true, true, true, true, true, true, true, true, true, true, true, true, true, true, true, true, true, true, false, false, false, false, false, false, false] rfl rfl (any_of HT_.out (by kernel_rfl)) (fun _ _ _ h => h) (Or.inr ⟨by rfl, rfl⟩) ?_ ?_
                             rotate_left
                             ·simp only [Act.put, List.setIfInBounds_toArray, List.set_cons_zero, List.set_cons_succ, i64_w, i32_w]
                              rfl
                             refine pure_ (i := 25) (N := some 126) (v := undef) (a' := ?_) #[true, true, true, true, true, true, true, true, true, true, true, true, true, true, true, true, true, true, true, true, true, true, true, true, true, true, false, false, false, false, false, false] rfl rfl (any_of HT_.out (by kernel_rfl)) (fun _ _ _ h => h) (Or.inr ⟨by rfl, rfl⟩) ?_ ?_
                             rotate_left
                             ·simp only [Act.put, List.setIfInBounds_toArray, List.set_cons_zero, List.set_cons_succ, i64_w, i32_w]
                              rfl
                             refine pure_ (i := 26) (N := some 127) (v := undef) (a' := ?_) #[true, true, true, true, true, true, true, true, true, true, true, true, true, true, true, true, true, true, true, true, true, true, true, true, true, true, true, false, false, false, false, false] rfl rfl (any_of HT_.out (by kernel_rfl)) (fun _ _ _ h => h) (Or.inr ⟨by rfl, rfl⟩) ?_ ?_
                             rotate_left
                             ·simp only [Act.put, List.setIfInBounds_toArray, List.set_cons_zero, List.set_cons_succ, i64_w, i32_w]
                              rfl
                             refine pure_ (i := 27) (N := some 128) (v := undef) (a' := ?_) #[true, true, true, true, true, true, true, true, true, true, true, true, true, true, true, true, true, true, true, true, true, true, true, true, true, true, true, true, false, false, false, false] rfl rfl (any_of HT_.out (by kernel_rfl)) (fun _ _ _ h => h) (Or.inr ⟨by rfl, rfl⟩) ?_ ?_
                             rotate_left
                             ·simp only [Act.put, List.setIfInBounds_toArray, List.set_cons_zero, List.set_cons_succ, i64_w, i32_w]
                              rfl
                             refine pure_ (i := 28) (N := some 129) (v := ?_) (a' := ?_) #[true, true, true, true, true, true, true, true, true, true, true, true, true, true, true, true, true, true, true, true, true, true, true, true, true, true, true, true, true, false, false, false] rfl rfl (any_of HT_.out (by kernel_rfl)) (fun _ _ _ h => h) (Or.inl ⟨by rfl, ?_⟩) ?_ ?_
                             rotate_left
                             ·intro w'
                              go_simp
                              with_reducible rfl
                             rotate_left
                             ·simp only [Act.put, List.setIfInBounds_toArray, List.set_cons_zero, List.set_cons_succ, i64_w, i32_w]
                              rfl
                             refine pure_ (i := 29) (N := some 130) (v := ?_) (a' := ?_) #[true, true, true, true, true, true, true, true, true, true, true, true, true, true, true, true, true, true, true, true, true, true, true, true, true, true, true, true, true, true, false, false] rfl rfl (any_of HT_.out (by kernel_rfl)) (fun _ _ _ h => h) (Or.inl ⟨by rfl, ?_⟩) ?_ ?_
                             rotate_left
                             ·intro w'
                              go_simp
                              with_reducible rfl
                             rotate_left
                             ·simp only [Act.put, List.setIfInBounds_toArray, List.set_cons_zero, List.set_cons_succ, i64_w, i32_w]
                              rfl
                             refine pure_ (i := 30) (N := some 131) (v := ?_) (a' := ?_) #[true, true, true, true, true, true, true, true, true, true, true, true, true, true, true, true, true, true, true, true, true, true, true, true, true, true, true, true, true, true, true, false] rfl rfl (any_of HT_.out (by kernel_rfl)) (fun _ _ _ h => h) (Or.inl ⟨by rfl, ?_⟩) ?_ ?_
                             rotate_left
                             ·intro w'
                              go_simp
                              with_reducible rfl
                             rotate_left
                             ·simp only [Act.put, List.setIfInBounds_toArray, List.set_cons_zero, List.set_cons_succ, i64_w, i32_w]
                              rfl
                             refine last_ (i := 31) (N := none) #[true, true, true, true, true, true, true, true, true, true, true, true, true, true, true, true, true, true, true, true, true, true, true, true, true, true, true, true, true, true, true, true] rfl rfl (one_of HT_.out (by kernel_rfl)) (by decide) (fun K hK => ?_)
                             refine skip_ (w1 := ?_) (by rfl) rfl ?_ ?_
                             rotate_left
                             ·go_simp
                              rfl
                             refine hK.out _ _ ?_
                             clear hK K
                             refine done_ (done_of HT_.out (by kernel_rfl)) ?_
                             try go_wp2
                             go_roundg k6
                             case measure => have := HJ2.out; have := HK2.out; have := HK3.out; have := HK4.out; have := HK5.out; have := HK6.out; omega
                             case rel => exact ⟨(y134), (wrap64 (x12_6 + 1)), qz2, H', ⟨qz353⟩, ⟨qz257 HQ90.out⟩, ⟨qz193 HL119_0.out BK101.out⟩, ⟨qz43 GB87.out GE101.out⟩⟩
                           ·rw [if_neg c77] at H
                            exact absurd H (by simp)
                          ·rw [if_neg c76] at H
                           exact absurd H (by simp)
                        ·rw [if_neg c68] at H
                         exact absurd H (by simp)
                       ·rw [if_neg c67] at H
                        exact absurd H (by simp)
                      ·rw [if_neg c66] at H
                       exact absurd H (by simp)
                     ·rw [if_neg c65] at H
                      exact absurd H (by simp)
                    ·rw [if_neg c64] at H
                     have c64b0 : decide (x12_6 < a0) = false := decide_eq_false c64
                     clear c64
                     have H' := Aside0.mk H
                     clear H
                     go_wp2
                     go_roundg k6
                     case measure => have := HJ2.out; have := HK2.out; have := HK3.out; have := HK4.out; have := HK5.out; have := HK6.out; omega
                     case rel => exact ⟨(x6_6), (wrap64 (x11_5 + 1)), qz2, H', ⟨qz353⟩, ⟨qz346⟩, ⟨qz8 BK101.out⟩, ⟨qz10 GE101.out⟩⟩
                 ·rw [if_neg c63] at H
                  have c63b0 : decide (x11_5 < a0) = false := decide_eq_false c63
                  clear c63
                  have H' := Aside0.mk H
                  clear H
                  go_wp2
                  go_roundg k5
                  case measure => have := HJ2.out; have := HK2.out; have := HK3.out; have := HK4.out; have := HK5.out; omega
                  case rel => exact ⟨(x6_5), (wrap64 (x10_4 + 1)), qz2, H', ⟨qz59⟩, ⟨qz346⟩, ⟨qz8 BK101.out⟩, ⟨qz10 GE101.out⟩⟩
              ·rw [if_neg c62] at H
               have c62b0 : decide (x10_4 < a0) = false := decide_eq_false c62
               clear c62
               have H' := Aside0.mk H
               clear H
               go_wp2_with (first | ((with_reducible refine gate_dst (N := 13) rfl ?_); (try (refine gate_guard (by rfl) ?_; dsimp only)); refine box_event ?hg (N := 13) ?hd (cs := #[.int .i64 0, .slice none 0 0]) (t := 47) ?hr ?_; (case hd => rfl); (case hg => rfl); (case hr => exact qz5); intro gb135 hg w92 hbox hb; have n0_ := Aside0.mk (Kd.S_below qz346 hb); have n1_ := Aside0.mk (blk_below (g := gb101) (o := .cells #[.int .i64 x102000_3, .slice none 0 0] 47 (0, 0)) (qz8 BK101.out) hb); have n2_ := Aside0.mk (below_step (qz10 GE101.out) hb); have n3_ := Aside0.mk (hbox); have n4_ := Aside0.mk ((qz38 GE101.out : w.heap.size ≤ gb135)); have n5_ := Aside0.mk ((qz38 GE101.out : w.heap.size ≤ gb135)); have n6_ := Aside0.mk ((qz49 BK101.out : gb101 ≠ gb135)); have n7_ := Aside0.mk ((qz50 BK101.out : gb135 ≠ gb101)); clear HO_6; clear BK101; clear HB; have HO_6 := n0_; have BK101 := n1_; have HB := n2_; have BK135 := n3_; have GW135 := n4_; have GE135 := n5_; have NB101_135 := n6_; have NB135_101 := n7_; clear n0_ n1_ n2_ n3_ n4_ n5_ n6_ n7_; clear hb hbox hg; have hnb93 := NB135_101.out; have hnc93 := NB101_135.out; have hcz94_0 : w92.cell? ⟨gb135, 0, none⟩ = some (.int .i64 0) := (blk_cell BK135.out 0).trans rfl; have hcz94_1 : w92.cell? ⟨gb135, 1, none⟩ = some (.slice none 0 0) := (blk_cell BK135.out 1).trans rfl; have hfz94_0 := blk_frozen BK135.out 0; have hfz94_1 := blk_frozen BK135.out 1))
               go_loopg [14] k4 (fun kq v14 w' => ∃ (x14_5 : Int) (x136001_5 : List Int) (u136001 : Value), v14 = .int .i64 x14_5 ∧ Aside0 (spec_LatOf.l5 kq a0 x6_4 x14_5 a0 x136001_5 = some (r1, r2, r3)) ∧ Aside0 (kq ≤ k4) ∧ Aside0 (Kd.S (Kd.slice 4 Kd.bool) 277 w' w.heap.size (fun _ => True) v103 x6_4) ∧ Aside0 (Kd.R (Kd.int .u64) 153 w' w.heap.size (fun _ => True) u136001 x136001_5) ∧ Aside0 (w'.heap[gb101]? = some (.cells #[.int .i64 x102000_3, (.slice none 0 0)] 47 (0, 0))) ∧ Aside0 (w'.heap[gb135]? = some (.cells #[.int .i64 a0, u136001] 47 (0, 0))) ∧ Aside0 (Below w.heap.size w w'))
               case atStart => exact ⟨(0), (([] : List Int)), (.slice none 0 0), qz2, H', ⟨Nat.le_refl _⟩, ⟨by (with_reducible repeat (first | apply Kd.S_alloc | apply Kd.S_drewN | apply Kd.S_drew)); exact Kd.S_mono (Kd.S_far (p := ⟨gb135, 1, none⟩) (Kd.S_far (p := ⟨gb135, 0, none⟩) (Kd.S_types HO_6.out BK135.out (by decide)) (fun _ hk => hk.2) (.int .i64 a0)) (fun _ hk => hk.2) (.slice none 0 0)) (fun _ hk => trivial)⟩, ⟨qz15⟩, ⟨qz41 NB101_135.out BK101.out⟩, ⟨qz42 BK135.out⟩, ⟨qz43 GE101.out GE135.out⟩⟩
               case round =>
                clear H'
                try clear c1
                try clear p1
                try clear q1
                try clear hx1
                try clear p2
                try clear c6
                try clear p6
                try clear q6
                try clear c7
                try clear q7
                try clear c8
                try clear p8
                try clear q8
                try clear hx8
                try clear hf8
                try clear c9
                try clear q9
                try clear c11
                try clear p11
                try clear q11
                try clear hx11
                try clear c12
                try clear p12
                try clear q12
                try clear hx12
                try clear c62
                try clear c62b0
                try clear c63
                try clear c63b0
                try clear c64
                try clear c64b0
                try clear p64
                try clear c65
                try clear c66
                try clear c67
                try clear c68
                try clear q69
                try clear c76
                try clear c77
                try clear q78
                try clear c79
                try clear c80
                try clear c81
                try clear p87
                try clear q87
                try clear hx87
                try clear hf87
                try clear c90
                try clear q90
                try clear c93
                try clear hcz94_0
                try clear hcz94_1
                try clear hfz94_0
                try clear hfz94_1
                try clear hx119_0
                try clear hx120_0
                try clear hx121_0
                try clear hx125_0
                try clear hx126_0
                try clear hx87_0
                try clear p119
                try clear p120
                try clear p121
                try clear p125
                try clear p126
                try clear p87
                try clear q119
                try clear q120
                try clear q121
                try clear q125
                try clear q126
                try clear q87
                obtain ⟨x14_5, x136001_5, u136001, rfl, HA, HK5, HO_6, HO_136001, BK101, BK135, HB⟩ := hrel
                cases gk with
                | zero => exact absurd HA.out (by simp [spec_LatOf.l5])
                | succ k5 =>
                 have H := HA.out
                 clear HA
                 simp only [spec_LatOf.l5] at H
                 by_cases c95 : x14_5 < a0
                 ·rw [if_pos c95] at H
                  have c95b0 : decide (x14_5 < a0) = true := decide_eq_true c95
                  clear c95
                  have H' := Aside0.mk H
                  clear H
                  go_wp2
                  go_loopg [15, 16] k5 (fun kq v15 v16 w' => ∃ (x15_6 : Int) (x16_6 : Int), v15 = .int .u64 x15_6 ∧ v16 = .int .i64 x16_6 ∧ Aside0 (spec_LatOf.l6 kq a0 x6_4 x14_5 x15_6 x16_6 a0 x136001_5 = some (r1, r2, r3)) ∧ Aside0 (kq ≤ k5) ∧ Aside0 (Kd.S (Kd.slice 4 Kd.bool) 277 w' w.heap.size (fun _ => True) v103 x6_4) ∧ Aside0 (Kd.R (Kd.int .u64) 153 w' w.heap.size (fun _ => True) u136001 x136001_5) ∧ Aside0 (w'.heap[gb101]? = some (.cells #[.int .i64 x102000_3, (.slice none 0 0)] 47 (0, 0))) ∧ Aside0 (w'.heap[gb135]? = some (.cells #[.int .i64 a0, u136001] 47 (0, 0))) ∧ Aside0 (Below w.heap.size w w'))
                  case atStart => exact ⟨(0), (0), qz2, qz2, H', ⟨Nat.le_refl _⟩, ⟨qz346⟩, ⟨qz355⟩, ⟨qz8 BK101.out⟩, ⟨qz8 BK135.out⟩, ⟨qz43 GE101.out GE135.out⟩⟩
                  case round =>
                   clear H'
                   try clear c1
                   try clear p1
                   try clear q1
                   try clear hx1
                   try clear p2
                   try clear c6
                   try clear p6
                   try clear q6
                   try clear c7
                   try clear q7
                   try clear c8
                   try clear p8
                   try clear q8
                   try clear hx8
                   try clear hf8
                   try clear c9
                   try clear q9
                   try clear c11
                   try clear p11
                   try clear q11
                   try clear hx11
                   try clear c12
                   try clear p12
                   try clear q12
                   try clear hx12
                   try clear c62
                   try clear c62b0
                   try clear c63
                   try clear c63b0
                   try clear c64
                   try clear c64b0
                   try clear p64
                   try clear c65
                   try clear c66
                   try clear c67
                   try clear c68
                   try clear q69
                   try clear c76
                   try clear c77
                   try clear q78
                   try clear c79
                   try clear c80
                   try clear c81
                   try clear p87
                   try clear q87
                   try clear hx87
                   try clear hf87
                   try clear c90
                   try clear q90
                   try clear c93
                   try clear c95
                   try clear c95b0
                   try clear hcz94_0
                   try clear hcz94_1
                   try clear hfz94_0
                   try clear hfz94_1
                   try clear hx119_0
                   try clear hx120_0
                   try clear hx121_0
                   try clear hx125_0
                   try clear hx126_0
                   try clear hx87_0
                   try clear p1
                   try clear p11
                   try clear p119
                   try clear p12
                   try clear p120
                   try clear p121
                   try clear p125
                   try clear p126
                   try clear p2
                   try clear p6
                   try clear p64
                   try clear p8
                   try clear p87
                   try clear q1
                   try clear q11
                   try clear q119
                   try clear q12
                   try clear q120
                   try clear q121
                   try clear q125
                   try clear q126
                   try clear q6
                   try clear q69
                   try clear q7
                   try clear q78
                   try clear q8
                   try clear q87
                   try clear q9
                   try clear q90
                   obtain ⟨x15_6, x16_6, rfl, rfl, HA, HK6, HO_6, HO_136001, BK101, BK135, HB⟩ := hrel
                   cases gk with
                   | zero => exact absurd HA.out (by simp [spec_LatOf.l6])
                   | succ k6 =>
                    have H := HA.out
                    clear HA
                    simp only [spec_LatOf.l6] at H
                    by_cases c96 : x16_6 < a0
                    ·rw [if_pos c96] at H
                     have c96b0 : decide (x16_6 < a0) = true := decide_eq_true c96
                     clear c96
                     by_cases c97 : 0 ≤ x14_5
                     ·rw [if_pos c97] at H
                      have c97b0 : decide (0 ≤ x14_5) = true := decide_eq_true c97
                      clear c97
                      by_cases c98 : x14_5 < (x6_4.length : Int)
                      ·rw [if_pos c98] at H
                       have c98b0 : decide (x14_5 < (x6_4.length : Int)) = true := decide_eq_true c98
                       clear c98
                       by_cases c99 : 0 ≤ x16_6
                       ·rw [if_pos c99] at H
                        have c99b0 : decide (0 ≤ x16_6) = true := decide_eq_true c99
                        clear c99
                        by_cases c100 : x16_6 < ((rd_L43 x6_4 x14_5).length : Int)
                        ·rw [if_pos c100] at H
                         have c100b0 : decide (x16_6 < ((rd_L43 x6_4 x14_5).length : Int)) = true := decide_eq_true c100
                         clear c100
                         obtain ⟨bq101, hbq101⟩ : ∃ b_ : Bool, b_ = (rdOf false (rd_L43 x6_4 x14_5) x16_6) := ⟨_, rfl⟩
                         replace H : (if bq101 = true then ((spec_l01Power.f k6 x16_6).bind fun t139 => (spec_LatOf.l6 k6 a0 x6_4 x14_5 (IntKind.u64.wrap (x15_6 + t139)) (wrap64 (x16_6 + 1)) a0 x136001_5)) else (spec_LatOf.l6 k6 a0 x6_4 x14_5 x15_6 (wrap64 (x16_6 + 1)) a0 x136001_5)) = some (r1, r2, r3) := by rw [← hbq101] at H; exact H
                         have Nbq101 := Aside0.mk hbq101
                         clear hbq101
                         by_cases c102 : bq101 = true
                         ·subst c102
                          have H1 : ((spec_l01Power.f k6 x16_6).bind fun t139 => (spec_LatOf.l6 k6 a0 x6_4 x14_5 (IntKind.u64.wrap (x15_6 + t139)) (wrap64 (x16_6 + 1)) a0 x136001_5)) = some (r1, r2, r3) := by rw [if_pos rfl] at H; exact H
                          clear H
                          have H := H1
                          clear H1
                          replace H := Option.bind_eq_some_iff.mp H
                          obtain ⟨t139, A1030, H⟩ := H
                          replace H : (spec_LatOf.l6 k6 a0 x6_4 x14_5 (IntKind.u64.wrap (x15_6 + t139)) (wrap64 (x16_6 + 1)) a0 x136001_5) = some (r1, r2, r3) := H
                          have A103 := Aside0.mk A1030
                          clear A1030
                          have H' := Aside0.mk H
                          clear H
                          obtain ⟨Ao104, co104, eo104⟩ := Kd.S_slice HO_6.out
                          subst eo104
                          have p137 : 0 ≤ (x14_5 : Int) := of_decide_eq_true qz4
                          have q137 : x14_5 < (x6_4.length : Int) := of_decide_eq_true qz4
                          obtain ⟨ad137, A137_0, c137_0, e137, hx137_0, hl137_0, hi137_0⟩ := at_L43 (Kd.S_reads' HO_6.out).2.2 x14_5 p137 q137
                          cases e137
                          obtain ⟨ce137, hce137, hMe137, hcc137⟩ := Kd.S_get HO_6.out [] x14_5 p137 qz356
                          obtain ⟨ve137_0, rfl, ge137_0⟩ := hMe137
                          have hv137_0 := hcc137 0 _ rfl
                          rw [Nat.add_zero, show ((Kd.slice 4 Kd.bool)).sz = 1 from rfl, Nat.mul_one] at hv137_0
                          replace hv137_0 := Option.some.inj (hv137_0.symm.trans hx137_0)
                          rw [hv137_0] at ge137_0
                          have HL137_0 := Aside0.mk (show Kd.R Kd.bool 4 _ _ _ _ (rd_L43 x6_4 x14_5) from ge137_0)
                          clear hv137_0 ge137_0
                          have HX137_0 := Aside0.mk hx137_0
                          clear hcc137 hce137
                          have HR137_0 := Aside0.mk hi137_0
                          have HC137_0 := Aside0.mk hl137_0
                          clear hi137_0 hl137_0
                          replace p137 := eq_true p137
                          replace q137 := eq_true q137
                          have p138 : 0 ≤ (x16_6 : Int) := of_decide_eq_true qz4
                          have q138 : x16_6 < ((rd_L43 x6_4 x14_5).length : Int) := of_decide_eq_true qz4
                          obtain ⟨ad138, e138, hx138_0⟩ := Kd.at_bool (qz351 HR137_0.out) x16_6 p138 q138
                          (try rw [← Nbq101.out] at hx138_0)
                          cases e138
                          replace p138 := eq_true p138
                          replace q138 := eq_true q138
                          go_wp2_with (first | ((with_reducible refine gate_callee (f := 121) rfl ?_); refine goesL_ (some 153) rfl rfl Try.func121 (by kernel_rfl) rfl #[.int .i64 x16_6] rfl qz1 ?_; (with_reducible refine (spec_l01Power.calls k6 x16_6 t139 _ A103.out).mono ?_); rintro e w' ⟨rfl, ⟨nd, rfl⟩⟩; refine ⟨_, rfl, ?_⟩))
                          go_roundg k6
                          case measure => have := HJ2.out; have := HK2.out; have := HK3.out; have := HK4.out; have := HK5.out; have := HK6.out; omega
                          case rel => exact ⟨(IntKind.u64.wrap (x15_6 + t139)), (wrap64 (x16_6 + 1)), qz2, qz2, H', ⟨qz353⟩, ⟨qz346⟩, ⟨qz355⟩, ⟨qz8 BK101.out⟩, ⟨qz8 BK135.out⟩, ⟨qz43 GE101.out GE135.out⟩⟩
                         ·replace c102 := Bool.eq_false_iff.mpr c102
                          subst c102
                          have H1 : (spec_LatOf.l6 k6 a0 x6_4 x14_5 x15_6 (wrap64 (x16_6 + 1)) a0 x136001_5) = some (r1, r2, r3) := by rw [if_neg (show ¬ (false = true) by decide)] at H; exact H
                          clear H
                          have H := H1
                          clear H1
                          have H' := Aside0.mk H
                          clear H
                          obtain ⟨Ao105, co105, eo105⟩ := Kd.S_slice HO_6.out
                          subst eo105
                          have p137 : 0 ≤ (x14_5 : Int) := of_decide_eq_true qz4
                          have q137 : x14_5 < (x6_4.length : Int) := of_decide_eq_true qz4
                          obtain ⟨ad137, A137_0, c137_0, e137, hx137_0, hl137_0, hi137_0⟩ := at_L43 (Kd.S_reads' HO_6.out).2.2 x14_5 p137 q137
                          cases e137
                          obtain ⟨ce137, hce137, hMe137, hcc137⟩ := Kd.S_get HO_6.out [] x14_5 p137 qz356
                          obtain ⟨ve137_0, rfl, ge137_0⟩ := hMe137
                          have hv137_0 := hcc137 0 _ rfl
                          rw [Nat.add_zero, show ((Kd.slice 4 Kd.bool)).sz = 1 from rfl, Nat.mul_one] at hv137_0
                          replace hv137_0 := Option.some.inj (hv137_0.symm.trans hx137_0)
                          rw [hv137_0] at ge137_0
                          have HL137_0 := Aside0.mk (show Kd.R Kd.bool 4 _ _ _ _ (rd_L43 x6_4 x14_5) from ge137_0)
                          clear hv137_0 ge137_0
                          have HX137_0 := Aside0.mk hx137_0
                          clear hcc137 hce137
                          have HR137_0 := Aside0.mk hi137_0
                          have HC137_0 := Aside0.mk hl137_0
                          clear hi137_0 hl137_0
                          replace p137 := eq_true p137
                          replace q137 := eq_true q137
                          have p138 : 0 ≤ (x16_6 : Int) := of_decide_eq_true qz4
                          have q138 : x16_6 < ((rd_L43 x6_4 x14_5).length : Int) := of_decide_eq_true qz4
                          obtain ⟨ad138, e138, hx138_0⟩ := Kd.at_bool (qz351 HR137_0.out) x16_6 p138 q138
                          (try rw [← Nbq101.out] at hx138_0)
                          cases e138
                          replace p138 := eq_true p138
                          replace q138 := eq_true q138
                          go_wp2
                          go_roundg k6
                          case measure => have := HJ2.out; have := HK2.out; have := HK3.out; have := HK4.out; have := HK5.out; have := HK6.out; omega
                          case rel => exact ⟨(x15_6), (wrap64 (x16_6 + 1)), qz2, qz2, H', ⟨qz353⟩, ⟨qz346⟩, ⟨qz355⟩, ⟨qz8 BK101.out⟩, ⟨qz8 BK135.out⟩, ⟨qz43 GE101.out GE135.out⟩⟩
                        ·rw [if_neg c100] at H
                         exact absurd H (by simp)
                       ·rw [if_neg c99] at H
                        exact absurd H (by simp)
                      ·rw [if_neg c98] at H
                       exact absurd H (by simp)
                     ·rw [if_neg c97] at H
                      exact absurd H (by simp)
                    ·rw [if_neg c96] at H
                     have c96b0 : decide (x16_6 < a0) = false := decide_eq_false c96
                     clear c96
                     by_cases c106 : x136001_5.length < 17592186044416
                     ·rw [if_pos c106] at H
                      have LMc106 := Aside0.mk c106
                      clear c106
                      obtain ⟨y140, hy140⟩ : ∃ y_ : List Int, y_ = (x136001_5 ++ [x15_6]) := ⟨_, rfl⟩
                      replace H : (spec_LatOf.l5 k6 a0 x6_4 (wrap64 (x14_5 + 1)) a0 y140) = some (r1, r2, r3) := by first | (rw [hy140]; with_reducible exact H) | (have H2_ := (Option.bind_some _ _).symm.trans H; rw [hy140]; with_reducible exact H2_) | (have H2_ := (Option.bind_some _ _).symm.trans H; with_reducible exact H2_) | with_reducible exact H | (rw [hy140]; exact H) | exact H
                      have Ny140 := Aside0.mk hy140
                      clear hy140
                      have H' := Aside0.mk H
                      clear H
                      have hnb107 := NB135_101.out
                      have hnc107 := NB101_135.out
                      have hcz108_0 : wr.cell? ⟨gb135, 0, none⟩ = some (.int .i64 a0) := (blk_cell BK135.out 0).trans rfl
                      have hcz108_1 : wr.cell? ⟨gb135, 1, none⟩ = some (u136001) := (blk_cell BK135.out 1).trans rfl
                      have hfz108_0 := blk_frozen BK135.out 0
                      have hfz108_1 := blk_frozen BK135.out 1
                      go_wp2_with (first | ((with_reducible refine gate_builtin (b := .append) (xs := #[.tmp 156, .tmp 158]) rfl ?_); (try (refine gate_guard (by rfl) ?_; dsimp only)); at_builtin; refine Kd.R_append (Kd.int .u64) (w0 := w) w.heap.size rfl (.tmp 156) (.tmp 158) 45 153 (.int .u64 0) 8 rfl Try.underlying45 info153 rfl (by decide) (by omega) u136001 x136001_5 x15_6 [.int .u64 x15_6] (fun _ => True) (fun _ => False) rfl rfl ?aP (fun _ hk => hk.elim) ?aF ?aO ?aB ?aS ?aL ?_; (case aP => exact rfl); (case aB => exact qz158 GE101.out GE135.out); (case aF => exact qz26); (case aO => exact qz355); (case aS => exact qz160 GE101.out GE135.out); (case aL => have := LMc106.out; omega); intro v141 w109 ho hb hg hat; rw [← Ny140.out] at ho; have n0_ := Aside0.mk (Kd.S_over' qz346 (Kd.R_typed qz355) (by decide) hg); have n1_ := Aside0.mk (blk_grown (g := gb101) (o := .cells #[.int .i64 x102000_3, .slice none 0 0] 47 (0, 0)) (qz8 BK101.out) hg (Kd.R_ne HO_136001.out BK101.out (by decide))); have n2_ := Aside0.mk (blk_grown (g := gb135) (o := .cells #[.int .i64 a0, u136001] 47 (0, 0)) (qz8 BK135.out) hg (Kd.R_ne HO_136001.out BK135.out (by decide))); have n3_ := Aside0.mk (hb); have n4_ := Aside0.mk (ho); clear HO_6; clear BK101; clear BK135; clear HB; clear HO_136001; have HO_6 := n0_; have BK101 := n1_; have BK135 := n2_; have HB := n3_; have HO142 := n4_; clear n0_ n1_ n2_ n3_ n4_; clear ho hb hg hat; obtain ⟨Ao110, co110, eo110⟩ := Kd.R_slice HO142.out; subst eo110; have hcz111_0 : w109.cell? ⟨gb135, 0, none⟩ = some (.int .i64 a0) := (blk_cell BK135.out 0).trans rfl; have hcz111_1 : w109.cell? ⟨gb135, 1, none⟩ = some (u136001) := (blk_cell BK135.out 1).trans rfl; have hfz111_0 := blk_frozen BK135.out 0; have hfz111_1 := blk_frozen BK135.out 1))
                      go_roundg k6
                      case measure => have := HJ2.out; have := HK2.out; have := HK3.out; have := HK4.out; have := HK5.out; have := HK6.out; omega
                      case rel => exact ⟨(wrap64 (x14_5 + 1)), (y140), (.slice Ao110 y140.length co110), qz2, H', ⟨qz353⟩, ⟨by (with_reducible repeat (first | apply Kd.S_alloc | apply Kd.S_drewN | apply Kd.S_drew)); exact Kd.S_mono (Kd.S_far (p := ⟨gb135, 1, none⟩) (Kd.S_types HO_6.out BK135.out (by decide)) (fun _ hk => hk.2) (.slice Ao110 y140.length co110)) (fun _ hk => trivial)⟩, ⟨by (with_reducible repeat (first | apply Kd.R_alloc | apply Kd.R_drewN | apply Kd.R_drew)); exact Kd.R_mono (Kd.R_far (p := ⟨gb135, 1, none⟩) (Kd.R_types HO142.out BK135.out (by decide)) (fun _ hk => hk.2) (.slice Ao110 y140.length co110)) (fun _ hk => trivial)⟩, ⟨qz218 NB101_135.out BK101.out⟩, ⟨by (with_reducible repeat (first | refine blk_drewN ?_ _ | refine blk_drew ?_ | refine blk_alloc ?_ _)); refine blk_put (cs := #[.int .i64 a0, u136001]) ?_ 1 _ rfl; (with_reducible repeat (first | refine blk_drewN ?_ _ | refine blk_drew ?_ | refine blk_alloc ?_ _)); exact BK135.out⟩, ⟨qz43 GE101.out GE135.out⟩⟩
                     ·rw [if_neg c106] at H
                      exact absurd H (by simp)
                 ·rw [if_neg c95] at H
                  have c95b0 : decide (x14_5 < a0) = false := decide_eq_false c95
                  clear c95
                  replace H := Option.bind_eq_some_iff.mp H
                  obtain ⟨t136, A1120, H⟩ := H
                  replace H : (if t136 = true then (some (a0, x136001_5, true)) else (some (0, ([] : List Int), false))) = some (r1, r2, r3) := H
                  have A112 := Aside0.mk A1120
                  clear A1120
                  by_cases c113 : t136 = true
                  ·subst c113
                   have H1 : (some (a0, x136001_5, true)) = some (r1, r2, r3) := by rw [if_pos rfl] at H; exact H
                   clear H
                   have H := H1
                   clear H1
                   simp only [Option.some.injEq, Prod.mk.injEq] at H
                   obtain ⟨rfl, rfl, rfl⟩ := H
                   have hnb114 := NB135_101.out
                   have hnc114 := NB101_135.out
                   have hcz115_0 : wr.cell? ⟨gb135, 0, none⟩ = some (.int .i64 a0) := (blk_cell BK135.out 0).trans rfl
                   have hcz115_1 : wr.cell? ⟨gb135, 1, none⟩ = some (u136001) := (blk_cell BK135.out 1).trans rfl
                   have hfz115_0 := blk_frozen BK135.out 0
                   have hfz115_1 := blk_frozen BK135.out 1
                   obtain ⟨Ao116, co116, eo116⟩ := Kd.R_slice HO_136001.out
                   subst eo116
                   go_wp2_with (first | ((with_reducible refine gate_callee (f := 30) rfl ?_); refine goesL_ (some 162) rfl rfl Try.func30 (by kernel_rfl) rfl #[.agg #[.int .i64 a0, .slice Ao116 x136001_5.length co116]] rfl qz1 ?_; (with_reducible refine (spec_LatOk.calls k5 a0 _ _ x136001_5 true _ ?side1 ?side2 A112.out).mono ?_); (case side1 => exact qz357); (case side2 => exact (Kd.R_reads' HO_136001.out).2.1); rintro e w117 ⟨rfl, hb⟩; refine ⟨_, rfl, ?_⟩; have n0_ := Aside0.mk (Kd.S_below qz346 hb); have n1_ := Aside0.mk (Kd.R_below qz355 hb); have n2_ := Aside0.mk (blk_below (g := gb101) (o := .cells #[.int .i64 x102000_3, .slice none 0 0] 47 (0, 0)) (qz8 BK101.out) hb); have n3_ := Aside0.mk (blk_below (g := gb135) (o := .cells #[.int .i64 a0, .slice Ao116 x136001_5.length co116] 47 (0, 0)) (qz8 BK135.out) hb); have n4_ := Aside0.mk (below_step (qz43 GE101.out GE135.out) hb); clear HO_6; clear HO_136001; clear BK101; clear BK135; clear HB; have HO_6 := n0_; have HO_136001 := n1_; have BK101 := n2_; have BK135 := n3_; have HB := n4_; clear n0_ n1_ n2_ n3_ n4_; (try clear hb); (try clear hb2); (try clear hk); (try clear hi); have hcz118_0 : w117.cell? ⟨gb135, 0, none⟩ = some (.int .i64 a0) := (blk_cell BK135.out 0).trans rfl; have hcz118_1 : w117.cell? ⟨gb135, 1, none⟩ = some (.slice Ao116 x136001_5.length co116) := (blk_cell BK135.out 1).trans rfl; have hfz118_0 := blk_frozen BK135.out 0; have hfz118_1 := blk_frozen BK135.out 1; have hcz119_0 : w117.cell? ⟨gb101, 0, none⟩ = some (.int .i64 x102000_3) := (blk_cell BK101.out 0).trans rfl; have hcz119_1 : w117.cell? ⟨gb101, 1, none⟩ = some (.slice none 0 0) := (blk_cell BK101.out 1).trans rfl; have hfz119_0 := blk_frozen BK101.out 0; have hfz119_1 := blk_frozen BK101.out 1))
                   refine bodyPost_ret (results_ct rfl _ _ gb101 47 #[.int .i64 a0, .slice Ao116 x136001_5.length co116] (0, 0) _ rfl (qz60 BK101.out) Try.underlying47 rfl (by kernel_rfl)) rfl ?_
                   exact ⟨_, qz13, by (with_reducible repeat (first | apply Kd.R_alloc | apply Kd.R_drewN | apply Kd.R_drew)); exact Kd.R_mono (Kd.R_far (p := ⟨gb101, 1, none⟩) (Kd.R_far (p := ⟨gb101, 0, none⟩) (Kd.R_types HO_136001.out BK101.out (by decide)) (fun _ hk => hk.2) (.int .i64 a0)) (fun _ hk => hk.2) (.slice Ao116 x136001_5.length co116)) (fun _ hk => trivial), qz43 GE101.out GE135.out⟩
                  ·replace c113 := Bool.eq_false_iff.mpr c113
                   subst c113
                   have H1 : (some (0, ([] : List Int), false)) = some (r1, r2, r3) := by rw [if_neg (show ¬ (false = true) by decide)] at H; exact H
                   clear H
                   have H := H1
                   clear H1
                   simp only [Option.some.injEq, Prod.mk.injEq] at H
                   obtain ⟨rfl, rfl, rfl⟩ := H
                   have hnb120 := NB135_101.out
                   have hnc120 := NB101_135.out
                   have hcz121_0 : wr.cell? ⟨gb135, 0, none⟩ = some (.int .i64 a0) := (blk_cell BK135.out 0).trans rfl
                   have hcz121_1 : wr.cell? ⟨gb135, 1, none⟩ = some (u136001) := (blk_cell BK135.out 1).trans rfl
                   have hfz121_0 := blk_frozen BK135.out 0
                   have hfz121_1 := blk_frozen BK135.out 1
                   obtain ⟨Ao122, co122, eo122⟩ := Kd.R_slice HO_136001.out
                   subst eo122
                   go_wp2_with (first | ((with_reducible refine gate_callee (f := 30) rfl ?_); refine goesL_ (some 162) rfl rfl Try.func30 (by kernel_rfl) rfl #[.agg #[.int .i64 a0, .slice Ao122 x136001_5.length co122]] rfl qz1 ?_; (with_reducible refine (spec_LatOk.calls k5 a0 _ _ x136001_5 false _ ?side1 ?side2 A112.out).mono ?_); (case side1 => exact qz357); (case side2 => exact (Kd.R_reads' HO_136001.out).2.1); rintro e w123 ⟨rfl, hb⟩; refine ⟨_, rfl, ?_⟩; have n0_ := Aside0.mk (Kd.S_below qz346 hb); have n1_ := Aside0.mk (Kd.R_below qz355 hb); have n2_ := Aside0.mk (blk_below (g := gb101) (o := .cells #[.int .i64 x102000_3, .slice none 0 0] 47 (0, 0)) (qz8 BK101.out) hb); have n3_ := Aside0.mk (blk_below (g := gb135) (o := .cells #[.int .i64 a0, .slice Ao122 x136001_5.length co122] 47 (0, 0)) (qz8 BK135.out) hb); have n4_ := Aside0.mk (below_step (qz43 GE101.out GE135.out) hb); clear HO_6; clear HO_136001; clear BK101; clear BK135; clear HB; have HO_6 := n0_; have HO_136001 := n1_; have BK101 := n2_; have BK135 := n3_; have HB := n4_; clear n0_ n1_ n2_ n3_ n4_; (try clear hb); (try clear hb2); (try clear hk); (try clear hi); have hcz124_0 : w123.cell? ⟨gb101, 0, none⟩ = some (.int .i64 x102000_3) := (blk_cell BK101.out 0).trans rfl; have hcz124_1 : w123.cell? ⟨gb101, 1, none⟩ = some (.slice none 0 0) := (blk_cell BK101.out 1).trans rfl; have hfz124_0 := blk_frozen BK101.out 0; have hfz124_1 := blk_frozen BK101.out 1))
                   refine bodyPost_ret (results_ct rfl _ _ gb101 47 #[.int .i64 0, .slice none 0 0] (0, 0) _ rfl (qz58 BK101.out) Try.underlying47 rfl (by kernel_rfl)) rfl ?_
                   exact ⟨_, qz13, qz15, qz43 GE101.out GE135.out⟩
     ·rw [if_neg c10] at H
      exact absurd H (by simp)
    ·rw [if_neg c9] at H
     exact absurd H (by simp)

end Go.Proofs.Ytjhfjnknajhanaa.P

namespace Go.Proofs.Ytjhfjnknajhanaa.P
open Go.RowKit Go.Proofs.YtjhfjnknajhanaaW.PrintWords Go.Proofs.YtjhfjnknajhanaaW.PrintLast Go.Proofs.YtjhfjnknajhanaaW.PrintMore
attribute [local go_sem] max2_int min2_int max_two min_two max_three min_three max_four min_four   -- for this text's walks alone
set_option linter.unusedVariables false
set_option linter.unusedSimpArgs false

/-! ### spec_l01Cur_pick: function 134 -/
set_option maxHeartbeats 8000000 in
set_option maxRecDepth 100000 in
theorem spec_l01Cur_pick.calls (g : Nat) (s0_0 : List Int) (s0_1 : Int) (s0_2 : Int) (a1 : Int) (r1 : Int) (r2 : Int) (r3 : Int) (w0 w : World) (hI : IsS213 w0 w g s0_0 s0_1 s0_2) (hB : Below w0.heap.size w0 w) (h : spec_l01Cur_pick.f s0_0 s0_1 s0_2 a1 = some (r1, r2, r3)) :
  Calls Try.prog 134 #[.pointer (some ⟨g, 0, none⟩), .int .i64 a1] w fun e w' => e = .returned (.int .i64 r1) ∧ IsS213 w0 w' g s0_0 r2 r3 ∧ Below w0.heap.size w0 w' ∧ KeepBut w w' g none := by
 have HI0 := Aside0.mk hI
 have HK := Aside0.mk (KeepBut.refl w g none)
 have HL := Aside0.mk hB.size
 clear hI
 have HW0 := Aside0.mk hB.size
 have HB := Aside0.mk hB
 clear hB
 have H : (if a1 < 2 then (some (0, s0_1, s0_2)) else (if s0_1 < (s0_0.length : Int) then (if 0 ≤ s0_1 then (if a1 = 0 then (none) else (some (Int.tmod (wrap64 (rd s0_0 s0_1)) a1, wrap64 (s0_1 + 1), s0_2))) else (none)) else (if (s0_0.length : Int) > 0 then (if (s0_0.length : Int) = 0 then (none) else (if 0 ≤ (Int.tmod s0_1 (s0_0.length : Int)) then (if (Int.tmod s0_1 (s0_0.length : Int)) < (s0_0.length : Int) then (if a1 = 0 then (none) else (some (Int.tmod (wrap64 ((wrap64 (Int.tdiv (Int.tmod (wrap64 ((wrap64 (s0_2 * 1103)) + 12345)) 65521) 7)) + (wrap64 (rd s0_0 (Int.tmod s0_1 (s0_0.length : Int)))))) a1, wrap64 (s0_1 + 1), Int.tmod (wrap64 ((wrap64 (s0_2 * 1103)) + 12345)) 65521))) else (none)) else (none))) else (if a1 = 0 then (none) else (some ((0 : Int) % a1, wrap64 (s0_1 + 1), Int.tmod (wrap64 ((wrap64 (s0_2 * 1103)) + 12345)) 65521)))))) = some (r1, r2, r3) := h
 clear h
 by_cases c3 : a1 < 2
 ·rw [if_pos c3] at H
  have c3b0 : decide (a1 < 2) = true := decide_eq_true c3
  clear c3
  simp only [Option.some.injEq, Prod.mk.injEq] at H
  obtain ⟨rfl, rfl, rfl⟩ := H
  go_enter Try.func134, Try.ntmps134
  go_wp2
  repeat (go_quiet (fail); try go_wp2)
  go_ret
  exact ⟨qz13, qz313 HI0.out, qz314 HI0.out, qz408⟩
 ·rw [if_neg c3] at H
  have c3b0 : decide (a1 < 2) = false := decide_eq_false c3
  clear c3
  by_cases c4 : s0_1 < (s0_0.length : Int)
  ·rw [if_pos c4] at H
   have c4b0 : decide (s0_1 < (s0_0.length : Int)) = true := decide_eq_true c4
   clear c4
   by_cases c5 : 0 ≤ s0_1
   ·rw [if_pos c5] at H
    have c5b0 : decide (0 ≤ s0_1) = true := decide_eq_true c5
    clear c5
    by_cases c6 : a1 = 0
    ·rw [if_pos c6] at H
     exact absurd H (by simp)
    ·rw [if_neg c6] at H
     have c6b0 : (a1 == 0) = false := beq_eq_false_iff_ne.mpr c6
     have c6b1 : (a1 != 0) = true := bne_iff_ne.mpr c6
     simp only [Option.some.injEq, Prod.mk.injEq] at H
     obtain ⟨rfl, rfl, rfl⟩ := H
     obtain ⟨ASz7_0, cSz7_0, HGz7, hgz7, HSz7_0⟩ := HI0.out
     have hcz7_0 := cellS213_0 HGz7
     have hcz7_1 := cellS213_1 HGz7
     have hcz7_2 := cellS213_2 HGz7
     have hfz7_1 := blk_frozen HGz7 1
     have hfz7_2 := blk_frozen HGz7 2
     clear HGz7 hgz7
     have p101 : 0 ≤ (s0_1 : Int) := of_decide_eq_true qz4
     have q101 : s0_1 < (s0_0.length : Int) := of_decide_eq_true qz4
     obtain ⟨ad101, e101, hx101_0⟩ := Kd.at_int HSz7_0 s0_1 p101 q101
     cases e101
     replace hx101_0 := pw_cell_below HB.out hx101_0
     replace p101 := eq_true p101
     replace q101 := eq_true q101
     go_enter Try.func134, Try.ntmps134
     go_wp2
     repeat (go_quiet (fail); try go_wp2)
     go_ret
     exact ⟨qz13, qz313 HI0.out, qz314 HI0.out, qz408⟩
   ·rw [if_neg c5] at H
    exact absurd H (by simp)
  ·rw [if_neg c4] at H
   have c4b0 : decide (s0_1 < (s0_0.length : Int)) = false := decide_eq_false c4
   clear c4
   by_cases c8 : (s0_0.length : Int) > 0
   ·rw [if_pos c8] at H
    have c8b0 : decide (0 < (s0_0.length : Int)) = true := decide_eq_true c8
    have c8b1 : decide (0 < s0_0.length) = true := decide_eq_true (by omega)
    clear c8
    by_cases c9 : (s0_0.length : Int) = 0
    ·rw [if_pos c9] at H
     exact absurd H (by simp)
    ·rw [if_neg c9] at H
     have c9b0 : ((s0_0.length : Int) == 0) = false := beq_eq_false_iff_ne.mpr c9
     have c9b1 : ((s0_0.length : Int) != 0) = true := bne_iff_ne.mpr c9
     have c9b2 : ¬ (s0_0 = []) := fun h_ => c9 (by rw [h_]; rfl)
     obtain ⟨ji10, hji10⟩ : ∃ j_ : Int, (Int.tmod s0_1 (s0_0.length : Int)) = j_ := ⟨_, rfl⟩
     replace H : (if 0 ≤ (ji10) then (if (ji10) < (s0_0.length : Int) then (if a1 = 0 then (none) else (some (Int.tmod (wrap64 ((wrap64 (Int.tdiv (Int.tmod (wrap64 ((wrap64 (s0_2 * 1103)) + 12345)) 65521) 7)) + (wrap64 (rd s0_0 (ji10))))) a1, wrap64 (s0_1 + 1), Int.tmod (wrap64 ((wrap64 (s0_2 * 1103)) + 12345)) 65521))) else (none)) else (none)) = some (r1, r2, r3) := by first | (rw [hji10] at H; exact H) | (simp only [hji10] at H ⊢; exact H)
     by_cases c11 : 0 ≤ (ji10)
     ·rw [if_pos c11] at H
      have c11b0 : decide (0 ≤ (ji10)) = true := decide_eq_true c11
      clear c11
      by_cases c12 : (ji10) < (s0_0.length : Int)
      ·rw [if_pos c12] at H
       have c12b0 : decide ((ji10) < (s0_0.length : Int)) = true := decide_eq_true c12
       clear c12
       by_cases c13 : a1 = 0
       ·rw [if_pos c13] at H
        exact absurd H (by simp)
       ·rw [if_neg c13] at H
        have c13b0 : (a1 == 0) = false := beq_eq_false_iff_ne.mpr c13
        have c13b1 : (a1 != 0) = true := bne_iff_ne.mpr c13
        simp only [Option.some.injEq, Prod.mk.injEq] at H
        obtain ⟨rfl, rfl, rfl⟩ := H
        obtain ⟨ASz14_0, cSz14_0, HGz14, hgz14, HSz14_0⟩ := HI0.out
        have hcz14_0 := cellS213_0 HGz14
        have hcz14_1 := cellS213_1 HGz14
        have hcz14_2 := cellS213_2 HGz14
        have hfz14_1 := blk_frozen HGz14 1
        have hfz14_2 := blk_frozen HGz14 2
        clear HGz14 hgz14
        have p102 : 0 ≤ ((ji10) : Int) := of_decide_eq_true qz4
        have q102 : (ji10) < (s0_0.length : Int) := of_decide_eq_true qz4
        obtain ⟨ad102, e102, hx102_0⟩ := Kd.at_int HSz14_0 (ji10) p102 q102
        cases e102
        have hn102_0 : ad102.block ≠ g := Nat.ne_of_lt (Nat.lt_of_lt_of_le (qz109 hx102_0) (IsS213.ge HI0.out))
        replace hx102_0 := pw_cell_below HB.out hx102_0
        replace hx102_0 := (cell_far (p := ⟨g, 2, none⟩) (by first | (rw [add_block]; exact hn102_0) | (show (Addr.add _ _).block ≠ _; rw [add_block]; exact hn102_0) | exact hn102_0) (.int .i64 (Int.tmod (wrap64 ((wrap64 (s0_2 * 1103)) + 12345)) 65521))).trans hx102_0
        (try have hy102_0 := fun (n_ : Nat) => (show (((w.drewN n_).setCell ⟨g, 2, none⟩ (.int .i64 (Int.tmod (wrap64 ((wrap64 (s0_2 * 1103)) + 12345)) 65521)))).cell? _ = some _ from hx102_0))
        clear hn102_0
        replace p102 := eq_true p102
        replace q102 := eq_true q102
        go_enter Try.func134, Try.ntmps134
        go_wp2
        repeat (go_quiet (fail); try go_wp2)
        go_ret
        exact ⟨qz123, qz313 HI0.out, qz314 HI0.out, qz408⟩
      ·rw [if_neg c12] at H
       exact absurd H (by simp)
     ·rw [if_neg c11] at H
      exact absurd H (by simp)
   ·rw [if_neg c8] at H
    have c8b0 : decide (0 < (s0_0.length : Int)) = false := decide_eq_false c8
    have c8b1 : decide (0 < s0_0.length) = false := decide_eq_false (by omega)
    clear c8
    by_cases c15 : a1 = 0
    ·rw [if_pos c15] at H
     exact absurd H (by simp)
    ·rw [if_neg c15] at H
     have c15b0 : (a1 == 0) = false := beq_eq_false_iff_ne.mpr c15
     have c15b1 : (a1 != 0) = true := bne_iff_ne.mpr c15
     simp only [Option.some.injEq, Prod.mk.injEq] at H
     obtain ⟨rfl, rfl, rfl⟩ := H
     obtain ⟨ASz16_0, cSz16_0, HGz16, hgz16, HSz16_0⟩ := HI0.out
     have hcz16_0 := cellS213_0 HGz16
     have hcz16_1 := cellS213_1 HGz16
     have hcz16_2 := cellS213_2 HGz16
     have hfz16_1 := blk_frozen HGz16 1
     have hfz16_2 := blk_frozen HGz16 2
     clear HGz16 hgz16
     go_enter Try.func134, Try.ntmps134
     go_wp2
     repeat (go_quiet (fail); try go_wp2)
     go_ret
     exact ⟨qz13, qz313 HI0.out, qz314 HI0.out, qz408⟩

end Go.Proofs.Ytjhfjnknajhanaa.P
