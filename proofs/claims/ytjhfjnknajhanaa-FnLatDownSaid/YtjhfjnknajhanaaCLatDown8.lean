/- Part 8 of 9 of the proof of FnLatDown: functions on lists and numbers, contracts of Go functions, plain lemmas. -/
import Derived.Test.YtjhfjnknajhanaaCLatDown5
import Derived.Test.YtjhfjnknajhanaaCLatDown7
import Derived.Test.YtjhfjnknajhanaaCLatDown6
namespace Go.Proofs.Ytjhfjnknajhanaa.P
open Go.RowKit Go.Proofs.YtjhfjnknajhanaaW.PrintWords Go.Proofs.YtjhfjnknajhanaaW.PrintLast Go.Proofs.YtjhfjnknajhanaaW.PrintMore
attribute [local go_sem] max2_int min2_int max_two min_two max_three min_three max_four min_four   -- for this text's walks alone
set_option linter.unusedVariables false
set_option linter.unusedSimpArgs false

/-! ### spec_l01Cur_lat: function 210 -/
def spec_l01Cur_lat.T4 : Bool × List (List Nat × List Nat) := (true, [([], []), ([], []), ([0, 1], [0, 1]), ([2], [2]), ([], []), ([], []), ([4, 5], [4, 5]), ([6], [6]), ([3, 7], [3, 7]), ([8], [8]), ([9], [9]), ([9], [9]), ([], []), ([12, 10, 8, 0, 1, 2, 3, 4, 5, 6, 7, 8, 9, 10, 12], [10, 12]), ([11, 13, 0, 1, 2, 3, 4, 5, 6, 7, 8, 9, 10, 11, 12, 13], [11])])
def spec_l01Cur_lat.B4 : List Nat := [0, 0, 3, 7, 0, 0, 48, 112, 255, 511, 1023, 1023, 0, 6143, 16383]
theorem spec_l01Cur_lat.tab4 : rtab .any (opsOf Try.f210 4) = spec_l01Cur_lat.T4 := by kernel_rfl
theorem spec_l01Cur_lat.bits4 : waitsOk spec_l01Cur_lat.T4.2 spec_l01Cur_lat.B4 = true := by kernel_rfl
set_option maxHeartbeats 8000000 in
set_option maxRecDepth 100000 in
theorem spec_l01Cur_lat.calls (k : Nat) (g : Nat) (s0_0 : List Int) (s0_1 : Int) (s0_2 : Int) (r1 : Int) (r2 : List Int) (r3 : Int) (r4 : Int) (w0 w : World) (hI : IsS213 w0 w g s0_0 s0_1 s0_2) (hB : Below w0.heap.size w0 w) (h : spec_l01Cur_lat.f k s0_0 s0_1 s0_2 = some (r1, r2, r3, r4)) :
  Calls Try.prog 210 #[.pointer (some ⟨g, 0, none⟩)] w fun e w' => ∃ v1_ : Value, e = .returned (.agg #[.int .i64 r1, v1_]) ∧ Kd.R (Kd.int .u64) 153 w' w.heap.size (fun _ => True) v1_ r2 ∧ IsS213 w0 w' g s0_0 r3 r4 ∧ Below w0.heap.size w0 w' ∧ KeepBut w w' g none := by
 have hu47 := Try.underlying47
 have hu151 := Try.underlying151
 have HI0 := Aside0.mk hI
 have HK := Aside0.mk (KeepBut.refl w g none)
 have HL := Aside0.mk hB.size
 clear hI
 have HW0 := Aside0.mk hB.size
 have HB := Aside0.mk hB
 clear hB
 have H : ((some (([(([] : List (S151))), (([(⟨0, 1⟩ : S151)] : List (S151))), (([(⟨0, 1⟩ : S151), (⟨1, 2⟩ : S151)] : List (S151))), (([(⟨0, 1⟩ : S151), (⟨0, 2⟩ : S151), (⟨1, 3⟩ : S151), (⟨2, 3⟩ : S151)] : List (S151))), (([(⟨4, 0⟩ : S151), (⟨4, 1⟩ : S151), (⟨4, 2⟩ : S151), (⟨0, 3⟩ : S151), (⟨1, 3⟩ : S151), (⟨2, 3⟩ : S151)] : List (S151))), (([(⟨0, 1⟩ : S151), (⟨0, 2⟩ : S151), (⟨0, 3⟩ : S151), (⟨1, 4⟩ : S151), (⟨2, 4⟩ : S151), (⟨1, 5⟩ : S151), (⟨3, 5⟩ : S151), (⟨2, 6⟩ : S151), (⟨3, 6⟩ : S151), (⟨4, 7⟩ : S151), (⟨5, 7⟩ : S151), (⟨6, 7⟩ : S151)] : List (S151)))] : List (List (S151))) : List (List (S151)))).bind fun y120 => ((some (([1, 2, 3, 4, 5, 8] : List Int) : List Int)).bind fun y123 => ((spec_l01Cur_pick.f s0_0 s0_1 s0_2 6).bind fun bt126 => (if 0 ≤ bt126.1 then (if bt126.1 < (y123.length : Int) then (if bt126.1 < (y120.length : Int) then ((spec_LatOf.f k (rd y123 bt126.1) (rd_L18 y120 bt126.1)).bind fun bt131 => (some (bt131.1, bt131.2.1, bt126.2.1, bt126.2.2))) else (none)) else (none)) else (none))))) = some (r1, r2, r3, r4) := h
 clear h
 obtain ⟨y102, hy102⟩ : ∃ y_ : List (S151), y_ = (([] : List (S151))) := ⟨_, rfl⟩
 replace H : ((some (([y102, (([(⟨0, 1⟩ : S151)] : List (S151))), (([(⟨0, 1⟩ : S151), (⟨1, 2⟩ : S151)] : List (S151))), (([(⟨0, 1⟩ : S151), (⟨0, 2⟩ : S151), (⟨1, 3⟩ : S151), (⟨2, 3⟩ : S151)] : List (S151))), (([(⟨4, 0⟩ : S151), (⟨4, 1⟩ : S151), (⟨4, 2⟩ : S151), (⟨0, 3⟩ : S151), (⟨1, 3⟩ : S151), (⟨2, 3⟩ : S151)] : List (S151))), (([(⟨0, 1⟩ : S151), (⟨0, 2⟩ : S151), (⟨0, 3⟩ : S151), (⟨1, 4⟩ : S151), (⟨2, 4⟩ : S151), (⟨1, 5⟩ : S151), (⟨3, 5⟩ : S151), (⟨2, 6⟩ : S151), (⟨3, 6⟩ : S151), (⟨4, 7⟩ : S151), (⟨5, 7⟩ : S151), (⟨6, 7⟩ : S151)] : List (S151)))] : List (List (S151))) : List (List (S151)))).bind fun y120 => ((some (([1, 2, 3, 4, 5, 8] : List Int) : List Int)).bind fun y123 => ((spec_l01Cur_pick.f s0_0 s0_1 s0_2 6).bind fun bt126 => (if 0 ≤ bt126.1 then (if bt126.1 < (y123.length : Int) then (if bt126.1 < (y120.length : Int) then ((spec_LatOf.f k (rd y123 bt126.1) (rd_L18 y120 bt126.1)).bind fun bt131 => (some (bt131.1, bt131.2.1, bt126.2.1, bt126.2.2))) else (none)) else (none)) else (none))))) = some (r1, r2, r3, r4) := by first | (rw [hy102]; with_reducible exact H) | (have H2_ := (Option.bind_some _ _).symm.trans H; rw [hy102]; with_reducible exact H2_) | (have H2_ := (Option.bind_some _ _).symm.trans H; with_reducible exact H2_) | with_reducible exact H | (rw [hy102]; exact H) | exact H
 have Ny102 := Aside0.mk hy102
 clear hy102
 obtain ⟨y105, hy105⟩ : ∃ y_ : List (S151), y_ = (([(⟨0, 1⟩ : S151)] : List (S151))) := ⟨_, rfl⟩
 replace H : ((some (([y102, y105, (([(⟨0, 1⟩ : S151), (⟨1, 2⟩ : S151)] : List (S151))), (([(⟨0, 1⟩ : S151), (⟨0, 2⟩ : S151), (⟨1, 3⟩ : S151), (⟨2, 3⟩ : S151)] : List (S151))), (([(⟨4, 0⟩ : S151), (⟨4, 1⟩ : S151), (⟨4, 2⟩ : S151), (⟨0, 3⟩ : S151), (⟨1, 3⟩ : S151), (⟨2, 3⟩ : S151)] : List (S151))), (([(⟨0, 1⟩ : S151), (⟨0, 2⟩ : S151), (⟨0, 3⟩ : S151), (⟨1, 4⟩ : S151), (⟨2, 4⟩ : S151), (⟨1, 5⟩ : S151), (⟨3, 5⟩ : S151), (⟨2, 6⟩ : S151), (⟨3, 6⟩ : S151), (⟨4, 7⟩ : S151), (⟨5, 7⟩ : S151), (⟨6, 7⟩ : S151)] : List (S151)))] : List (List (S151))) : List (List (S151)))).bind fun y120 => ((some (([1, 2, 3, 4, 5, 8] : List Int) : List Int)).bind fun y123 => ((spec_l01Cur_pick.f s0_0 s0_1 s0_2 6).bind fun bt126 => (if 0 ≤ bt126.1 then (if bt126.1 < (y123.length : Int) then (if bt126.1 < (y120.length : Int) then ((spec_LatOf.f k (rd y123 bt126.1) (rd_L18 y120 bt126.1)).bind fun bt131 => (some (bt131.1, bt131.2.1, bt126.2.1, bt126.2.2))) else (none)) else (none)) else (none))))) = some (r1, r2, r3, r4) := by first | (rw [hy105]; with_reducible exact H) | (have H2_ := (Option.bind_some _ _).symm.trans H; rw [hy105]; with_reducible exact H2_) | (have H2_ := (Option.bind_some _ _).symm.trans H; with_reducible exact H2_) | with_reducible exact H | (rw [hy105]; exact H) | exact H
 have Ny105 := Aside0.mk hy105
 clear hy105
 obtain ⟨y108, hy108⟩ : ∃ y_ : List (S151), y_ = (([(⟨0, 1⟩ : S151), (⟨1, 2⟩ : S151)] : List (S151))) := ⟨_, rfl⟩
 replace H : ((some (([y102, y105, y108, (([(⟨0, 1⟩ : S151), (⟨0, 2⟩ : S151), (⟨1, 3⟩ : S151), (⟨2, 3⟩ : S151)] : List (S151))), (([(⟨4, 0⟩ : S151), (⟨4, 1⟩ : S151), (⟨4, 2⟩ : S151), (⟨0, 3⟩ : S151), (⟨1, 3⟩ : S151), (⟨2, 3⟩ : S151)] : List (S151))), (([(⟨0, 1⟩ : S151), (⟨0, 2⟩ : S151), (⟨0, 3⟩ : S151), (⟨1, 4⟩ : S151), (⟨2, 4⟩ : S151), (⟨1, 5⟩ : S151), (⟨3, 5⟩ : S151), (⟨2, 6⟩ : S151), (⟨3, 6⟩ : S151), (⟨4, 7⟩ : S151), (⟨5, 7⟩ : S151), (⟨6, 7⟩ : S151)] : List (S151)))] : List (List (S151))) : List (List (S151)))).bind fun y120 => ((some (([1, 2, 3, 4, 5, 8] : List Int) : List Int)).bind fun y123 => ((spec_l01Cur_pick.f s0_0 s0_1 s0_2 6).bind fun bt126 => (if 0 ≤ bt126.1 then (if bt126.1 < (y123.length : Int) then (if bt126.1 < (y120.length : Int) then ((spec_LatOf.f k (rd y123 bt126.1) (rd_L18 y120 bt126.1)).bind fun bt131 => (some (bt131.1, bt131.2.1, bt126.2.1, bt126.2.2))) else (none)) else (none)) else (none))))) = some (r1, r2, r3, r4) := by first | (rw [hy108]; with_reducible exact H) | (have H2_ := (Option.bind_some _ _).symm.trans H; rw [hy108]; with_reducible exact H2_) | (have H2_ := (Option.bind_some _ _).symm.trans H; with_reducible exact H2_) | with_reducible exact H | (rw [hy108]; exact H) | exact H
 have Ny108 := Aside0.mk hy108
 clear hy108
 obtain ⟨y111, hy111⟩ : ∃ y_ : List (S151), y_ = (([(⟨0, 1⟩ : S151), (⟨0, 2⟩ : S151), (⟨1, 3⟩ : S151), (⟨2, 3⟩ : S151)] : List (S151))) := ⟨_, rfl⟩
 replace H : ((some (([y102, y105, y108, y111, (([(⟨4, 0⟩ : S151), (⟨4, 1⟩ : S151), (⟨4, 2⟩ : S151), (⟨0, 3⟩ : S151), (⟨1, 3⟩ : S151), (⟨2, 3⟩ : S151)] : List (S151))), (([(⟨0, 1⟩ : S151), (⟨0, 2⟩ : S151), (⟨0, 3⟩ : S151), (⟨1, 4⟩ : S151), (⟨2, 4⟩ : S151), (⟨1, 5⟩ : S151), (⟨3, 5⟩ : S151), (⟨2, 6⟩ : S151), (⟨3, 6⟩ : S151), (⟨4, 7⟩ : S151), (⟨5, 7⟩ : S151), (⟨6, 7⟩ : S151)] : List (S151)))] : List (List (S151))) : List (List (S151)))).bind fun y120 => ((some (([1, 2, 3, 4, 5, 8] : List Int) : List Int)).bind fun y123 => ((spec_l01Cur_pick.f s0_0 s0_1 s0_2 6).bind fun bt126 => (if 0 ≤ bt126.1 then (if bt126.1 < (y123.length : Int) then (if bt126.1 < (y120.length : Int) then ((spec_LatOf.f k (rd y123 bt126.1) (rd_L18 y120 bt126.1)).bind fun bt131 => (some (bt131.1, bt131.2.1, bt126.2.1, bt126.2.2))) else (none)) else (none)) else (none))))) = some (r1, r2, r3, r4) := by first | (rw [hy111]; with_reducible exact H) | (have H2_ := (Option.bind_some _ _).symm.trans H; rw [hy111]; with_reducible exact H2_) | (have H2_ := (Option.bind_some _ _).symm.trans H; with_reducible exact H2_) | with_reducible exact H | (rw [hy111]; exact H) | exact H
 have Ny111 := Aside0.mk hy111
 clear hy111
 obtain ⟨y114, hy114⟩ : ∃ y_ : List (S151), y_ = (([(⟨4, 0⟩ : S151), (⟨4, 1⟩ : S151), (⟨4, 2⟩ : S151), (⟨0, 3⟩ : S151), (⟨1, 3⟩ : S151), (⟨2, 3⟩ : S151)] : List (S151))) := ⟨_, rfl⟩
 replace H : ((some (([y102, y105, y108, y111, y114, (([(⟨0, 1⟩ : S151), (⟨0, 2⟩ : S151), (⟨0, 3⟩ : S151), (⟨1, 4⟩ : S151), (⟨2, 4⟩ : S151), (⟨1, 5⟩ : S151), (⟨3, 5⟩ : S151), (⟨2, 6⟩ : S151), (⟨3, 6⟩ : S151), (⟨4, 7⟩ : S151), (⟨5, 7⟩ : S151), (⟨6, 7⟩ : S151)] : List (S151)))] : List (List (S151))) : List (List (S151)))).bind fun y120 => ((some (([1, 2, 3, 4, 5, 8] : List Int) : List Int)).bind fun y123 => ((spec_l01Cur_pick.f s0_0 s0_1 s0_2 6).bind fun bt126 => (if 0 ≤ bt126.1 then (if bt126.1 < (y123.length : Int) then (if bt126.1 < (y120.length : Int) then ((spec_LatOf.f k (rd y123 bt126.1) (rd_L18 y120 bt126.1)).bind fun bt131 => (some (bt131.1, bt131.2.1, bt126.2.1, bt126.2.2))) else (none)) else (none)) else (none))))) = some (r1, r2, r3, r4) := by first | (rw [hy114]; with_reducible exact H) | (have H2_ := (Option.bind_some _ _).symm.trans H; rw [hy114]; with_reducible exact H2_) | (have H2_ := (Option.bind_some _ _).symm.trans H; with_reducible exact H2_) | with_reducible exact H | (rw [hy114]; exact H) | exact H
 have Ny114 := Aside0.mk hy114
 clear hy114
 obtain ⟨y117, hy117⟩ : ∃ y_ : List (S151), y_ = (([(⟨0, 1⟩ : S151), (⟨0, 2⟩ : S151), (⟨0, 3⟩ : S151), (⟨1, 4⟩ : S151), (⟨2, 4⟩ : S151), (⟨1, 5⟩ : S151), (⟨3, 5⟩ : S151), (⟨2, 6⟩ : S151), (⟨3, 6⟩ : S151), (⟨4, 7⟩ : S151), (⟨5, 7⟩ : S151), (⟨6, 7⟩ : S151)] : List (S151))) := ⟨_, rfl⟩
 replace H : ((some (([y102, y105, y108, y111, y114, y117] : List (List (S151))) : List (List (S151)))).bind fun y120 => ((some (([1, 2, 3, 4, 5, 8] : List Int) : List Int)).bind fun y123 => ((spec_l01Cur_pick.f s0_0 s0_1 s0_2 6).bind fun bt126 => (if 0 ≤ bt126.1 then (if bt126.1 < (y123.length : Int) then (if bt126.1 < (y120.length : Int) then ((spec_LatOf.f k (rd y123 bt126.1) (rd_L18 y120 bt126.1)).bind fun bt131 => (some (bt131.1, bt131.2.1, bt126.2.1, bt126.2.2))) else (none)) else (none)) else (none))))) = some (r1, r2, r3, r4) := by first | (rw [hy117]; with_reducible exact H) | (have H2_ := (Option.bind_some _ _).symm.trans H; rw [hy117]; with_reducible exact H2_) | (have H2_ := (Option.bind_some _ _).symm.trans H; with_reducible exact H2_) | with_reducible exact H | (rw [hy117]; exact H) | exact H
 have Ny117 := Aside0.mk hy117
 clear hy117
 obtain ⟨y120, hy120⟩ : ∃ y_ : List (List (S151)), y_ = (([y102, y105, y108, y111, y114, y117] : List (List (S151)))) := ⟨_, rfl⟩
 replace H : ((some (([1, 2, 3, 4, 5, 8] : List Int) : List Int)).bind fun y123 => ((spec_l01Cur_pick.f s0_0 s0_1 s0_2 6).bind fun bt126 => (if 0 ≤ bt126.1 then (if bt126.1 < (y123.length : Int) then (if bt126.1 < (y120.length : Int) then ((spec_LatOf.f k (rd y123 bt126.1) (rd_L18 y120 bt126.1)).bind fun bt131 => (some (bt131.1, bt131.2.1, bt126.2.1, bt126.2.2))) else (none)) else (none)) else (none)))) = some (r1, r2, r3, r4) := by first | (rw [hy120]; with_reducible exact H) | (have H2_ := (Option.bind_some _ _).symm.trans H; rw [hy120]; with_reducible exact H2_) | (have H2_ := (Option.bind_some _ _).symm.trans H; with_reducible exact H2_) | with_reducible exact H | (rw [hy120]; exact H) | exact H
 have Ny120 := Aside0.mk hy120
 clear hy120
 obtain ⟨y123, hy123⟩ : ∃ y_ : List Int, y_ = (([1, 2, 3, 4, 5, 8] : List Int)) := ⟨_, rfl⟩
 replace H : ((spec_l01Cur_pick.f s0_0 s0_1 s0_2 6).bind fun bt126 => (if 0 ≤ bt126.1 then (if bt126.1 < (y123.length : Int) then (if bt126.1 < (y120.length : Int) then ((spec_LatOf.f k (rd y123 bt126.1) (rd_L18 y120 bt126.1)).bind fun bt131 => (some (bt131.1, bt131.2.1, bt126.2.1, bt126.2.2))) else (none)) else (none)) else (none))) = some (r1, r2, r3, r4) := by first | (rw [hy123]; with_reducible exact H) | (have H2_ := (Option.bind_some _ _).symm.trans H; rw [hy123]; with_reducible exact H2_) | (have H2_ := (Option.bind_some _ _).symm.trans H; with_reducible exact H2_) | with_reducible exact H | (rw [hy123]; exact H) | exact H
 have Ny123 := Aside0.mk hy123
 clear hy123
 replace H := Option.bind_eq_some_iff.mp H
 obtain ⟨⟨t126, t127, t128⟩, A20, H⟩ := H
 replace H : (if 0 ≤ t126 then (if t126 < (y123.length : Int) then (if t126 < (y120.length : Int) then ((spec_LatOf.f k (rd y123 t126) (rd_L18 y120 t126)).bind fun bt131 => (some (bt131.1, bt131.2.1, t127, t128))) else (none)) else (none)) else (none)) = some (r1, r2, r3, r4) := H
 have A2 := Aside0.mk A20
 clear A20
 by_cases c3 : 0 ≤ t126
 ·rw [if_pos c3] at H
  have c3b0 : decide (0 ≤ t126) = true := decide_eq_true c3
  clear c3
  by_cases c4 : t126 < (y123.length : Int)
  ·rw [if_pos c4] at H
   have c4b0 : decide (t126 < (y123.length : Int)) = true := decide_eq_true c4
   clear c4
   by_cases c5 : t126 < (y120.length : Int)
   ·rw [if_pos c5] at H
    have c5b0 : decide (t126 < (y120.length : Int)) = true := decide_eq_true c5
    clear c5
    replace H := Option.bind_eq_some_iff.mp H
    obtain ⟨⟨t131, t132, t135⟩, A60, H⟩ := H
    replace H : (some (t131, t132, t127, t128)) = some (r1, r2, r3, r4) := H
    have A6 := Aside0.mk A60
    clear A60
    simp only [Option.some.injEq, Prod.mk.injEq] at H
    obtain ⟨rfl, rfl, rfl, rfl⟩ := H
    go_enter Try.func210, Try.ntmps210
    try go_wp2_with (first | ((with_reducible refine gate_dst (N := 2) rfl ?_); refine box_event ?hg (N := 2) ?hd (cs := #[.int .i64 0, .slice none 0 0]) (t := 47) ?hr ?_; (case hd => rfl); (case hg => rfl); (case hr => exact qz5); intro gb101 hg w7 hbox hb; have n0_ := Aside0.mk (IsS213.below (qz313 HI0.out) hb); have n1_ := Aside0.mk (KeepBut.trans qz408 (KeepBut.of_below hb g none) (.inl rfl)); have n2_ := Aside0.mk (below_step (qz314 HI0.out) hb); have n3_ := Aside0.mk (hbox); have n4_ := Aside0.mk ((qz414 : w.heap.size ≤ gb101)); have n5_ := Aside0.mk ((Nat.le_trans HW0.out (qz414 : w.heap.size ≤ gb101) : w0.heap.size ≤ gb101)); have n6_ := Aside0.mk ((qz415 HI0.out : g ≠ gb101)); have n7_ := Aside0.mk ((qz416 HI0.out : gb101 ≠ g)); clear HI0; clear HK; clear HB; have HI0 := n0_; have HK := n1_; have HB := n2_; have BK101 := n3_; have GW101 := n4_; have GE101 := n5_; have NB0_101 := n6_; have NB101_0 := n7_; clear n0_ n1_ n2_ n3_ n4_ n5_ n6_ n7_; clear hb hbox hg) | ((with_reducible refine gate_dst (N := 8) rfl ?_); refine Kd.R_lit k151 _ 151 ?hg (N := 8) ?hd (xs := ([] : List (S151))) (inner := []) (ok := fun _ => True) (okp := fun _ => True) ?hr ?hp (fun _ hk => hk) trivial (Below.refl _ _) (Nat.le_refl _) (by simp) ?_; (case hd => rfl); (case hg => rfl); (case hr => exact qz5); (case hp => exact qz22); intro v103 w8 ho9 hb hg_ hnew_; clear hg_ hnew_; (first | rw [← Ny102.out] at ho9 | (simp only [Int.reduceToNat] at ho9; rw [← Ny102.out] at ho9)); have n0_ := Aside0.mk (Kd.R_lower ho9 (keep_size (w := w) (g := g) (row := none) (qz417 GW101.out))); have n1_ := Aside0.mk (IsS213.below (qz289 HI0.out NB0_101.out) hb); have n2_ := Aside0.mk (blk_below (g := gb101) (o := .cells #[.int .i64 0, .slice none 0 0] 47 (0, 0)) (qz8 BK101.out) hb); have n3_ := Aside0.mk (KeepBut.trans (qz417 GW101.out) (KeepBut.of_below hb g none) (.inl rfl)); have n4_ := Aside0.mk (below_step (qz290 HI0.out GE101.out) hb); clear HI0; clear BK101; clear HK; clear HB; have HO104 := n0_; have HI0 := n1_; have BK101 := n2_; have HK := n3_; have HB := n4_; clear n0_ n1_ n2_ n3_ n4_; clear hb ho9) | ((with_reducible refine gate_dst (N := 10) rfl ?_); refine Kd.R_lit k151 _ 151 ?hg (N := 10) ?hd (xs := ([(⟨0, 1⟩ : S151)] : List (S151))) (inner := [.int .i64 0, .int .i64 1]) (ok := fun _ => True) (okp := fun _ => True) ?hr ?hp (fun _ hk => hk) trivial (Below.refl _ _) (Nat.le_refl _) (by simp) ?_; (case hd => rfl); (case hg => rfl); (case hr => exact qz5); (case hp => exact (Reps.c2 (show Kd.M k151 _ _ _ (⟨0, 1⟩ : S151) [.int .i64 0, .int .i64 1] from (k151_mkM _ _ _ (⟨0, 1⟩ : S151) )) (Reps.none _ _))); intro v106 w10 ho11 hb hg_ hnew_; clear hg_ hnew_; (first | rw [← Ny105.out] at ho11 | (simp only [Int.reduceToNat] at ho11; rw [← Ny105.out] at ho11)); have n0_ := Aside0.mk (Kd.R_elder' (qz21 HO104.out) (Kd.R_base ho11) hb); have n1_ := Aside0.mk (Kd.R_lower (Kd.R_new' ho11 (Kd.R_lt (qz21 HO104.out))) (keep_size (w := w) (g := g) (row := none) (qz417 GW101.out))); have n2_ := Aside0.mk (IsS213.below (qz289 HI0.out NB0_101.out) hb); have n3_ := Aside0.mk (blk_below (g := gb101) (o := .cells #[.int .i64 0, .slice none 0 0] 47 (0, 0)) (qz8 BK101.out) hb); have n4_ := Aside0.mk (KeepBut.trans (qz417 GW101.out) (KeepBut.of_below hb g none) (.inl rfl)); have n5_ := Aside0.mk (below_step (qz290 HI0.out GE101.out) hb); clear HO104; clear HI0; clear BK101; clear HK; clear HB; have HO104 := n0_; have HO107 := n1_; have HI0 := n2_; have BK101 := n3_; have HK := n4_; have HB := n5_; clear n0_ n1_ n2_ n3_ n4_ n5_; clear hb ho11) | ((with_reducible refine gate_dst (N := 13) rfl ?_); refine Kd.R_lit k151 _ 151 ?hg (N := 13) ?hd (xs := ([(⟨0, 1⟩ : S151), (⟨1, 2⟩ : S151)] : List (S151))) (inner := [.int .i64 0, .int .i64 1, .int .i64 1, .int .i64 2]) (ok := fun _ => True) (okp := fun _ => True) ?hr ?hp (fun _ hk => hk) trivial (Below.refl _ _) (Nat.le_refl _) (by simp) ?_; (case hd => rfl); (case hg => rfl); (case hr => exact qz5); (case hp => exact (Reps.c2 (show Kd.M k151 _ _ _ (⟨0, 1⟩ : S151) [.int .i64 0, .int .i64 1] from (k151_mkM _ _ _ (⟨0, 1⟩ : S151) )) (Reps.c2 (show Kd.M k151 _ _ _ (⟨1, 2⟩ : S151) [.int .i64 1, .int .i64 2] from (k151_mkM _ _ _ (⟨1, 2⟩ : S151) )) (Reps.none _ _)))); intro v109 w12 ho13 hb hg_ hnew_; clear hg_ hnew_; (first | rw [← Ny108.out] at ho13 | (simp only [Int.reduceToNat] at ho13; rw [← Ny108.out] at ho13)); have n0_ := Aside0.mk (Kd.R_elder' (qz21 HO104.out) (Kd.R_base ho13) hb); have n1_ := Aside0.mk (Kd.R_elder' (qz21 HO107.out) (Kd.R_base ho13) hb); have n2_ := Aside0.mk (Kd.R_lower (Kd.R_new' (Kd.R_new' ho13 (Kd.R_lt (qz21 HO104.out))) (Kd.R_lt (qz21 HO107.out))) (keep_size (w := w) (g := g) (row := none) (qz417 GW101.out))); have n3_ := Aside0.mk (IsS213.below (qz289 HI0.out NB0_101.out) hb); have n4_ := Aside0.mk (blk_below (g := gb101) (o := .cells #[.int .i64 0, .slice none 0 0] 47 (0, 0)) (qz8 BK101.out) hb); have n5_ := Aside0.mk (KeepBut.trans (qz417 GW101.out) (KeepBut.of_below hb g none) (.inl rfl)); have n6_ := Aside0.mk (below_step (qz290 HI0.out GE101.out) hb); clear HO104; clear HO107; clear HI0; clear BK101; clear HK; clear HB; have HO104 := n0_; have HO107 := n1_; have HO110 := n2_; have HI0 := n3_; have BK101 := n4_; have HK := n5_; have HB := n6_; clear n0_ n1_ n2_ n3_ n4_ n5_ n6_; clear hb ho13) | ((with_reducible refine gate_dst (N := 18) rfl ?_); refine Kd.R_lit k151 _ 151 ?hg (N := 18) ?hd (xs := ([(⟨0, 1⟩ : S151), (⟨0, 2⟩ : S151), (⟨1, 3⟩ : S151), (⟨2, 3⟩ : S151)] : List (S151))) (inner := [.int .i64 0, .int .i64 1, .int .i64 0, .int .i64 2, .int .i64 1, .int .i64 3, .int .i64 2, .int .i64 3]) (ok := fun _ => True) (okp := fun _ => True) ?hr ?hp (fun _ hk => hk) trivial (Below.refl _ _) (Nat.le_refl _) (by simp) ?_; (case hd => rfl); (case hg => rfl); (case hr => exact qz5); (case hp => exact (Reps.c2 (show Kd.M k151 _ _ _ (⟨0, 1⟩ : S151) [.int .i64 0, .int .i64 1] from (k151_mkM _ _ _ (⟨0, 1⟩ : S151) )) (Reps.c2 (show Kd.M k151 _ _ _ (⟨0, 2⟩ : S151) [.int .i64 0, .int .i64 2] from (k151_mkM _ _ _ (⟨0, 2⟩ : S151) )) (Reps.c2 (show Kd.M k151 _ _ _ (⟨1, 3⟩ : S151) [.int .i64 1, .int .i64 3] from (k151_mkM _ _ _ (⟨1, 3⟩ : S151) )) (Reps.c2 (show Kd.M k151 _ _ _ (⟨2, 3⟩ : S151) [.int .i64 2, .int .i64 3] from (k151_mkM _ _ _ (⟨2, 3⟩ : S151) )) (Reps.none _ _)))))); intro v112 w14 ho15 hb hg_ hnew_; clear hg_ hnew_; (first | rw [← Ny111.out] at ho15 | (simp only [Int.reduceToNat] at ho15; rw [← Ny111.out] at ho15)); have n0_ := Aside0.mk (Kd.R_elder' (qz21 HO104.out) (Kd.R_base ho15) hb); have n1_ := Aside0.mk (Kd.R_elder' (qz21 HO107.out) (Kd.R_base ho15) hb); have n2_ := Aside0.mk (Kd.R_elder' (qz21 HO110.out) (Kd.R_base ho15) hb); have n3_ := Aside0.mk (Kd.R_lower (Kd.R_new' (Kd.R_new' (Kd.R_new' ho15 (Kd.R_lt (qz21 HO104.out))) (Kd.R_lt (qz21 HO107.out))) (Kd.R_lt (qz21 HO110.out))) (keep_size (w := w) (g := g) (row := none) (qz417 GW101.out))); have n4_ := Aside0.mk (IsS213.below (qz289 HI0.out NB0_101.out) hb); have n5_ := Aside0.mk (blk_below (g := gb101) (o := .cells #[.int .i64 0, .slice none 0 0] 47 (0, 0)) (qz8 BK101.out) hb); have n6_ := Aside0.mk (KeepBut.trans (qz417 GW101.out) (KeepBut.of_below hb g none) (.inl rfl)); have n7_ := Aside0.mk (below_step (qz290 HI0.out GE101.out) hb); clear HO104; clear HO107; clear HO110; clear HI0; clear BK101; clear HK; clear HB; have HO104 := n0_; have HO107 := n1_; have HO110 := n2_; have HO113 := n3_; have HI0 := n4_; have BK101 := n5_; have HK := n6_; have HB := n7_; clear n0_ n1_ n2_ n3_ n4_ n5_ n6_ n7_; clear hb ho15) | ((with_reducible refine gate_dst (N := 25) rfl ?_); refine Kd.R_lit k151 _ 151 ?hg (N := 25) ?hd (xs := ([(⟨4, 0⟩ : S151), (⟨4, 1⟩ : S151), (⟨4, 2⟩ : S151), (⟨0, 3⟩ : S151), (⟨1, 3⟩ : S151), (⟨2, 3⟩ : S151)] : List (S151))) (inner := [.int .i64 4, .int .i64 0, .int .i64 4, .int .i64 1, .int .i64 4, .int .i64 2, .int .i64 0, .int .i64 3, .int .i64 1, .int .i64 3, .int .i64 2, .int .i64 3]) (ok := fun _ => True) (okp := fun _ => True) ?hr ?hp (fun _ hk => hk) trivial (Below.refl _ _) (Nat.le_refl _) (by simp) ?_; (case hd => rfl); (case hg => rfl); (case hr => exact qz5); (case hp => exact (Reps.c2 (show Kd.M k151 _ _ _ (⟨4, 0⟩ : S151) [.int .i64 4, .int .i64 0] from (k151_mkM _ _ _ (⟨4, 0⟩ : S151) )) (Reps.c2 (show Kd.M k151 _ _ _ (⟨4, 1⟩ : S151) [.int .i64 4, .int .i64 1] from (k151_mkM _ _ _ (⟨4, 1⟩ : S151) )) (Reps.c2 (show Kd.M k151 _ _ _ (⟨4, 2⟩ : S151) [.int .i64 4, .int .i64 2] from (k151_mkM _ _ _ (⟨4, 2⟩ : S151) )) (Reps.c2 (show Kd.M k151 _ _ _ (⟨0, 3⟩ : S151) [.int .i64 0, .int .i64 3] from (k151_mkM _ _ _ (⟨0, 3⟩ : S151) )) (Reps.c2 (show Kd.M k151 _ _ _ (⟨1, 3⟩ : S151) [.int .i64 1, .int .i64 3] from (k151_mkM _ _ _ (⟨1, 3⟩ : S151) )) (Reps.c2 (show Kd.M k151 _ _ _ (⟨2, 3⟩ : S151) [.int .i64 2, .int .i64 3] from (k151_mkM _ _ _ (⟨2, 3⟩ : S151) )) (Reps.none _ _)))))))); intro v115 w16 ho17 hb hg_ hnew_; clear hg_ hnew_; (first | rw [← Ny114.out] at ho17 | (simp only [Int.reduceToNat] at ho17; rw [← Ny114.out] at ho17)); have n0_ := Aside0.mk (Kd.R_elder' (qz21 HO104.out) (Kd.R_base ho17) hb); have n1_ := Aside0.mk (Kd.R_elder' (qz21 HO107.out) (Kd.R_base ho17) hb); have n2_ := Aside0.mk (Kd.R_elder' (qz21 HO110.out) (Kd.R_base ho17) hb); have n3_ := Aside0.mk (Kd.R_elder' (qz21 HO113.out) (Kd.R_base ho17) hb); have n4_ := Aside0.mk (Kd.R_lower (Kd.R_new' (Kd.R_new' (Kd.R_new' (Kd.R_new' ho17 (Kd.R_lt (qz21 HO104.out))) (Kd.R_lt (qz21 HO107.out))) (Kd.R_lt (qz21 HO110.out))) (Kd.R_lt (qz21 HO113.out))) (keep_size (w := w) (g := g) (row := none) (qz417 GW101.out))); have n5_ := Aside0.mk (IsS213.below (qz289 HI0.out NB0_101.out) hb); have n6_ := Aside0.mk (blk_below (g := gb101) (o := .cells #[.int .i64 0, .slice none 0 0] 47 (0, 0)) (qz8 BK101.out) hb); have n7_ := Aside0.mk (KeepBut.trans (qz417 GW101.out) (KeepBut.of_below hb g none) (.inl rfl)); have n8_ := Aside0.mk (below_step (qz290 HI0.out GE101.out) hb); clear HO104; clear HO107; clear HO110; clear HO113; clear HI0; clear BK101; clear HK; clear HB; have HO104 := n0_; have HO107 := n1_; have HO110 := n2_; have HO113 := n3_; have HO116 := n4_; have HI0 := n5_; have BK101 := n6_; have HK := n7_; have HB := n8_; clear n0_ n1_ n2_ n3_ n4_ n5_ n6_ n7_ n8_; clear hb ho17) | ((with_reducible refine gate_dst (N := 38) rfl ?_); refine Kd.R_lit k151 _ 151 ?hg (N := 38) ?hd (xs := ([(⟨0, 1⟩ : S151), (⟨0, 2⟩ : S151), (⟨0, 3⟩ : S151), (⟨1, 4⟩ : S151), (⟨2, 4⟩ : S151), (⟨1, 5⟩ : S151), (⟨3, 5⟩ : S151), (⟨2, 6⟩ : S151), (⟨3, 6⟩ : S151), (⟨4, 7⟩ : S151), (⟨5, 7⟩ : S151), (⟨6, 7⟩ : S151)] : List (S151))) (inner := [.int .i64 0, .int .i64 1, .int .i64 0, .int .i64 2, .int .i64 0, .int .i64 3, .int .i64 1, .int .i64 4, .int .i64 2, .int .i64 4, .int .i64 1, .int .i64 5, .int .i64 3, .int .i64 5, .int .i64 2, .int .i64 6, .int .i64 3, .int .i64 6, .int .i64 4, .int .i64 7, .int .i64 5, .int .i64 7, .int .i64 6, .int .i64 7]) (ok := fun _ => True) (okp := fun _ => True) ?hr ?hp (fun _ hk => hk) trivial (Below.refl _ _) (Nat.le_refl _) (by simp) ?_; (case hd => rfl); (case hg => rfl); (case hr => exact qz5); (case hp => exact (Reps.c2 (show Kd.M k151 _ _ _ (⟨0, 1⟩ : S151) [.int .i64 0, .int .i64 1] from (k151_mkM _ _ _ (⟨0, 1⟩ : S151) )) (Reps.c2 (show Kd.M k151 _ _ _ (⟨0, 2⟩ : S151) [.int .i64 0, .int .i64 2] from (k151_mkM _ _ _ (⟨0, 2⟩ : S151) )) (Reps.c2 (show Kd.M k151 _ _ _ (⟨0, 3⟩ : S151) [.int .i64 0, .int .i64 3] from (k151_mkM _ _ _ (⟨0, 3⟩ : S151) )) (Reps.c2 (show Kd.M k151 _ _ _ (⟨1, 4⟩ : S151) [.int .i64 1, .int .i64 4] from (k151_mkM _ _ _ (⟨1, 4⟩ : S151) )) (Reps.c2 (show Kd.M k151 _ _ _ (⟨2, 4⟩ : S151) [.int .i64 2, .int .i64 4] from (k151_mkM _ _ _ (⟨2, 4⟩ : S151) )) (Reps.c2 (show Kd.M k151 _ _ _ (⟨1, 5⟩ : S151) [.int .i64 1, .int .i64 5] from (k151_mkM _ _ _ (⟨1, 5⟩ : S151) )) (Reps.c2 (show Kd.M k151 _ _ _ (⟨3, 5⟩ : S151) [.int .i64 3, .int .i64 5] from (k151_mkM _ _ _ (⟨3, 5⟩ : S151) )) (Reps.c2 (show Kd.M k151 _ _ _ (⟨2, 6⟩ : S151) [.int .i64 2, .int .i64 6] from (k151_mkM _ _ _ (⟨2, 6⟩ : S151) )) (Reps.c2 (show Kd.M k151 _ _ _ (⟨3, 6⟩ : S151) [.int .i64 3, .int .i64 6] from (k151_mkM _ _ _ (⟨3, 6⟩ : S151) )) (Reps.c2 (show Kd.M k151 _ _ _ (⟨4, 7⟩ : S151) [.int .i64 4, .int .i64 7] from (k151_mkM _ _ _ (⟨4, 7⟩ : S151) )) (Reps.c2 (show Kd.M k151 _ _ _ (⟨5, 7⟩ : S151) [.int .i64 5, .int .i64 7] from (k151_mkM _ _ _ (⟨5, 7⟩ : S151) )) (Reps.c2 (show Kd.M k151 _ _ _ (⟨6, 7⟩ : S151) [.int .i64 6, .int .i64 7] from (k151_mkM _ _ _ (⟨6, 7⟩ : S151) )) (Reps.none _ _)))))))))))))); intro v118 w18 ho19 hb hg_ hnew_; clear hg_ hnew_; (first | rw [← Ny117.out] at ho19 | (simp only [Int.reduceToNat] at ho19; rw [← Ny117.out] at ho19)); have n0_ := Aside0.mk (Kd.R_elder' (qz21 HO104.out) (Kd.R_base ho19) hb); have n1_ := Aside0.mk (Kd.R_elder' (qz21 HO107.out) (Kd.R_base ho19) hb); have n2_ := Aside0.mk (Kd.R_elder' (qz21 HO110.out) (Kd.R_base ho19) hb); have n3_ := Aside0.mk (Kd.R_elder' (qz21 HO113.out) (Kd.R_base ho19) hb); have n4_ := Aside0.mk (Kd.R_elder' (qz21 HO116.out) (Kd.R_base ho19) hb); have n5_ := Aside0.mk (Kd.R_lower (Kd.R_new' (Kd.R_new' (Kd.R_new' (Kd.R_new' (Kd.R_new' ho19 (Kd.R_lt (qz21 HO104.out))) (Kd.R_lt (qz21 HO107.out))) (Kd.R_lt (qz21 HO110.out))) (Kd.R_lt (qz21 HO113.out))) (Kd.R_lt (qz21 HO116.out))) (keep_size (w := w) (g := g) (row := none) (qz417 GW101.out))); have n6_ := Aside0.mk (IsS213.below (qz289 HI0.out NB0_101.out) hb); have n7_ := Aside0.mk (blk_below (g := gb101) (o := .cells #[.int .i64 0, .slice none 0 0] 47 (0, 0)) (qz8 BK101.out) hb); have n8_ := Aside0.mk (KeepBut.trans (qz417 GW101.out) (KeepBut.of_below hb g none) (.inl rfl)); have n9_ := Aside0.mk (below_step (qz290 HI0.out GE101.out) hb); clear HO104; clear HO107; clear HO110; clear HO113; clear HO116; clear HI0; clear BK101; clear HK; clear HB; have HO104 := n0_; have HO107 := n1_; have HO110 := n2_; have HO113 := n3_; have HO116 := n4_; have HO119 := n5_; have HI0 := n6_; have BK101 := n7_; have HK := n8_; have HB := n9_; clear n0_ n1_ n2_ n3_ n4_ n5_ n6_ n7_ n8_ n9_; clear hb ho19; obtain ⟨Ao20, co20, eo20⟩ := Kd.R_slice HO104.out; subst eo20; obtain ⟨Ao21, co21, eo21⟩ := Kd.R_slice HO107.out; subst eo21; obtain ⟨Ao22, co22, eo22⟩ := Kd.R_slice HO110.out; subst eo22; obtain ⟨Ao23, co23, eo23⟩ := Kd.R_slice HO113.out; subst eo23; obtain ⟨Ao24, co24, eo24⟩ := Kd.R_slice HO116.out; subst eo24; obtain ⟨Ao25, co25, eo25⟩ := Kd.R_slice HO119.out; subst eo25) | ((with_reducible refine gate_dst (N := 39) rfl ?_); refine Kd.N_lit (Kd.slice 151 k151) _ 49 ?hg (N' := 39) ?hd (xs := ([y102, y105, y108, y111, y114, y117] : List (List (S151)))) (inner := [.slice Ao20 y102.length co20, .slice Ao21 y105.length co21, .slice Ao22 y108.length co22, .slice Ao23 y111.length co23, .slice Ao24 y114.length co24, .slice Ao25 y117.length co25]) (ok := (fun k_ => k_ ≠ gb101 ∧ k_ ≠ g)) (okp := (fun k_ => k_ ≠ gb101 ∧ k_ ≠ g)) ?hr ?hp (fun _ hk => hk) ((show ∀ k_, w18.heap.size ≤ k_ → (fun k_ => k_ ≠ gb101 ∧ k_ ≠ g) k_ from fun k_ hk => ⟨Kd.freshB (g := gb101) (o := .cells #[.int .i64 0, .slice none 0 0] 47 (0, 0)) (qz8 BK101.out) k_ hk, IsS213.fresh (qz289 HI0.out NB0_101.out) k_ hk⟩) _ (Nat.le_refl _)) (Below.refl _ _) (Nat.le_refl _) (by simp) ?_; (case hd => rfl); (case hg => rfl); (case hr => exact qz5); (case hp => exact (Reps.one (show Kd.FK (Kd.slice 151 k151) _ _ y102 [.slice Ao20 y102.length co20] from (Kd.FK_slice_mk (Kd.R_reads' (Kd.R_mono (ok' := (fun k_ => k_ ≠ gb101 ∧ k_ ≠ g)) (IsS213.apart HI0.out (Kd.R_types (HO104.out) BK101.out (by decide)) (by decide)) (fun k_ hk => ⟨hk.1.2, hk.2⟩))).2.1 (Kd.R_F (Kd.R_mono (ok' := (fun k_ => k_ ≠ gb101 ∧ k_ ≠ g)) (IsS213.apart HI0.out (Kd.R_types (HO104.out) BK101.out (by decide)) (by decide)) (fun k_ hk => ⟨hk.1.2, hk.2⟩))))) (Reps.one (show Kd.FK (Kd.slice 151 k151) _ _ y105 [.slice Ao21 y105.length co21] from (Kd.FK_slice_mk (Kd.R_reads' (Kd.R_mono (ok' := (fun k_ => k_ ≠ gb101 ∧ k_ ≠ g)) (IsS213.apart HI0.out (Kd.R_types (HO107.out) BK101.out (by decide)) (by decide)) (fun k_ hk => ⟨hk.1.2, hk.2⟩))).2.1 (Kd.R_F (Kd.R_mono (ok' := (fun k_ => k_ ≠ gb101 ∧ k_ ≠ g)) (IsS213.apart HI0.out (Kd.R_types (HO107.out) BK101.out (by decide)) (by decide)) (fun k_ hk => ⟨hk.1.2, hk.2⟩))))) (Reps.one (show Kd.FK (Kd.slice 151 k151) _ _ y108 [.slice Ao22 y108.length co22] from (Kd.FK_slice_mk (Kd.R_reads' (Kd.R_mono (ok' := (fun k_ => k_ ≠ gb101 ∧ k_ ≠ g)) (IsS213.apart HI0.out (Kd.R_types (HO110.out) BK101.out (by decide)) (by decide)) (fun k_ hk => ⟨hk.1.2, hk.2⟩))).2.1 (Kd.R_F (Kd.R_mono (ok' := (fun k_ => k_ ≠ gb101 ∧ k_ ≠ g)) (IsS213.apart HI0.out (Kd.R_types (HO110.out) BK101.out (by decide)) (by decide)) (fun k_ hk => ⟨hk.1.2, hk.2⟩))))) (Reps.one (show Kd.FK (Kd.slice 151 k151) _ _ y111 [.slice Ao23 y111.length co23] from (Kd.FK_slice_mk (Kd.R_reads' (Kd.R_mono (ok' := (fun k_ => k_ ≠ gb101 ∧ k_ ≠ g)) (IsS213.apart HI0.out (Kd.R_types (HO113.out) BK101.out (by decide)) (by decide)) (fun k_ hk => ⟨hk.1.2, hk.2⟩))).2.1 (Kd.R_F (Kd.R_mono (ok' := (fun k_ => k_ ≠ gb101 ∧ k_ ≠ g)) (IsS213.apart HI0.out (Kd.R_types (HO113.out) BK101.out (by decide)) (by decide)) (fun k_ hk => ⟨hk.1.2, hk.2⟩))))) (Reps.one (show Kd.FK (Kd.slice 151 k151) _ _ y114 [.slice Ao24 y114.length co24] from (Kd.FK_slice_mk (Kd.R_reads' (Kd.R_mono (ok' := (fun k_ => k_ ≠ gb101 ∧ k_ ≠ g)) (IsS213.apart HI0.out (Kd.R_types (HO116.out) BK101.out (by decide)) (by decide)) (fun k_ hk => ⟨hk.1.2, hk.2⟩))).2.1 (Kd.R_F (Kd.R_mono (ok' := (fun k_ => k_ ≠ gb101 ∧ k_ ≠ g)) (IsS213.apart HI0.out (Kd.R_types (HO116.out) BK101.out (by decide)) (by decide)) (fun k_ hk => ⟨hk.1.2, hk.2⟩))))) (Reps.one (show Kd.FK (Kd.slice 151 k151) _ _ y117 [.slice Ao25 y117.length co25] from (Kd.FK_slice_mk (Kd.R_reads' (Kd.R_mono (ok' := (fun k_ => k_ ≠ gb101 ∧ k_ ≠ g)) (IsS213.apart HI0.out (Kd.R_types (HO119.out) BK101.out (by decide)) (by decide)) (fun k_ hk => ⟨hk.1.2, hk.2⟩))).2.1 (Kd.R_F (Kd.R_mono (ok' := (fun k_ => k_ ≠ gb101 ∧ k_ ≠ g)) (IsS213.apart HI0.out (Kd.R_types (HO119.out) BK101.out (by decide)) (by decide)) (fun k_ hk => ⟨hk.1.2, hk.2⟩))))) (Reps.none _ _)))))))); intro v121 w26 ho27 hb hg_ hnew_; clear hg_ hnew_; (first | rw [← Ny120.out] at ho27 | (simp only [Int.reduceToNat] at ho27; rw [← Ny120.out] at ho27)); have n0_ := Aside0.mk (Kd.N_lower ho27 (keep_size (w := w) (g := g) (row := none) (qz417 GW101.out))); have n1_ := Aside0.mk (IsS213.below (qz289 HI0.out NB0_101.out) hb); have n2_ := Aside0.mk (blk_below (g := gb101) (o := .cells #[.int .i64 0, .slice none 0 0] 47 (0, 0)) (qz8 BK101.out) hb); have n3_ := Aside0.mk (KeepBut.trans (qz417 GW101.out) (KeepBut.of_below hb g none) (.inl rfl)); have n4_ := Aside0.mk (below_step (qz290 HI0.out GE101.out) hb); clear HI0; clear BK101; clear HK; clear HB; clear HO104; clear HO107; clear HO110; clear HO113; clear HO116; clear HO119; have HO122 := n0_; have HI0 := n1_; have BK101 := n2_; have HK := n3_; have HB := n4_; clear n0_ n1_ n2_ n3_ n4_; clear hb ho27) | ((with_reducible refine gate_dst (N := 40) rfl ?_); refine Kd.R_lit (Kd.int .i64) _ 3 ?hg (N := 40) ?hd (xs := ([1, 2, 3, 4, 5, 8] : List Int)) (inner := [.int .i64 1, .int .i64 2, .int .i64 3, .int .i64 4, .int .i64 5, .int .i64 8]) (ok := fun _ => True) (okp := fun _ => True) ?hr ?hp (fun _ hk => hk) trivial (Below.refl _ _) (Nat.le_refl _) (by simp) ?_; (case hd => rfl); (case hg => rfl); (case hr => exact qz5); (case hp => exact (Reps.one (show Kd.M (Kd.int .i64) _ _ _ 1 [.int .i64 1] from rfl) (Reps.one (show Kd.M (Kd.int .i64) _ _ _ 2 [.int .i64 2] from rfl) (Reps.one (show Kd.M (Kd.int .i64) _ _ _ 3 [.int .i64 3] from rfl) (Reps.one (show Kd.M (Kd.int .i64) _ _ _ 4 [.int .i64 4] from rfl) (Reps.one (show Kd.M (Kd.int .i64) _ _ _ 5 [.int .i64 5] from rfl) (Reps.one (show Kd.M (Kd.int .i64) _ _ _ 8 [.int .i64 8] from rfl) (Reps.none _ _)))))))); intro v124 w28 ho29 hb hg_ hnew_; clear hg_ hnew_; (first | rw [← Ny123.out] at ho29 | (simp only [Int.reduceToNat] at ho29; rw [← Ny123.out] at ho29)); have n0_ := Aside0.mk (Kd.N_elder' (qz247 HO122.out) (Kd.R_base ho29) hb); have n1_ := Aside0.mk (Kd.R_lower ho29 (keep_size (w := w) (g := g) (row := none) (qz417 GW101.out))); have n2_ := Aside0.mk (IsS213.below (qz289 HI0.out NB0_101.out) hb); have n3_ := Aside0.mk (blk_below (g := gb101) (o := .cells #[.int .i64 0, .slice none 0 0] 47 (0, 0)) (qz8 BK101.out) hb); have n4_ := Aside0.mk (KeepBut.trans (qz417 GW101.out) (KeepBut.of_below hb g none) (.inl rfl)); have n5_ := Aside0.mk (below_step (qz290 HI0.out GE101.out) hb); clear HO122; clear HI0; clear BK101; clear HK; clear HB; have HO122 := n0_; have HO125 := n1_; have HI0 := n2_; have BK101 := n3_; have HK := n4_; have HB := n5_; clear n0_ n1_ n2_ n3_ n4_ n5_; clear hb ho29) | ((with_reducible refine gate_callee (f := 134) rfl ?_); refine goesL_ (some 42) rfl rfl Try.func134 (by kernel_rfl) rfl #[.pointer (some ⟨g, 0, none⟩), .int .i64 6] rfl qz1 ?_; (with_reducible refine (spec_l01Cur_pick.calls g s0_0 s0_1 s0_2 6 t126 t127 t128 w0 _ ?side1 ?side2 A2.out).mono ?_); (case side1 => exact qz289 HI0.out NB0_101.out); (case side2 => exact qz290 HI0.out GE101.out); rintro e w30 ⟨rfl, hi, hb, hk⟩; refine ⟨_, rfl, ?_⟩; have n0_ := Aside0.mk (KeepBut.blk hk (g' := gb101) (o := .cells #[.int .i64 0, .slice none 0 0] 47 (0, 0)) (qz8 BK101.out) NB101_0.out (by simp)); have n1_ := Aside0.mk (Kd.N_mono (Kd.N_keep (Kd.N_mono (ok := fun k_ => ((k_ ≠ gb101 ∧ k_ ≠ g) ∧ some k_ ≠ (v124 : Value).ownBlock)) (qz247 HO122.out) (fun k_ hk_ => (⟨hk_, hk_.1.2⟩ : _ ∧ k_ ≠ g))) hk (fun _ h => h.2)) (fun _ h => h.1)); have n2_ := Aside0.mk (Kd.R_mono (Kd.R_keep (IsS213.apart (show IsS213 w0 _ g s0_0 s0_1 s0_2 from by repeat (first | (with_reducible first | exact HI0.out | apply IsS213.alloc | apply IsS213.drewN | apply IsS213.drew | apply IsS213.set_1 | apply IsS213.set_2 | refine IsS213.far ?_ NB0_101.out _) | exact HI0.out)) (qz21 HO125.out) (by decide)) hk (fun _ h => h.2)) (fun _ h => h.1)); have n3_ := Aside0.mk (KeepBut.trans (qz417 GW101.out) hk (.inl rfl)); have n4_ := Aside0.mk (hb); have n5_ := Aside0.mk (hi); clear BK101; clear HO122; clear HO125; clear HK; clear HB; clear HI0; have BK101 := n0_; have HO122 := n1_; have HO125 := n2_; have HK := n3_; have HB := n4_; have HI0 := n5_; clear n0_ n1_ n2_ n3_ n4_ n5_; (try clear hb); (try clear hb2); (try clear hk); (try clear hi)))
    have n0_ := Aside0.mk (Kd.N_drew HO122.out)
    have n1_ := Aside0.mk (Kd.R_drew HO125.out)
    have n2_ := Aside0.mk (blk_drew BK101.out)
    have n3_ := Aside0.mk (IsS213.drew HI0.out)
    have n4_ := Aside0.mk (keep_drew HK.out)
    have n5_ := Aside0.mk (below_drew1 HB.out)
    clear HO122
    clear HO125
    clear BK101
    clear HI0
    clear HK
    clear HB
    have HO122 := n0_
    have HO125 := n1_
    have BK101 := n2_
    have HI0 := n3_
    have HK := n4_
    have HB := n5_
    clear n0_ n1_ n2_ n3_ n4_ n5_
    obtain ⟨Ao32, co32, eo32⟩ := Kd.R_slice HO125.out
    (first | subst eo32 | (injection eo32 with f1_ f2_ f3_; have f4_ := f1_.symm; have f5_ := f3_.symm; clear f1_ f2_ f3_; subst f4_; subst f5_))
    have p129 : 0 ≤ (t126 : Int) := of_decide_eq_true qz4
    have q129 : t126 < (y123.length : Int) := of_decide_eq_true qz4
    obtain ⟨ad129, e129, hx129_0⟩ := Kd.at_int (Kd.R_reads' HO125.out).2.2 t126 p129 q129
    cases e129
    replace p129 := eq_true p129
    replace q129 := eq_true q129
    obtain ⟨Ao33, co33, eo33⟩ := Kd.N_slice HO122.out
    (first | subst eo33 | (injection eo33 with f1_ f2_ f3_; have f4_ := f1_.symm; have f5_ := f3_.symm; clear f1_ f2_ f3_; subst f4_; subst f5_))
    have p130 : 0 ≤ (t126 : Int) := of_decide_eq_true qz4
    have q130 : t126 < (y120.length : Int) := of_decide_eq_true qz4
    obtain ⟨ad130, A130_0, c130_0, e130, hx130_0, hl130_0, hi130_0⟩ := at_L18 (Kd.N_reads' HO122.out).2.2 t126 p130 q130
    cases e130
    obtain ⟨ce130, hce130, hMe130, hcc130⟩ := Kd.N_get HO122.out [] t126 p130 (by first | exact q130 | exact of_decide_eq_true qz4 | (have e_ := (Kd.N_reads' HO122.out).1; omega))
    obtain ⟨ua130_0, uc130_0, rfl, ul130_0, ge130_0⟩ := Kd.FK_slice_open hMe130
    have hv130_0 := hcc130 0 _ rfl
    rw [Nat.add_zero, show ((Kd.slice 151 k151)).sz = 1 from rfl, Nat.mul_one] at hv130_0
    replace hv130_0 := Option.some.inj (hv130_0.symm.trans hx130_0)
    injection hv130_0 with hva_ hvn_ hvc_
    rw [hva_] at ge130_0
    rw [hvc_] at ul130_0
    have HL130_0 := Aside0.mk (show Kd.V k151 151 _ w.heap.size _ _ (rd_L18 y120 t126) from Kd.V_mk ul130_0 ge130_0)
    clear hva_ hvn_ hvc_ ge130_0 ul130_0
    clear hcc130 hce130
    have HR130_0 := Aside0.mk hi130_0
    have HC130_0 := Aside0.mk hl130_0
    clear hi130_0 hl130_0
    replace p130 := eq_true p130
    replace q130 := eq_true q130
    refine start_ (n := 15) (S := fun w' => w'.cell? (ad129.add (t126).toNat) = some (.int .i64 (rd y123 t126)) ∧ w'.cell? (ad130.add (t126).toNat) = some (.slice A130_0 (rd_L18 y120 t126).length c130_0)) (ds := []) #[false, false, false, false, false, false, false, false, false, false, false, false, false, false, false] (by kernel_rfl) rfl rfl ⟨hx129_0, hx130_0⟩ (fun hHeld => ?_); refine with_tabW spec_l01Cur_lat.tab4 spec_l01Cur_lat.bits4 (fun HT_ HW_ => ?_)
    generalize w30.drew = w31 at HO122 HO125 BK101 HI0 HK HB HL130_0 HR130_0 hx129_0 hx130_0 hHeld ⊢
    refine pure_ (i := 0) (N := some 44) (v := ?_) (a' := ?_) #[true, false, false, false, false, false, false, false, false, false, false, false, false, false, false] rfl rfl (any_of HT_.out (by kernel_rfl)) (fun _ _ _ h => h) (Or.inl ⟨by rfl, ?_⟩) ?_ ?_
    rotate_left
    ·intro w'
     go_simp
     with_reducible rfl
    rotate_left
    ·simp only [Act.put, List.setIfInBounds_toArray, List.set_cons_zero, List.set_cons_succ, i64_w, i32_w]
     rfl
    refine pure_ (i := 1) (N := some 45) (v := ?_) (a' := ?_) #[true, true, false, false, false, false, false, false, false, false, false, false, false, false, false] rfl rfl (any_of HT_.out (by kernel_rfl)) (fun _ _ _ h => h) (Or.inl ⟨by rfl, ?_⟩) ?_ ?_
    rotate_left
    ·intro w'
     go_simp
     with_reducible rfl
    rotate_left
    ·simp only [Act.put, List.setIfInBounds_toArray, List.set_cons_zero, List.set_cons_succ, i64_w, i32_w]
     rfl
    refine pure_ (i := 2) (N := some 46) (v := ?_) (a' := ?_) #[true, true, true, false, false, false, false, false, false, false, false, false, false, false, false] rfl rfl (any_of HT_.out (by kernel_rfl)) (fun _ _ _ h => h) (Or.inl ⟨by rfl, ?_⟩) ?_ ?_
    rotate_left
    ·intro w'
     go_simp
     with_reducible rfl
    rotate_left
    ·simp only [Act.put, List.setIfInBounds_toArray, List.set_cons_zero, List.set_cons_succ, i64_w, i32_w]
     rfl
    refine pure_ (i := 4) (N := some 48) (v := ?_) (a' := ?_) #[true, true, true, false, true, false, false, false, false, false, false, false, false, false, false] rfl rfl (any_of HT_.out (by kernel_rfl)) (fun _ _ _ h => h) (Or.inl ⟨by rfl, ?_⟩) ?_ ?_
    rotate_left
    ·intro w'
     go_simp
     with_reducible rfl
    rotate_left
    ·simp only [Act.put, List.setIfInBounds_toArray, List.set_cons_zero, List.set_cons_succ, i64_w, i32_w]
     rfl
    refine pure_ (i := 5) (N := some 49) (v := ?_) (a' := ?_) #[true, true, true, false, true, true, false, false, false, false, false, false, false, false, false] rfl rfl (any_of HT_.out (by kernel_rfl)) (fun _ _ _ h => h) (Or.inl ⟨by rfl, ?_⟩) ?_ ?_
    rotate_left
    ·intro w'
     go_simp
     with_reducible rfl
    rotate_left
    ·simp only [Act.put, List.setIfInBounds_toArray, List.set_cons_zero, List.set_cons_succ, i64_w, i32_w]
     rfl
    refine pure_ (i := 6) (N := some 50) (v := ?_) (a' := ?_) #[true, true, true, false, true, true, true, false, false, false, false, false, false, false, false] rfl rfl (any_of HT_.out (by kernel_rfl)) (fun _ _ _ h => h) (Or.inl ⟨by rfl, ?_⟩) ?_ ?_
    rotate_left
    ·intro w'
     go_simp
     with_reducible rfl
    rotate_left
    ·simp only [Act.put, List.setIfInBounds_toArray, List.set_cons_zero, List.set_cons_succ, i64_w, i32_w]
     rfl
    refine take_ (i := 3) (N := some 47) (v := ?_) (a' := ?_) #[true, true, true, true, true, true, true, false, false, false, false, false, false, false, false] rfl rfl (take_ofW HT_.out HW_.out (by kernel_rfl)) (fun _ _ _ h => h) (Or.inl ⟨by rfl, ?_⟩) hHeld ?_ ?_
    rotate_left
    ·rintro w' ⟨s0, s1⟩
     go_simp
     with_reducible rfl
    rotate_left
    ·simp only [Act.put, List.setIfInBounds_toArray, List.set_cons_zero, List.set_cons_succ, i64_w, i32_w]
     rfl
    refine take_ (i := 7) (N := some 51) (v := ?_) (a' := ?_) #[true, true, true, true, true, true, true, true, false, false, false, false, false, false, false] rfl rfl (take_ofW HT_.out HW_.out (by kernel_rfl)) (fun _ _ _ h => h) (Or.inl ⟨by rfl, ?_⟩) hHeld ?_ ?_
    rotate_left
    ·rintro w' ⟨s0, s1⟩
     go_simp
     with_reducible rfl
    rotate_left
    ·simp only [Act.put, List.setIfInBounds_toArray, List.set_cons_zero, List.set_cons_succ, i64_w, i32_w]
     rfl
    refine join_ (σ := Value × Nat) 2 #[true, true, true, true, true, true, true, true, true, true, true, true, true, false, false] (fun s_ => [(52, .tuple #[.agg #[.int .i64 t131, s_.1], .bool t135]), (6, .pointer (some ⟨s_.2, 0, none⟩)), (43, .tuple #[.agg #[.int .i64 t131, s_.1], .bool t135]), (53, .agg #[.int .i64 t131, s_.1]), (54, .bool t135)]) (fun s_ w' => (w'.cell? (ad129.add (t126).toNat) = some (.int .i64 (rd y123 t126)) ∧ w'.cell? (ad130.add (t126).toNat) = some (.slice A130_0 (rd_L18 y120 t126).length c130_0)) ∧ (Kd.V k151 151 w' w.heap.size (fun k_ => some k_ ≠ (.slice (some ad130) y120.length co33 : Value).ownBlock ∧ some k_ ≠ (.slice (some ad129) y123.length co32 : Value).ownBlock ∧ some k_ ≠ (s_.1 : Value).ownBlock ∧ k_ ≠ g ∧ k_ ≠ gb101 ∧ k_ ≠ s_.2) (.slice A130_0 (rd_L18 y120 t126).length c130_0) (rd_L18 y120 t126)) ∧ (Kd.N (Kd.slice 151 k151) 49 w' w.heap.size (fun k_ => some k_ ≠ (.slice (some ad129) y123.length co32 : Value).ownBlock ∧ some k_ ≠ (s_.1 : Value).ownBlock ∧ k_ ≠ g ∧ k_ ≠ gb101 ∧ k_ ≠ s_.2) (.slice (some ad130) y120.length co33) y120) ∧ (Kd.R (Kd.int .i64) 3 w' w.heap.size (fun _ => True) (.slice (some ad129) y123.length co32) y123) ∧ (Kd.R (Kd.int .u64) 153 w' w.heap.size (fun _ => True) s_.1 t132) ∧ (w'.heap[gb101]? = some (.cells #[.int .i64 0, .slice none 0 0] 47 (0, 0))) ∧ (w'.heap[s_.2]? = some (.cells #[.int .i64 0, .slice none 0 0] 47 (0, 0))) ∧ (w.heap.size ≤ s_.2) ∧ (w0.heap.size ≤ s_.2) ∧ (g ≠ s_.2) ∧ (s_.2 ≠ g) ∧ (gb101 ≠ s_.2) ∧ (s_.2 ≠ gb101) ∧ (IsS213 w0 w' g s0_0 t127 t128) ∧ (KeepBut w w' g none) ∧ (Below w0.heap.size w0 w')) ?_ ?_
    rotate_left
    ·intro hCont
     refine two_ (i := 8) (j := 12) (Ni := some 52) (Nj := some 6) #[true, true, true, true, true, true, true, true, true, false, false, false, false, false, false] #[true, true, true, true, true, true, true, true, false, false, false, false, true, false, false] rfl rfl rfl rfl (two_of HT_.out (by kernel_rfl)) (by decide) (by decide) (fun K hK => ?_) (fun K hK => ?_)
     ·skip
      refine goes_ Try.func272 (by kernel_rfl) rfl #[.int .i64 (rd y123 t126), .slice A130_0 (rd_L18 y120 t126).length c130_0] (by rfl) rfl rfl qz1 ?_
      with_reducible refine (spec_LatOf.calls k (rd y123 t126) _ _ (rd_L18 y120 t126) t131 t132 t135 _ ?side1 ?side2 A6.out).mono ?_
      (case side1 => exact qz383 HR130_0.out)
      (case side2 => exact HC130_0.out)
      rintro e w34 ⟨v133, rfl, ho0, hb⟩
      have HS0_ := (hb.cell (World.block_lt_of_cell? _ _ (hHeld.1))).trans (hHeld.1)
      have HS1_ := (hb.cell (World.block_lt_of_cell? _ _ (hHeld.2))).trans (hHeld.2)
      refine ⟨_, rfl, ?_⟩
      have n0_ := Aside0.mk (Kd.N_elder' (qz247 HO122.out) (Kd.R_base ho0) hb)
      have n1_ := Aside0.mk (Kd.R_below (qz21 HO125.out) hb)
      have n2_ := Aside0.mk (Kd.V_elder' (qz266 HL130_0.out) (Kd.R_base ho0) hb)
      have n3_ := Aside0.mk (Kd.R_lower ho0 (keep_size (w := w) (g := g) (row := none) (qz417 GW101.out)))
      have n4_ := Aside0.mk (IsS213.below (qz289 HI0.out NB0_101.out) hb)
      have n5_ := Aside0.mk (blk_below (g := gb101) (o := .cells #[.int .i64 0, .slice none 0 0] 47 (0, 0)) (qz8 BK101.out) hb)
      have n6_ := Aside0.mk (Kd.C_below (qz351 HR130_0.out) hb)
      have n7_ := Aside0.mk (KeepBut.trans (qz417 GW101.out) (KeepBut.of_below hb g none) (.inl rfl))
      have n8_ := Aside0.mk (below_step (qz290 HI0.out GE101.out) hb)
      clear HO122
      clear HO125
      clear HL130_0
      clear HI0
      clear BK101
      clear HR130_0
      clear HK
      clear HB
      have HO122 := n0_
      have HO125 := n1_
      have HL130_0 := n2_
      have HO134 := n3_
      have HI0 := n4_
      have BK101 := n5_
      have HR130_0 := n6_
      have HK := n7_
      have HB := n8_
      clear n0_ n1_ n2_ n3_ n4_ n5_ n6_ n7_ n8_
      (try clear hb)
      (try clear hb2)
      (try clear hk)
      (try clear hi)
      (try clear ho0)
      refine hK.out _ _ ⟨HS0_, HS1_⟩ (fun hHeld => ?_)
      clear hK K
      refine norm_ (a' := ?_) ?_ ?_
      rotate_left
      ·show Act.put _ (some 52) _ = _
       simp only [Act.put, List.setIfInBounds_toArray, List.set_cons_zero, List.set_cons_succ, i64_w, i32_w]
       rfl
      refine pure_ (i := 9) (N := some 43) (v := ?_) (a' := ?_) #[true, true, true, true, true, true, true, true, true, true, false, false, false, false, false] rfl rfl (any_of HT_.out (by kernel_rfl)) (fun _ _ _ h => h) (Or.inl ⟨by rfl, ?_⟩) ?_ ?_
      rotate_left
      ·intro w'
       go_simp
       with_reducible rfl
      rotate_left
      ·simp only [Act.put, List.setIfInBounds_toArray, List.set_cons_zero, List.set_cons_succ, i64_w, i32_w]
       rfl
      refine pure_ (i := 10) (N := some 53) (v := ?_) (a' := ?_) #[true, true, true, true, true, true, true, true, true, true, true, false, false, false, false] rfl rfl (any_of HT_.out (by kernel_rfl)) (fun _ _ _ h => h) (Or.inl ⟨by rfl, ?_⟩) ?_ ?_
      rotate_left
      ·intro w'
       go_simp
       with_reducible rfl
      rotate_left
      ·simp only [Act.put, List.setIfInBounds_toArray, List.set_cons_zero, List.set_cons_succ, i64_w, i32_w]
       rfl
      refine pure_ (i := 11) (N := some 54) (v := ?_) (a' := ?_) #[true, true, true, true, true, true, true, true, true, true, true, true, false, false, false] rfl rfl (any_of HT_.out (by kernel_rfl)) (fun _ _ _ h => h) (Or.inl ⟨by rfl, ?_⟩) ?_ ?_
      rotate_left
      ·intro w'
       go_simp
       with_reducible rfl
      rotate_left
      ·simp only [Act.put, List.setIfInBounds_toArray, List.set_cons_zero, List.set_cons_succ, i64_w, i32_w]
       rfl
      refine one_ (i := 12) (N := some 6) #[true, true, true, true, true, true, true, true, true, true, true, true, true, false, false] rfl rfl (one_of HT_.out (by kernel_rfl)) (by decide) (fun K hK => ?_)
      refine box_step ?hg (N := 6) ?hd (cs := #[.int .i64 0, .slice none 0 0]) (t := 47) ?hr ?_; (case hd => rfl); (case hg => rfl); (case hr => exact qz5)
      intro gb136 hg w35 hbox hb
      have HS0_ := (hb.cell (World.block_lt_of_cell? _ _ (hHeld.1))).trans (hHeld.1)
      have HS1_ := (hb.cell (World.block_lt_of_cell? _ _ (hHeld.2))).trans (hHeld.2)
      have n0_ := Aside0.mk (Kd.N_below (Kd.N_elderB (qz247 HO122.out) gb136 (Nat.le_of_eq hg.symm)) hb)
      have n1_ := Aside0.mk (Kd.R_below (qz21 HO125.out) hb)
      have n2_ := Aside0.mk (Kd.V_below (Kd.V_elderB (qz266 HL130_0.out) gb136 (Nat.le_of_eq hg.symm)) hb)
      have n3_ := Aside0.mk (Kd.R_below (qz21 HO134.out) hb)
      have n4_ := Aside0.mk (IsS213.below (qz289 HI0.out NB0_101.out) hb)
      have n5_ := Aside0.mk (blk_below (g := gb101) (o := .cells #[.int .i64 0, .slice none 0 0] 47 (0, 0)) (qz8 BK101.out) hb)
      have n6_ := Aside0.mk (Kd.C_below (qz351 HR130_0.out) hb)
      have n7_ := Aside0.mk (KeepBut.trans (qz417 GW101.out) (KeepBut.of_below hb g none) (.inl rfl))
      have n8_ := Aside0.mk (below_step (qz290 HI0.out GE101.out) hb)
      have n9_ := Aside0.mk (hbox)
      have n10_ := Aside0.mk ((qz418 GW101.out : w.heap.size ≤ gb136))
      have n11_ := Aside0.mk ((Nat.le_trans HW0.out (qz418 GW101.out : w.heap.size ≤ gb136) : w0.heap.size ≤ gb136))
      have n12_ := Aside0.mk ((qz39 BK101.out : gb101 ≠ gb136))
      have n13_ := Aside0.mk ((qz40 BK101.out : gb136 ≠ gb101))
      have n14_ := Aside0.mk ((qz531 HI0.out NB0_101.out : g ≠ gb136))
      have n15_ := Aside0.mk ((qz532 HI0.out NB0_101.out : gb136 ≠ g))
      clear HO122
      clear HO125
      clear HL130_0
      clear HO134
      clear HI0
      clear BK101
      clear HR130_0
      clear HK
      clear HB
      have HO122 := n0_
      have HO125 := n1_
      have HL130_0 := n2_
      have HO134 := n3_
      have HI0 := n4_
      have BK101 := n5_
      have HR130_0 := n6_
      have HK := n7_
      have HB := n8_
      have BK136 := n9_
      have GW136 := n10_
      have GE136 := n11_
      have NB101_136 := n12_
      have NB136_101 := n13_
      have NB0_136 := n14_
      have NB136_0 := n15_
      clear n0_ n1_ n2_ n3_ n4_ n5_ n6_ n7_ n8_ n9_ n10_ n11_ n12_ n13_ n14_ n15_
      clear hb hbox hg
      refine hK.out _ _ ⟨HS0_, HS1_⟩ (fun hHeld => ?_)
      clear hK K
      refine norm_ (a' := ?_) ?_ ?_
      rotate_left
      ·show Act.put _ (some 6) _ = _
       simp only [Act.put, List.setIfInBounds_toArray, List.set_cons_zero, List.set_cons_succ, i64_w, i32_w]
       rfl
      exact norm_ qz85 (hCont (v133, gb136) _ ⟨hHeld, (by (with_reducible repeat (first | apply Kd.V_alloc | apply Kd.V_drewN | apply Kd.V_drew)); exact Kd.V_mono HL130_0.out (fun _ hk => ⟨hk.1.1.2, ⟨hk.1.1.1.2, ⟨hk.1.2, ⟨hk.1.1.1.1.2, ⟨hk.1.1.1.1.1, hk.2⟩⟩⟩⟩⟩)), (by (with_reducible repeat (first | apply Kd.N_alloc | apply Kd.N_drewN | apply Kd.N_drew)); exact Kd.N_mono HO122.out (fun _ hk => ⟨hk.1.1.2, ⟨hk.1.2, ⟨hk.1.1.1.2, ⟨hk.1.1.1.1, hk.2⟩⟩⟩⟩)), (qz21 HO125.out), (qz21 HO134.out), (qz8 BK101.out), (qz8 BK136.out), GW136.out, GE136.out, NB0_136.out, NB136_0.out, NB101_136.out, NB136_101.out, (qz295 HI0.out NB0_101.out NB0_136.out), (qz421 GW101.out GW136.out), (qz296 HI0.out GE101.out GE136.out)⟩)
     ·skip
      refine box_step ?hg (N := 6) ?hd (cs := #[.int .i64 0, .slice none 0 0]) (t := 47) ?hr ?_; (case hd => rfl); (case hg => rfl); (case hr => exact qz5)
      intro gb136 hg w34 hbox hb
      have HS0_ := (hb.cell (World.block_lt_of_cell? _ _ (hHeld.1))).trans (hHeld.1)
      have HS1_ := (hb.cell (World.block_lt_of_cell? _ _ (hHeld.2))).trans (hHeld.2)
      have n0_ := Aside0.mk (Kd.N_below (Kd.N_elderB (qz247 HO122.out) gb136 (Nat.le_of_eq hg.symm)) hb)
      have n1_ := Aside0.mk (Kd.R_below (qz21 HO125.out) hb)
      have n2_ := Aside0.mk (Kd.V_below (Kd.V_elderB (qz266 HL130_0.out) gb136 (Nat.le_of_eq hg.symm)) hb)
      have n3_ := Aside0.mk (IsS213.below (qz289 HI0.out NB0_101.out) hb)
      have n4_ := Aside0.mk (blk_below (g := gb101) (o := .cells #[.int .i64 0, .slice none 0 0] 47 (0, 0)) (qz8 BK101.out) hb)
      have n5_ := Aside0.mk (Kd.C_below (qz351 HR130_0.out) hb)
      have n6_ := Aside0.mk (KeepBut.trans (qz417 GW101.out) (KeepBut.of_below hb g none) (.inl rfl))
      have n7_ := Aside0.mk (below_step (qz290 HI0.out GE101.out) hb)
      have n8_ := Aside0.mk (hbox)
      have n9_ := Aside0.mk ((qz418 GW101.out : w.heap.size ≤ gb136))
      have n10_ := Aside0.mk ((Nat.le_trans HW0.out (qz418 GW101.out : w.heap.size ≤ gb136) : w0.heap.size ≤ gb136))
      have n11_ := Aside0.mk ((qz39 BK101.out : gb101 ≠ gb136))
      have n12_ := Aside0.mk ((qz40 BK101.out : gb136 ≠ gb101))
      have n13_ := Aside0.mk ((qz531 HI0.out NB0_101.out : g ≠ gb136))
      have n14_ := Aside0.mk ((qz532 HI0.out NB0_101.out : gb136 ≠ g))
      clear HO122
      clear HO125
      clear HL130_0
      clear HI0
      clear BK101
      clear HR130_0
      clear HK
      clear HB
      have HO122 := n0_
      have HO125 := n1_
      have HL130_0 := n2_
      have HI0 := n3_
      have BK101 := n4_
      have HR130_0 := n5_
      have HK := n6_
      have HB := n7_
      have BK136 := n8_
      have GW136 := n9_
      have GE136 := n10_
      have NB101_136 := n11_
      have NB136_101 := n12_
      have NB0_136 := n13_
      have NB136_0 := n14_
      clear n0_ n1_ n2_ n3_ n4_ n5_ n6_ n7_ n8_ n9_ n10_ n11_ n12_ n13_ n14_
      clear hb hbox hg
      refine hK.out _ _ ⟨HS0_, HS1_⟩ (fun hHeld => ?_)
      clear hK K
      refine norm_ (a' := ?_) ?_ ?_
      rotate_left
      ·show Act.put _ (some 6) _ = _
       simp only [Act.put, List.setIfInBounds_toArray, List.set_cons_zero, List.set_cons_succ, i64_w, i32_w]
       rfl
      refine one_ (i := 8) (N := some 52) #[true, true, true, true, true, true, true, true, true, false, false, false, true, false, false] rfl rfl (one_of HT_.out (by kernel_rfl)) (by decide) (fun K hK => ?_)
      refine goes_ Try.func272 (by kernel_rfl) rfl #[.int .i64 (rd y123 t126), .slice A130_0 (rd_L18 y120 t126).length c130_0] (by rfl) rfl rfl qz1 ?_
      with_reducible refine (spec_LatOf.calls k (rd y123 t126) _ _ (rd_L18 y120 t126) t131 t132 t135 _ ?side1 ?side2 A6.out).mono ?_
      (case side1 => exact qz383 HR130_0.out)
      (case side2 => exact HC130_0.out)
      rintro e w35 ⟨v133, rfl, ho0, hb⟩
      have HS0_ := (hb.cell (World.block_lt_of_cell? _ _ (hHeld.1))).trans (hHeld.1)
      have HS1_ := (hb.cell (World.block_lt_of_cell? _ _ (hHeld.2))).trans (hHeld.2)
      refine ⟨_, rfl, ?_⟩
      have n0_ := Aside0.mk (Kd.N_elder' (qz247 HO122.out) (Kd.R_base ho0) hb)
      have n1_ := Aside0.mk (Kd.R_below (qz21 HO125.out) hb)
      have n2_ := Aside0.mk (Kd.V_elder' (qz266 HL130_0.out) (Kd.R_base ho0) hb)
      have n3_ := Aside0.mk (Kd.R_lower ho0 (keep_size (w := w) (g := g) (row := none) (qz421 GW101.out GW136.out)))
      have n4_ := Aside0.mk (IsS213.below (qz295 HI0.out NB0_101.out NB0_136.out) hb)
      have n5_ := Aside0.mk (blk_below (g := gb101) (o := .cells #[.int .i64 0, .slice none 0 0] 47 (0, 0)) (qz8 BK101.out) hb)
      have n6_ := Aside0.mk (Kd.C_below (qz351 HR130_0.out) hb)
      have n7_ := Aside0.mk (blk_below (g := gb136) (o := .cells #[.int .i64 0, .slice none 0 0] 47 (0, 0)) (qz8 BK136.out) hb)
      have n8_ := Aside0.mk (KeepBut.trans (qz421 GW101.out GW136.out) (KeepBut.of_below hb g none) (.inl rfl))
      have n9_ := Aside0.mk (below_step (qz296 HI0.out GE101.out GE136.out) hb)
      clear HO122
      clear HO125
      clear HL130_0
      clear HI0
      clear BK101
      clear HR130_0
      clear BK136
      clear HK
      clear HB
      have HO122 := n0_
      have HO125 := n1_
      have HL130_0 := n2_
      have HO134 := n3_
      have HI0 := n4_
      have BK101 := n5_
      have HR130_0 := n6_
      have BK136 := n7_
      have HK := n8_
      have HB := n9_
      clear n0_ n1_ n2_ n3_ n4_ n5_ n6_ n7_ n8_ n9_
      (try clear hb)
      (try clear hb2)
      (try clear hk)
      (try clear hi)
      (try clear ho0)
      refine hK.out _ _ ⟨HS0_, HS1_⟩ (fun hHeld => ?_)
      clear hK K
      refine norm_ (a' := ?_) ?_ ?_
      rotate_left
      ·show Act.put _ (some 52) _ = _
       simp only [Act.put, List.setIfInBounds_toArray, List.set_cons_zero, List.set_cons_succ, i64_w, i32_w]
       rfl
      refine pure_ (i := 9) (N := some 43) (v := ?_) (a' := ?_) #[true, true, true, true, true, true, true, true, true, true, false, false, true, false, false] rfl rfl (any_of HT_.out (by kernel_rfl)) (fun _ _ _ h => h) (Or.inl ⟨by rfl, ?_⟩) ?_ ?_
      rotate_left
      ·intro w'
       go_simp
       with_reducible rfl
      rotate_left
      ·simp only [Act.put, List.setIfInBounds_toArray, List.set_cons_zero, List.set_cons_succ, i64_w, i32_w]
       rfl
      refine pure_ (i := 10) (N := some 53) (v := ?_) (a' := ?_) #[true, true, true, true, true, true, true, true, true, true, true, false, true, false, false] rfl rfl (any_of HT_.out (by kernel_rfl)) (fun _ _ _ h => h) (Or.inl ⟨by rfl, ?_⟩) ?_ ?_
      rotate_left
      ·intro w'
       go_simp
       with_reducible rfl
      rotate_left
      ·simp only [Act.put, List.setIfInBounds_toArray, List.set_cons_zero, List.set_cons_succ, i64_w, i32_w]
       rfl
      refine pure_ (i := 11) (N := some 54) (v := ?_) (a' := ?_) #[true, true, true, true, true, true, true, true, true, true, true, true, true, false, false] rfl rfl (any_of HT_.out (by kernel_rfl)) (fun _ _ _ h => h) (Or.inl ⟨by rfl, ?_⟩) ?_ ?_
      rotate_left
      ·intro w'
       go_simp
       with_reducible rfl
      rotate_left
      ·simp only [Act.put, List.setIfInBounds_toArray, List.set_cons_zero, List.set_cons_succ, i64_w, i32_w]
       rfl
      exact norm_ qz85 (hCont (v133, gb136) _ ⟨hHeld, (by (with_reducible repeat (first | apply Kd.V_alloc | apply Kd.V_drewN | apply Kd.V_drew)); exact Kd.V_mono HL130_0.out (fun _ hk => ⟨hk.1.1.2, ⟨hk.1.1.1.2, ⟨hk.2, ⟨hk.1.1.1.1.2, ⟨hk.1.1.1.1.1, hk.1.2⟩⟩⟩⟩⟩)), (by (with_reducible repeat (first | apply Kd.N_alloc | apply Kd.N_drewN | apply Kd.N_drew)); exact Kd.N_mono HO122.out (fun _ hk => ⟨hk.1.1.2, ⟨hk.2, ⟨hk.1.1.1.2, ⟨hk.1.1.1.1, hk.1.2⟩⟩⟩⟩)), (qz21 HO125.out), (qz21 HO134.out), (qz8 BK101.out), (qz8 BK136.out), GW136.out, GE136.out, NB0_136.out, NB136_0.out, NB101_136.out, NB136_101.out, (qz295 HI0.out NB0_101.out NB0_136.out), (qz421 GW101.out GW136.out), (qz296 HI0.out GE101.out GE136.out)⟩)
    rintro ⟨v133, gb136⟩ w36 ⟨hS_, h0_, h1_, h2_, h3_, h4_, h5_, h6_, h7_, h8_, h9_, h10_, h11_, h12_, h13_, h14_⟩
    have n0_ : Aside0 (Kd.V k151 151 w36 w.heap.size (fun k_ => some k_ ≠ (.slice (some ad130) y120.length co33 : Value).ownBlock ∧ some k_ ≠ (.slice (some ad129) y123.length co32 : Value).ownBlock ∧ some k_ ≠ (v133 : Value).ownBlock ∧ k_ ≠ g ∧ k_ ≠ gb101 ∧ k_ ≠ gb136) (.slice A130_0 (rd_L18 y120 t126).length c130_0) (rd_L18 y120 t126)) := ⟨h0_⟩
    have n1_ : Aside0 (Kd.N (Kd.slice 151 k151) 49 w36 w.heap.size (fun k_ => some k_ ≠ (.slice (some ad129) y123.length co32 : Value).ownBlock ∧ some k_ ≠ (v133 : Value).ownBlock ∧ k_ ≠ g ∧ k_ ≠ gb101 ∧ k_ ≠ gb136) (.slice (some ad130) y120.length co33) y120) := ⟨h1_⟩
    have n2_ : Aside0 (Kd.R (Kd.int .i64) 3 w36 w.heap.size (fun _ => True) (.slice (some ad129) y123.length co32) y123) := ⟨h2_⟩
    have n3_ : Aside0 (Kd.R (Kd.int .u64) 153 w36 w.heap.size (fun _ => True) v133 t132) := ⟨h3_⟩
    have n4_ : Aside0 (w36.heap[gb101]? = some (.cells #[.int .i64 0, .slice none 0 0] 47 (0, 0))) := ⟨h4_⟩
    have n5_ : Aside0 (w36.heap[gb136]? = some (.cells #[.int .i64 0, .slice none 0 0] 47 (0, 0))) := ⟨h5_⟩
    have n6_ : Aside0 (w.heap.size ≤ gb136) := ⟨h6_⟩
    have n7_ : Aside0 (w0.heap.size ≤ gb136) := ⟨h7_⟩
    have n8_ : Aside0 (g ≠ gb136) := ⟨h8_⟩
    have n9_ : Aside0 (gb136 ≠ g) := ⟨h9_⟩
    have n10_ : Aside0 (gb101 ≠ gb136) := ⟨h10_⟩
    have n11_ : Aside0 (gb136 ≠ gb101) := ⟨h11_⟩
    have n12_ : Aside0 (IsS213 w0 w36 g s0_0 t127 t128) := ⟨h12_⟩
    have n13_ : Aside0 (KeepBut w w36 g none) := ⟨h13_⟩
    have n14_ : Aside0 (Below w0.heap.size w0 w36) := ⟨h14_⟩
    clear HO122
    clear HO125
    clear BK101
    clear HI0
    clear HK
    clear HB
    clear h0_ h1_ h2_ h3_ h4_ h5_ h6_ h7_ h8_ h9_ h10_ h11_ h12_ h13_ h14_
    have HL130_0 := n0_
    have HO122 := n1_
    have HO125 := n2_
    have HO134 := n3_
    have BK101 := n4_
    have BK136 := n5_
    have GW136 := n6_
    have GE136 := n7_
    have NB0_136 := n8_
    have NB136_0 := n9_
    have NB101_136 := n10_
    have NB136_101 := n11_
    have HI0 := n12_
    have HK := n13_
    have HB := n14_
    clear n0_ n1_ n2_ n3_ n4_ n5_ n6_ n7_ n8_ n9_ n10_ n11_ n12_ n13_ n14_
    have hHeld : w36.cell? (ad129.add (t126).toNat) = some (.int .i64 (rd y123 t126)) ∧ w36.cell? (ad130.add (t126).toNat) = some (.slice A130_0 (rd_L18 y120 t126).length c130_0) := hS_
    obtain ⟨Ao38, co38, eo38⟩ := Kd.R_slice HO134.out
    (first | subst eo38 | (injection eo38 with f1_ f2_ f3_; have f4_ := f1_.symm; have f5_ := f3_.symm; clear f1_ f2_ f3_; subst f4_; subst f5_))
    refine norm_ (a' := ?_) ?_ ?_
    rotate_left
    ·simp only [putAll, Act.put, List.setIfInBounds_toArray, List.set_cons_zero, List.set_cons_succ]
     rfl
    refine one_ (i := 13) (N := none) #[true, true, true, true, true, true, true, true, true, true, true, true, true, true, false] rfl rfl (one_of HT_.out (by kernel_rfl)) (by decide) (fun K hK => ?_)
    have hs37 : w36.cell? ⟨gb136, 0, none⟩ = some (.int .i64 0) := (blk_cell BK136.out 0).trans rfl
    have hfs37 := blk_frozen BK136.out 0
    have hns37_0 := NB101_136.out
    have hms37_0 := NB136_101.out
    have hs39 : w36.cell? ⟨gb136, 1, none⟩ = some (.slice none 0 0) := (blk_cell BK136.out 1).trans rfl
    have hfs39 := blk_frozen BK136.out 1
    have hns39_0 := NB101_136.out
    have hms39_0 := NB136_101.out
    refine skip_ (w1 := ?_) (by rfl) rfl ?_ ?_
    rotate_left
    ·go_simp
     rfl
    refine hK.out _ _ ⟨((cell_far (p := ⟨gb136, _, none⟩) (qz533 HO125.out BK136.out) _).trans (((cell_far (p := ⟨gb136, _, none⟩) (qz533 HO125.out BK136.out) _).trans (hHeld.1)))), ((cell_far (p := ⟨gb136, _, none⟩) (qz534 HO122.out) _).trans (((cell_far (p := ⟨gb136, _, none⟩) (qz534 HO122.out) _).trans (hHeld.2))))⟩ (fun hHeld => ?_)
    clear hK K
    refine pure_ (i := 14) (N := some 7) (v := ?_) (a' := ?_) #[true, true, true, true, true, true, true, true, true, true, true, true, true, true, true] rfl rfl (any_of HT_.out (by kernel_rfl)) (fun _ _ _ h => h) (Or.inl ⟨by rfl, ?_⟩) ?_ ?_
    rotate_left
    ·intro w'
     go_simp
     with_reducible rfl
    rotate_left
    ·simp only [Act.put, List.setIfInBounds_toArray, List.set_cons_zero, List.set_cons_succ, i64_w, i32_w]
     rfl
    refine done_ (done_of HT_.out (by kernel_rfl)) ?_
    have hnb40 := NB136_101.out
    have hnc40 := NB101_136.out
    have hnb41 := NB136_0.out
    have hnc41 := NB0_136.out
    have hcz42_0 : w36.cell? ⟨gb136, 0, none⟩ = some (.int .i64 0) := (blk_cell BK136.out 0).trans rfl
    have hcz42_1 : w36.cell? ⟨gb136, 1, none⟩ = some (.slice none 0 0) := (blk_cell BK136.out 1).trans rfl
    have hfz42_0 := blk_frozen BK136.out 0
    have hfz42_1 := blk_frozen BK136.out 1
    have hnb43 := NB101_0.out
    have hnc43 := NB0_101.out
    have hcz44_0 : w36.cell? ⟨gb101, 0, none⟩ = some (.int .i64 0) := (blk_cell BK101.out 0).trans rfl
    have hcz44_1 : w36.cell? ⟨gb101, 1, none⟩ = some (.slice none 0 0) := (blk_cell BK101.out 1).trans rfl
    have hfz44_0 := blk_frozen BK101.out 0
    have hfz44_1 := blk_frozen BK101.out 1
    try go_wp2
    refine bodyPost_ret (results_cell_row rfl _ _ gb101 47 #[.int .i64 t131, .slice Ao38 t132.length co38] (0, 0) _ rfl (by (with_reducible repeat (first | refine blk_drewN ?_ _ | refine blk_drew ?_ | refine blk_alloc ?_ _)); refine blk_put (cs := #[.int .i64 t131, .slice none 0 0]) ?_ 1 _ rfl; (with_reducible repeat (first | refine blk_drewN ?_ _ | refine blk_drew ?_ | refine blk_alloc ?_ _)); refine blk_put (cs := #[.int .i64 0, .slice none 0 0]) ?_ 0 _ rfl; (with_reducible repeat (first | refine blk_drewN ?_ _ | refine blk_drew ?_ | refine blk_alloc ?_ _)); refine blk_far ?_ NB101_136.out _; (with_reducible repeat (first | refine blk_drewN ?_ _ | refine blk_drew ?_ | refine blk_alloc ?_ _)); refine blk_far ?_ NB101_136.out _; (with_reducible repeat (first | refine blk_drewN ?_ _ | refine blk_drew ?_ | refine blk_alloc ?_ _)); exact BK101.out) Try.underlying47 rfl (by kernel_rfl)) rfl ?_
    exact ⟨_, qz13, by (with_reducible repeat (first | apply Kd.R_alloc | apply Kd.R_drewN | apply Kd.R_drew)); exact Kd.R_mono (Kd.R_far (p := ⟨gb101, 1, none⟩) (Kd.R_far (p := ⟨gb101, 0, none⟩) (Kd.R_far (p := ⟨gb136, 1, none⟩) (Kd.R_far (p := ⟨gb136, 0, none⟩) (Kd.R_types (Kd.R_types HO134.out BK136.out (by decide)) BK101.out (by decide)) (fun _ hk => hk.1.2) (.int .i64 t131)) (fun _ hk => hk.1.2) (.slice Ao38 t132.length co38)) (fun _ hk => hk.2) (.int .i64 t131)) (fun _ hk => hk.2) (.slice Ao38 t132.length co38)) (fun _ hk => trivial), qz295 HI0.out NB0_101.out NB0_136.out, qz296 HI0.out GE101.out GE136.out, qz421 GW101.out GW136.out⟩
   ·rw [if_neg c5] at H
    exact absurd H (by simp)
  ·rw [if_neg c4] at H
   exact absurd H (by simp)
 ·rw [if_neg c3] at H
  exact absurd H (by simp)

end Go.Proofs.Ytjhfjnknajhanaa.P

namespace Go.Proofs.Ytjhfjnknajhanaa.P
open Go.RowKit Go.Proofs.YtjhfjnknajhanaaW.PrintWords Go.Proofs.YtjhfjnknajhanaaW.PrintLast Go.Proofs.YtjhfjnknajhanaaW.PrintMore
attribute [local go_sem] max2_int min2_int max_two min_two max_three min_three max_four min_four   -- for this text's walks alone
set_option linter.unusedVariables false
set_option linter.unusedSimpArgs false

/-! ### spec_l01Cur_raw: function 135 -/
set_option maxHeartbeats 8000000 in
set_option maxRecDepth 100000 in
theorem spec_l01Cur_raw.calls (g : Nat) (s0_0 : List Int) (s0_1 : Int) (s0_2 : Int) (r1 : Int) (r2 : Int) (r3 : Int) (w0 w : World) (hI : IsS213 w0 w g s0_0 s0_1 s0_2) (hB : Below w0.heap.size w0 w) (h : spec_l01Cur_raw.f s0_0 s0_1 s0_2 = some (r1, r2, r3)) :
  Calls Try.prog 135 #[.pointer (some ⟨g, 0, none⟩)] w fun e w' => e = .returned (.int .i64 r1) ∧ IsS213 w0 w' g s0_0 r2 r3 ∧ Below w0.heap.size w0 w' ∧ KeepBut w w' g none := by
 have HI0 := Aside0.mk hI
 have HK := Aside0.mk (KeepBut.refl w g none)
 have HL := Aside0.mk hB.size
 clear hI
 have HW0 := Aside0.mk hB.size
 have HB := Aside0.mk hB
 clear hB
 have H : ((spec_l01Cur_pick.f s0_0 s0_1 s0_2 8).bind fun bt101 => (if bt101.1 = 0 then ((spec_l01Cur_pick.f s0_0 bt101.2.1 bt101.2.2 256).bind fun bt104 => (some (wrap64 (bt104.1 - 128), bt104.2.1, bt104.2.2))) else (if bt101.1 = 1 then ((some (([9223372036854775807, (-9223372036854775808), 4611686018427387904, 9223372036854775806, 4294967296, (-1000), 1000, 16] : List Int) : List Int)).bind fun y107 => ((spec_l01Cur_pick.f s0_0 bt101.2.1 bt101.2.2 8).bind fun bt110 => (if 0 ≤ bt110.1 then (if bt110.1 < (y107.length : Int) then (some (rd y107 bt110.1, bt110.2.1, bt110.2.2)) else (none)) else (none)))) else ((spec_l01Cur_pick.f s0_0 bt101.2.1 bt101.2.2 14).bind fun bt114 => (some (wrap64 (bt114.1 - 3), bt114.2.1, bt114.2.2)))))) = some (r1, r2, r3) := h
 clear h
 replace H := Option.bind_eq_some_iff.mp H
 obtain ⟨⟨t101, t102, t103⟩, A20, H⟩ := H
 replace H : (if t101 = 0 then ((spec_l01Cur_pick.f s0_0 t102 t103 256).bind fun bt104 => (some (wrap64 (bt104.1 - 128), bt104.2.1, bt104.2.2))) else (if t101 = 1 then ((some (([9223372036854775807, (-9223372036854775808), 4611686018427387904, 9223372036854775806, 4294967296, (-1000), 1000, 16] : List Int) : List Int)).bind fun y107 => ((spec_l01Cur_pick.f s0_0 t102 t103 8).bind fun bt110 => (if 0 ≤ bt110.1 then (if bt110.1 < (y107.length : Int) then (some (rd y107 bt110.1, bt110.2.1, bt110.2.2)) else (none)) else (none)))) else ((spec_l01Cur_pick.f s0_0 t102 t103 14).bind fun bt114 => (some (wrap64 (bt114.1 - 3), bt114.2.1, bt114.2.2))))) = some (r1, r2, r3) := H
 have A2 := Aside0.mk A20
 clear A20
 by_cases c3 : t101 = 0
 ·rw [if_pos c3] at H
  have c3b0 : (t101 == 0) = true := beq_iff_eq.mpr c3
  have c3b1 : (t101 != 0) = false := bne_eq_false_iff_eq.mpr c3
  clear c3
  replace H := Option.bind_eq_some_iff.mp H
  obtain ⟨⟨t104, t105, t106⟩, A40, H⟩ := H
  replace H : (some (wrap64 (t104 - 128), t105, t106)) = some (r1, r2, r3) := H
  have A4 := Aside0.mk A40
  clear A40
  simp only [Option.some.injEq, Prod.mk.injEq] at H
  obtain ⟨rfl, rfl, rfl⟩ := H
  go_enter Try.func135, Try.ntmps135
  go_wp2_with (first | ((with_reducible refine gate_callee (f := 134) rfl ?_); refine goesL_ (some 4) rfl rfl Try.func134 (by kernel_rfl) rfl #[.pointer (some ⟨g, 0, none⟩), .int .i64 8] rfl qz1 ?_; (with_reducible refine (spec_l01Cur_pick.calls g s0_0 s0_1 s0_2 8 t101 t102 t103 w0 _ ?side1 ?side2 A2.out).mono ?_); (case side1 => exact qz313 HI0.out); (case side2 => exact qz314 HI0.out); rintro e w5 ⟨rfl, hi, hb, hk⟩; refine ⟨_, rfl, ?_⟩; have n0_ := Aside0.mk (KeepBut.trans qz408 hk (.inl rfl)); have n1_ := Aside0.mk (hb); have n2_ := Aside0.mk (hi); clear HK; clear HB; clear HI0; have HK := n0_; have HB := n1_; have HI0 := n2_; clear n0_ n1_ n2_; (try clear hb); (try clear hb2); (try clear hk); (try clear hi)) | ((with_reducible refine gate_callee (f := 134) rfl ?_); refine goesL_ (some 8) rfl rfl Try.func134 (by kernel_rfl) rfl #[.pointer (some ⟨g, 0, none⟩), .int .i64 256] rfl qz1 ?_; (with_reducible refine (spec_l01Cur_pick.calls g s0_0 t102 t103 256 t104 t105 t106 w0 _ ?side1 ?side2 A4.out).mono ?_); (case side1 => exact qz313 HI0.out); (case side2 => exact qz314 HI0.out); rintro e w6 ⟨rfl, hi, hb, hk⟩; refine ⟨_, rfl, ?_⟩; have n0_ := Aside0.mk (KeepBut.trans qz408 hk (.inl rfl)); have n1_ := Aside0.mk (hb); have n2_ := Aside0.mk (hi); clear HK; clear HB; clear HI0; have HK := n0_; have HB := n1_; have HI0 := n2_; clear n0_ n1_ n2_; (try clear hb); (try clear hb2); (try clear hk); (try clear hi)))
  go_ret
  exact ⟨qz13, qz313 HI0.out, qz314 HI0.out, qz408⟩
 ·rw [if_neg c3] at H
  have c3b0 : (t101 == 0) = false := beq_eq_false_iff_ne.mpr c3
  have c3b1 : (t101 != 0) = true := bne_iff_ne.mpr c3
  by_cases c7 : t101 = 1
  ·rw [if_pos c7] at H
   have c7b0 : (t101 == 1) = true := beq_iff_eq.mpr c7
   have c7b1 : (t101 != 1) = false := bne_eq_false_iff_eq.mpr c7
   clear c7
   obtain ⟨y107, hy107⟩ : ∃ y_ : List Int, y_ = (([9223372036854775807, (-9223372036854775808), 4611686018427387904, 9223372036854775806, 4294967296, (-1000), 1000, 16] : List Int)) := ⟨_, rfl⟩
   replace H : ((spec_l01Cur_pick.f s0_0 t102 t103 8).bind fun bt110 => (if 0 ≤ bt110.1 then (if bt110.1 < (y107.length : Int) then (some (rd y107 bt110.1, bt110.2.1, bt110.2.2)) else (none)) else (none))) = some (r1, r2, r3) := by first | (rw [hy107]; with_reducible exact H) | (have H2_ := (Option.bind_some _ _).symm.trans H; rw [hy107]; with_reducible exact H2_) | (have H2_ := (Option.bind_some _ _).symm.trans H; with_reducible exact H2_) | with_reducible exact H | (rw [hy107]; exact H) | exact H
   have Ny107 := Aside0.mk hy107
   clear hy107
   replace H := Option.bind_eq_some_iff.mp H
   obtain ⟨⟨t110, t111, t112⟩, A80, H⟩ := H
   replace H : (if 0 ≤ t110 then (if t110 < (y107.length : Int) then (some (rd y107 t110, t111, t112)) else (none)) else (none)) = some (r1, r2, r3) := H
   have A8 := Aside0.mk A80
   clear A80
   by_cases c9 : 0 ≤ t110
   ·rw [if_pos c9] at H
    have c9b0 : decide (0 ≤ t110) = true := decide_eq_true c9
    clear c9
    by_cases c10 : t110 < (y107.length : Int)
    ·rw [if_pos c10] at H
     have c10b0 : decide (t110 < (y107.length : Int)) = true := decide_eq_true c10
     clear c10
     simp only [Option.some.injEq, Prod.mk.injEq] at H
     obtain ⟨rfl, rfl, rfl⟩ := H
     go_enter Try.func135, Try.ntmps135
     go_wp2_with (first | ((with_reducible refine gate_callee (f := 134) rfl ?_); refine goesL_ (some 4) rfl rfl Try.func134 (by kernel_rfl) rfl #[.pointer (some ⟨g, 0, none⟩), .int .i64 8] rfl qz1 ?_; (with_reducible refine (spec_l01Cur_pick.calls g s0_0 s0_1 s0_2 8 t101 t102 t103 w0 _ ?side1 ?side2 A2.out).mono ?_); (case side1 => exact qz313 HI0.out); (case side2 => exact qz314 HI0.out); rintro e w11 ⟨rfl, hi, hb, hk⟩; refine ⟨_, rfl, ?_⟩; have n0_ := Aside0.mk (KeepBut.trans qz408 hk (.inl rfl)); have n1_ := Aside0.mk (hb); have n2_ := Aside0.mk (hi); clear HK; clear HB; clear HI0; have HK := n0_; have HB := n1_; have HI0 := n2_; clear n0_ n1_ n2_; (try clear hb); (try clear hb2); (try clear hk); (try clear hi)) | ((with_reducible refine gate_dst (N := 12) rfl ?_); refine Kd.R_lit (Kd.int .i64) _ 3 ?hg (N := 12) ?hd (xs := ([9223372036854775807, (-9223372036854775808), 4611686018427387904, 9223372036854775806, 4294967296, (-1000), 1000, 16] : List Int)) (inner := [.int .i64 9223372036854775807, .int .i64 (-9223372036854775808), .int .i64 4611686018427387904, .int .i64 9223372036854775806, .int .i64 4294967296, .int .i64 (-1000), .int .i64 1000, .int .i64 16]) (ok := fun _ => True) (okp := fun _ => True) ?hr ?hp (fun _ hk => hk) trivial (Below.refl _ _) (Nat.le_refl _) (by simp) ?_; (case hd => rfl); (case hg => rfl); (case hr => exact qz5); (case hp => exact (Reps.one (show Kd.M (Kd.int .i64) _ _ _ 9223372036854775807 [.int .i64 9223372036854775807] from rfl) (Reps.one (show Kd.M (Kd.int .i64) _ _ _ (-9223372036854775808) [.int .i64 (-9223372036854775808)] from rfl) (Reps.one (show Kd.M (Kd.int .i64) _ _ _ 4611686018427387904 [.int .i64 4611686018427387904] from rfl) (Reps.one (show Kd.M (Kd.int .i64) _ _ _ 9223372036854775806 [.int .i64 9223372036854775806] from rfl) (Reps.one (show Kd.M (Kd.int .i64) _ _ _ 4294967296 [.int .i64 4294967296] from rfl) (Reps.one (show Kd.M (Kd.int .i64) _ _ _ (-1000) [.int .i64 (-1000)] from rfl) (Reps.one (show Kd.M (Kd.int .i64) _ _ _ 1000 [.int .i64 1000] from rfl) (Reps.one (show Kd.M (Kd.int .i64) _ _ _ 16 [.int .i64 16] from rfl) (Reps.none _ _)))))))))); intro v108 w12 ho13 hb hg_ hnew_; clear hg_ hnew_; (first | rw [← Ny107.out] at ho13 | (simp only [Int.reduceToNat] at ho13; rw [← Ny107.out] at ho13)); have n0_ := Aside0.mk (Kd.R_lower ho13 (keep_size (w := w) (g := g) (row := none) qz408)); have n1_ := Aside0.mk (IsS213.below (qz313 HI0.out) hb); have n2_ := Aside0.mk (KeepBut.trans qz408 (KeepBut.of_below hb g none) (.inl rfl)); have n3_ := Aside0.mk (below_step (qz314 HI0.out) hb); clear HI0; clear HK; clear HB; have HO109 := n0_; have HI0 := n1_; have HK := n2_; have HB := n3_; clear n0_ n1_ n2_ n3_; clear hb ho13) | ((with_reducible refine gate_callee (f := 134) rfl ?_); refine goesL_ (some 14) rfl rfl Try.func134 (by kernel_rfl) rfl #[.pointer (some ⟨g, 0, none⟩), .int .i64 8] rfl qz1 ?_; (with_reducible refine (spec_l01Cur_pick.calls g s0_0 t102 t103 8 t110 t111 t112 w0 _ ?side1 ?side2 A8.out).mono ?_); (case side1 => exact qz313 HI0.out); (case side2 => exact qz314 HI0.out); rintro e w14 ⟨rfl, hi, hb, hk⟩; refine ⟨_, rfl, ?_⟩; have n0_ := Aside0.mk (Kd.R_mono (Kd.R_keep (IsS213.apart (show IsS213 w0 _ g s0_0 t102 t103 from by repeat (first | (with_reducible first | exact HI0.out | apply IsS213.alloc | apply IsS213.drewN | apply IsS213.drew | apply IsS213.set_1 | apply IsS213.set_2) | exact HI0.out)) (qz21 HO109.out) (by decide)) hk (fun _ h => h.2)) (fun _ h => h.1)); have n1_ := Aside0.mk (KeepBut.trans qz408 hk (.inl rfl)); have n2_ := Aside0.mk (hb); have n3_ := Aside0.mk (hi); clear HO109; clear HK; clear HB; clear HI0; have HO109 := n0_; have HK := n1_; have HB := n2_; have HI0 := n3_; clear n0_ n1_ n2_ n3_; (try clear hb); (try clear hb2); (try clear hk); (try clear hi); obtain ⟨Ao15, co15, eo15⟩ := Kd.R_slice HO109.out; subst eo15; have p113 : 0 ≤ (t110 : Int) := of_decide_eq_true qz4; have q113 : t110 < (y107.length : Int) := of_decide_eq_true qz4; obtain ⟨ad113, e113, hx113_0⟩ := Kd.at_int (Kd.R_reads' HO109.out).2.2 t110 p113 q113; cases e113; replace p113 := eq_true p113; replace q113 := eq_true q113))
     go_ret
     exact ⟨qz13, qz313 HI0.out, qz314 HI0.out, qz408⟩
    ·rw [if_neg c10] at H
     exact absurd H (by simp)
   ·rw [if_neg c9] at H
    exact absurd H (by simp)
  ·rw [if_neg c7] at H
   have c7b0 : (t101 == 1) = false := beq_eq_false_iff_ne.mpr c7
   have c7b1 : (t101 != 1) = true := bne_iff_ne.mpr c7
   replace H := Option.bind_eq_some_iff.mp H
   obtain ⟨⟨t114, t115, t116⟩, A160, H⟩ := H
   replace H : (some (wrap64 (t114 - 3), t115, t116)) = some (r1, r2, r3) := H
   have A16 := Aside0.mk A160
   clear A160
   simp only [Option.some.injEq, Prod.mk.injEq] at H
   obtain ⟨rfl, rfl, rfl⟩ := H
   go_enter Try.func135, Try.ntmps135
   go_wp2_with (first | ((with_reducible refine gate_callee (f := 134) rfl ?_); refine goesL_ (some 4) rfl rfl Try.func134 (by kernel_rfl) rfl #[.pointer (some ⟨g, 0, none⟩), .int .i64 8] rfl qz1 ?_; (with_reducible refine (spec_l01Cur_pick.calls g s0_0 s0_1 s0_2 8 t101 t102 t103 w0 _ ?side1 ?side2 A2.out).mono ?_); (case side1 => exact qz313 HI0.out); (case side2 => exact qz314 HI0.out); rintro e w17 ⟨rfl, hi, hb, hk⟩; refine ⟨_, rfl, ?_⟩; have n0_ := Aside0.mk (KeepBut.trans qz408 hk (.inl rfl)); have n1_ := Aside0.mk (hb); have n2_ := Aside0.mk (hi); clear HK; clear HB; clear HI0; have HK := n0_; have HB := n1_; have HI0 := n2_; clear n0_ n1_ n2_; (try clear hb); (try clear hb2); (try clear hk); (try clear hi)) | ((with_reducible refine gate_callee (f := 134) rfl ?_); refine goesL_ (some 18) rfl rfl Try.func134 (by kernel_rfl) rfl #[.pointer (some ⟨g, 0, none⟩), .int .i64 14] rfl qz1 ?_; (with_reducible refine (spec_l01Cur_pick.calls g s0_0 t102 t103 14 t114 t115 t116 w0 _ ?side1 ?side2 A16.out).mono ?_); (case side1 => exact qz313 HI0.out); (case side2 => exact qz314 HI0.out); rintro e w18 ⟨rfl, hi, hb, hk⟩; refine ⟨_, rfl, ?_⟩; have n0_ := Aside0.mk (KeepBut.trans qz408 hk (.inl rfl)); have n1_ := Aside0.mk (hb); have n2_ := Aside0.mk (hi); clear HK; clear HB; clear HI0; have HK := n0_; have HB := n1_; have HI0 := n2_; clear n0_ n1_ n2_; (try clear hb); (try clear hb2); (try clear hk); (try clear hi)))
   go_ret
   exact ⟨qz13, qz313 HI0.out, qz314 HI0.out, qz408⟩

end Go.Proofs.Ytjhfjnknajhanaa.P

namespace Go.Proofs.Ytjhfjnknajhanaa.P
open Go.RowKit Go.Proofs.YtjhfjnknajhanaaW.PrintWords Go.Proofs.YtjhfjnknajhanaaW.PrintLast Go.Proofs.YtjhfjnknajhanaaW.PrintMore
attribute [local go_sem] max2_int min2_int max_two min_two max_three min_three max_four min_four   -- for this text's walks alone
set_option linter.unusedVariables false
set_option linter.unusedSimpArgs false

/-! ### spec_l01Cur_badLat: function 117 -/
def spec_l01Cur_badLat.T4 : Bool × List (List Nat × List Nat) := (true, [([], []), ([0], [0]), ([], []), ([2], [2]), ([3], [3]), ([], []), ([5], [5]), ([6], [6]), ([1, 4, 7], [1, 4, 7]), ([], []), ([9, 1], [9]), ([8, 10], [8, 10]), ([11], [11]), ([0, 1, 2, 3, 4, 5, 6, 7, 8, 9, 10, 11, 12], []), ([13, 12, 10, 0, 1, 2, 3, 4, 5, 6, 7, 8, 9, 10, 11, 12], [12, 13])])
def spec_l01Cur_badLat.B4 : List Nat := [0, 1, 0, 4, 12, 0, 32, 96, 255, 0, 515, 2047, 4095, 8191, 16383]
theorem spec_l01Cur_badLat.tab4 : rtab .any (opsOf Try.f117 4) = spec_l01Cur_badLat.T4 := by kernel_rfl
theorem spec_l01Cur_badLat.bits4 : waitsOk spec_l01Cur_badLat.T4.2 spec_l01Cur_badLat.B4 = true := by kernel_rfl
def spec_l01Cur_badLat.T6 : Bool × List (List Nat × List Nat) := (true, [([], []), ([0], [0]), ([], []), ([], []), ([3], [3]), ([4], [4]), ([2, 5], [2, 5]), ([], []), ([7, 6], [7]), ([8], [8]), ([1, 6, 0, 1, 2, 3, 4, 5, 6, 7, 8, 9], [1, 6]), ([10, 9, 8, 0, 1, 2, 3, 4, 5, 6, 7, 8, 9], [9, 10])])
def spec_l01Cur_badLat.B6 : List Nat := [0, 1, 0, 0, 8, 24, 60, 0, 252, 508, 1023, 2047]
theorem spec_l01Cur_badLat.tab6 : rtab .any (opsOf Try.f117 6) = spec_l01Cur_badLat.T6 := by kernel_rfl
theorem spec_l01Cur_badLat.bits6 : waitsOk spec_l01Cur_badLat.T6.2 spec_l01Cur_badLat.B6 = true := by kernel_rfl
set_option maxHeartbeats 8000000 in
set_option maxRecDepth 100000 in
theorem spec_l01Cur_badLat.calls (k : Nat) (g : Nat) (s0_0 : List Int) (s0_1 : Int) (s0_2 : Int) (r1 : Int) (r2 : List Int) (r3 : Int) (r4 : Int) (w0 w : World) (hI : IsS213 w0 w g s0_0 s0_1 s0_2) (hB : Below w0.heap.size w0 w) (h : spec_l01Cur_badLat.f k s0_0 s0_1 s0_2 = some (r1, r2, r3, r4)) :
  Calls Try.prog 117 #[.pointer (some ⟨g, 0, none⟩)] w fun e w' => ∃ v1_ : Value, e = .returned (.agg #[.int .i64 r1, v1_]) ∧ Kd.R (Kd.int .u64) 153 w' w.heap.size (fun _ => True) v1_ r2 ∧ IsS213 w0 w' g s0_0 r3 r4 ∧ Below w0.heap.size w0 w' ∧ KeepBut w w' g none := by
 have hu47 := Try.underlying47
 have HI0 := Aside0.mk hI
 have HK := Aside0.mk (KeepBut.refl w g none)
 have HL := Aside0.mk hB.size
 clear hI
 have HW0 := Aside0.mk hB.size
 have HB := Aside0.mk hB
 clear hB
 have H : ((spec_l01Cur_lat.f k s0_0 s0_1 s0_2).bind fun bt102 => ((spec_l01Cur_pick.f s0_0 bt102.2.2.1 bt102.2.2.2 12).bind fun bt109 => (if bt109.1 = 0 then ((spec_l01Cur_raw.f s0_0 bt109.2.1 bt109.2.2).bind fun bt112 => ((some (([bt112.1, wrap64 (bt102.1 + 1), wrap64 (bt102.1 - 1)] : List Int) : List Int)).bind fun y115 => ((spec_l01Cur_pick.f s0_0 bt112.2.1 bt112.2.2 3).bind fun bt118 => (if 0 ≤ bt118.1 then (if bt118.1 < (y115.length : Int) then (some (rd y115 bt118.1, bt102.2.1, bt118.2.1, bt118.2.2)) else (none)) else (none))))) else (if bt109.1 = 1 then ((spec_l01Cur_pick.f s0_0 bt109.2.1 bt109.2.2 (bt102.2.1.length : Int)).bind fun bt122 => ((spec_l01Cur_pick.f s0_0 bt122.2.1 bt122.2.2 256).bind fun bt125 => (if 0 ≤ bt122.1 then (if bt122.1 < (bt102.2.1.length : Int) then (some (bt102.1, (bt102.2.1.set (bt122.1 : Int).toNat (IntKind.u64.wrap (bt125.1))), bt125.2.1, bt125.2.2)) else (none)) else (none)))) else (if bt109.1 = 2 then (if bt102.2.1.length < 17592186044416 then (some (bt102.1, (bt102.2.1 ++ [1]), bt109.2.1, bt109.2.2)) else (none)) else (some (bt102.1, bt102.2.1, bt109.2.1, bt109.2.2))))))) = some (r1, r2, r3, r4) := h
 clear h
 replace H := Option.bind_eq_some_iff.mp H
 obtain ⟨⟨t102, t103, t106, t107⟩, A20, H⟩ := H
 replace H : ((spec_l01Cur_pick.f s0_0 t106 t107 12).bind fun bt109 => (if bt109.1 = 0 then ((spec_l01Cur_raw.f s0_0 bt109.2.1 bt109.2.2).bind fun bt112 => ((some (([bt112.1, wrap64 (t102 + 1), wrap64 (t102 - 1)] : List Int) : List Int)).bind fun y115 => ((spec_l01Cur_pick.f s0_0 bt112.2.1 bt112.2.2 3).bind fun bt118 => (if 0 ≤ bt118.1 then (if bt118.1 < (y115.length : Int) then (some (rd y115 bt118.1, t103, bt118.2.1, bt118.2.2)) else (none)) else (none))))) else (if bt109.1 = 1 then ((spec_l01Cur_pick.f s0_0 bt109.2.1 bt109.2.2 (t103.length : Int)).bind fun bt122 => ((spec_l01Cur_pick.f s0_0 bt122.2.1 bt122.2.2 256).bind fun bt125 => (if 0 ≤ bt122.1 then (if bt122.1 < (t103.length : Int) then (some (t102, (t103.set (bt122.1 : Int).toNat (IntKind.u64.wrap (bt125.1))), bt125.2.1, bt125.2.2)) else (none)) else (none)))) else (if bt109.1 = 2 then (if t103.length < 17592186044416 then (some (t102, (t103 ++ [1]), bt109.2.1, bt109.2.2)) else (none)) else (some (t102, t103, bt109.2.1, bt109.2.2)))))) = some (r1, r2, r3, r4) := H
 have A2 := Aside0.mk A20
 clear A20
 replace H := Option.bind_eq_some_iff.mp H
 obtain ⟨⟨t109, t110, t111⟩, A30, H⟩ := H
 replace H : (if t109 = 0 then ((spec_l01Cur_raw.f s0_0 t110 t111).bind fun bt112 => ((some (([bt112.1, wrap64 (t102 + 1), wrap64 (t102 - 1)] : List Int) : List Int)).bind fun y115 => ((spec_l01Cur_pick.f s0_0 bt112.2.1 bt112.2.2 3).bind fun bt118 => (if 0 ≤ bt118.1 then (if bt118.1 < (y115.length : Int) then (some (rd y115 bt118.1, t103, bt118.2.1, bt118.2.2)) else (none)) else (none))))) else (if t109 = 1 then ((spec_l01Cur_pick.f s0_0 t110 t111 (t103.length : Int)).bind fun bt122 => ((spec_l01Cur_pick.f s0_0 bt122.2.1 bt122.2.2 256).bind fun bt125 => (if 0 ≤ bt122.1 then (if bt122.1 < (t103.length : Int) then (some (t102, (t103.set (bt122.1 : Int).toNat (IntKind.u64.wrap (bt125.1))), bt125.2.1, bt125.2.2)) else (none)) else (none)))) else (if t109 = 2 then (if t103.length < 17592186044416 then (some (t102, (t103 ++ [1]), t110, t111)) else (none)) else (some (t102, t103, t110, t111))))) = some (r1, r2, r3, r4) := H
 have A3 := Aside0.mk A30
 clear A30
 by_cases c4 : t109 = 0
 ·rw [if_pos c4] at H
  have c4b0 : (t109 == 0) = true := beq_iff_eq.mpr c4
  have c4b1 : (t109 != 0) = false := bne_eq_false_iff_eq.mpr c4
  clear c4
  replace H := Option.bind_eq_some_iff.mp H
  obtain ⟨⟨t112, t113, t114⟩, A50, H⟩ := H
  replace H : ((some (([t112, wrap64 (t102 + 1), wrap64 (t102 - 1)] : List Int) : List Int)).bind fun y115 => ((spec_l01Cur_pick.f s0_0 t113 t114 3).bind fun bt118 => (if 0 ≤ bt118.1 then (if bt118.1 < (y115.length : Int) then (some (rd y115 bt118.1, t103, bt118.2.1, bt118.2.2)) else (none)) else (none)))) = some (r1, r2, r3, r4) := H
  have A5 := Aside0.mk A50
  clear A50
  obtain ⟨y115, hy115⟩ : ∃ y_ : List Int, y_ = (([t112, wrap64 (t102 + 1), wrap64 (t102 - 1)] : List Int)) := ⟨_, rfl⟩
  replace H : ((spec_l01Cur_pick.f s0_0 t113 t114 3).bind fun bt118 => (if 0 ≤ bt118.1 then (if bt118.1 < (y115.length : Int) then (some (rd y115 bt118.1, t103, bt118.2.1, bt118.2.2)) else (none)) else (none))) = some (r1, r2, r3, r4) := by first | (rw [hy115]; with_reducible exact H) | (have H2_ := (Option.bind_some _ _).symm.trans H; rw [hy115]; with_reducible exact H2_) | (have H2_ := (Option.bind_some _ _).symm.trans H; with_reducible exact H2_) | with_reducible exact H | (rw [hy115]; exact H) | exact H
  have Ny115 := Aside0.mk hy115
  clear hy115
  replace H := Option.bind_eq_some_iff.mp H
  obtain ⟨⟨t118, t119, t120⟩, A60, H⟩ := H
  replace H : (if 0 ≤ t118 then (if t118 < (y115.length : Int) then (some (rd y115 t118, t103, t119, t120)) else (none)) else (none)) = some (r1, r2, r3, r4) := H
  have A6 := Aside0.mk A60
  clear A60
  by_cases c7 : 0 ≤ t118
  ·rw [if_pos c7] at H
   have c7b0 : decide (0 ≤ t118) = true := decide_eq_true c7
   clear c7
   by_cases c8 : t118 < (y115.length : Int)
   ·rw [if_pos c8] at H
    have c8b0 : decide (t118 < (y115.length : Int)) = true := decide_eq_true c8
    clear c8
    simp only [Option.some.injEq, Prod.mk.injEq] at H
    obtain ⟨rfl, rfl, rfl, rfl⟩ := H
    go_enter Try.func117, Try.ntmps117
    try go_wp2_with (first | ((with_reducible refine gate_dst (N := 2) rfl ?_); refine box_event ?hg (N := 2) ?hd (cs := #[.int .i64 0, .slice none 0 0]) (t := 47) ?hr ?_; (case hd => rfl); (case hg => rfl); (case hr => exact qz5); intro gb101 hg w9 hbox hb; have n0_ := Aside0.mk (IsS213.below (qz313 HI0.out) hb); have n1_ := Aside0.mk (KeepBut.trans qz408 (KeepBut.of_below hb g none) (.inl rfl)); have n2_ := Aside0.mk (below_step (qz314 HI0.out) hb); have n3_ := Aside0.mk (hbox); have n4_ := Aside0.mk ((qz414 : w.heap.size ≤ gb101)); have n5_ := Aside0.mk ((Nat.le_trans HW0.out (qz414 : w.heap.size ≤ gb101) : w0.heap.size ≤ gb101)); have n6_ := Aside0.mk ((qz415 HI0.out : g ≠ gb101)); have n7_ := Aside0.mk ((qz416 HI0.out : gb101 ≠ g)); clear HI0; clear HK; clear HB; have HI0 := n0_; have HK := n1_; have HB := n2_; have BK101 := n3_; have GW101 := n4_; have GE101 := n5_; have NB0_101 := n6_; have NB101_0 := n7_; clear n0_ n1_ n2_ n3_ n4_ n5_ n6_ n7_; clear hb hbox hg) | ((with_reducible refine gate_callee (f := 210) rfl ?_); refine goesL_ (some 5) rfl rfl Try.func210 (by kernel_rfl) rfl #[.pointer (some ⟨g, 0, none⟩)] rfl qz1 ?_; (with_reducible refine (spec_l01Cur_lat.calls k g s0_0 s0_1 s0_2 t102 t103 t106 t107 w0 _ ?side1 ?side2 A2.out).mono ?_); (case side1 => exact qz289 HI0.out NB0_101.out); (case side2 => exact qz290 HI0.out GE101.out); rintro e w10 ⟨v104, rfl, ho0, hi, hb, hk⟩; refine ⟨_, rfl, ?_⟩; have n0_ := Aside0.mk (KeepBut.blk hk (g' := gb101) (o := .cells #[.int .i64 0, .slice none 0 0] 47 (0, 0)) (qz8 BK101.out) NB101_0.out (by simp)); have n1_ := Aside0.mk (Kd.R_lower ho0 (keep_size (w := w) (g := g) (row := none) (qz417 GW101.out))); have n2_ := Aside0.mk (KeepBut.trans (qz417 GW101.out) hk (.inl rfl)); have n3_ := Aside0.mk (hb); have n4_ := Aside0.mk (hi); clear BK101; clear HK; clear HB; clear HI0; have BK101 := n0_; have HO105 := n1_; have HK := n2_; have HB := n3_; have HI0 := n4_; clear n0_ n1_ n2_ n3_ n4_; (try clear hb); (try clear hb2); (try clear hk); (try clear hi); (try clear ho0)) | ((with_reducible refine gate_dst (N := 3) rfl ?_); refine box_event ?hg (N := 3) ?hd (cs := #[.int .i64 0, .slice none 0 0]) (t := 47) ?hr ?_; (case hd => rfl); (case hg => rfl); (case hr => exact qz5); intro gb108 hg w11 hbox hb; have n0_ := Aside0.mk (Kd.R_below (qz21 HO105.out) hb); have n1_ := Aside0.mk (IsS213.below (qz289 HI0.out NB0_101.out) hb); have n2_ := Aside0.mk (blk_below (g := gb101) (o := .cells #[.int .i64 0, .slice none 0 0] 47 (0, 0)) (qz8 BK101.out) hb); have n3_ := Aside0.mk (KeepBut.trans (qz417 GW101.out) (KeepBut.of_below hb g none) (.inl rfl)); have n4_ := Aside0.mk (below_step (qz290 HI0.out GE101.out) hb); have n5_ := Aside0.mk (hbox); have n6_ := Aside0.mk ((qz418 GW101.out : w.heap.size ≤ gb108)); have n7_ := Aside0.mk ((Nat.le_trans HW0.out (qz418 GW101.out : w.heap.size ≤ gb108) : w0.heap.size ≤ gb108)); have n8_ := Aside0.mk ((qz39 BK101.out : gb101 ≠ gb108)); have n9_ := Aside0.mk ((qz40 BK101.out : gb108 ≠ gb101)); have n10_ := Aside0.mk ((qz435 HI0.out NB0_101.out : g ≠ gb108)); have n11_ := Aside0.mk ((qz436 HI0.out NB0_101.out : gb108 ≠ g)); clear HO105; clear HI0; clear BK101; clear HK; clear HB; have HO105 := n0_; have HI0 := n1_; have BK101 := n2_; have HK := n3_; have HB := n4_; have BK108 := n5_; have GW108 := n6_; have GE108 := n7_; have NB101_108 := n8_; have NB108_101 := n9_; have NB0_108 := n10_; have NB108_0 := n11_; clear n0_ n1_ n2_ n3_ n4_ n5_ n6_ n7_ n8_ n9_ n10_ n11_; clear hb hbox hg; have hnb12 := NB108_101.out; have hnc12 := NB101_108.out; have hnb13 := NB108_0.out; have hnc13 := NB0_108.out; have hcz14_0 : w11.cell? ⟨gb108, 0, none⟩ = some (.int .i64 0) := (blk_cell BK108.out 0).trans rfl; have hcz14_1 : w11.cell? ⟨gb108, 1, none⟩ = some (.slice none 0 0) := (blk_cell BK108.out 1).trans rfl; have hfz14_0 := blk_frozen BK108.out 0; have hfz14_1 := blk_frozen BK108.out 1; obtain ⟨Ao15, co15, eo15⟩ := Kd.R_slice HO105.out; subst eo15) | ((with_reducible refine gate_callee (f := 134) rfl ?_); refine goesL_ (some 7) rfl rfl Try.func134 (by kernel_rfl) rfl #[.pointer (some ⟨g, 0, none⟩), .int .i64 12] rfl qz1 ?_; (with_reducible refine (spec_l01Cur_pick.calls g s0_0 t106 t107 12 t109 t110 t111 w0 _ ?side1 ?side2 A3.out).mono ?_); (case side1 => exact qz295 HI0.out NB0_101.out NB0_108.out); (case side2 => exact qz296 HI0.out GE101.out GE108.out); rintro e w16 ⟨rfl, hi, hb, hk⟩; refine ⟨_, rfl, ?_⟩; have n0_ := Aside0.mk (KeepBut.blk hk (g' := gb101) (o := .cells #[.int .i64 0, .slice none 0 0] 47 (0, 0)) (qz41 NB101_108.out BK101.out) NB101_0.out (by simp)); have n1_ := Aside0.mk (Kd.R_mono (Kd.R_keep (IsS213.apart (show IsS213 w0 _ g s0_0 t106 t107 from by repeat (first | (with_reducible first | exact HI0.out | apply IsS213.alloc | apply IsS213.drewN | apply IsS213.drew | apply IsS213.set_1 | apply IsS213.set_2 | refine IsS213.far ?_ NB0_101.out _ | refine IsS213.far ?_ NB0_108.out _) | exact HI0.out)) (by (with_reducible repeat (first | apply Kd.R_alloc | apply Kd.R_drewN | apply Kd.R_drew)); exact (Kd.R_mono (Kd.R_far (p := ⟨gb108, 1, none⟩) (Kd.R_far (p := ⟨gb108, 0, none⟩) (Kd.R_types HO105.out BK108.out (by decide)) (fun _ hk => hk.2) (.int .i64 t102)) (fun _ hk => hk.2) (.slice Ao15 t103.length co15)) (fun _ h_ => h_.1))) (by decide)) hk (fun _ h => h.2)) (fun _ h => h.1)); have n2_ := Aside0.mk (KeepBut.blk hk (g' := gb108) (o := .cells #[.int .i64 t102, .slice Ao15 t103.length co15] 47 (0, 0)) (qz167 BK108.out) NB108_0.out (by simp)); have n3_ := Aside0.mk (KeepBut.trans (qz421 GW101.out GW108.out) hk (.inl rfl)); have n4_ := Aside0.mk (hb); have n5_ := Aside0.mk (hi); clear BK101; clear HO105; clear BK108; clear HK; clear HB; clear HI0; have BK101 := n0_; have HO105 := n1_; have BK108 := n2_; have HK := n3_; have HB := n4_; have HI0 := n5_; clear n0_ n1_ n2_ n3_ n4_ n5_; (try clear hb); (try clear hb2); (try clear hk); (try clear hi)))
    have pi121 : (0 ≤ (t118 : Int)) = True := eq_true (of_decide_eq_true qz4)
    have qi121 : (t118 < (y115.length : Int)) = True := eq_true (of_decide_eq_true qz4)
    have n0_ := Aside0.mk (Kd.R_drew HO105.out)
    have n1_ := Aside0.mk (blk_drew BK101.out)
    have n2_ := Aside0.mk (blk_drew BK108.out)
    have n3_ := Aside0.mk (IsS213.drew HI0.out)
    have n4_ := Aside0.mk (keep_drew HK.out)
    have n5_ := Aside0.mk (below_drew1 HB.out)
    clear HO105
    clear BK101
    clear BK108
    clear HI0
    clear HK
    clear HB
    have HO105 := n0_
    have BK101 := n1_
    have BK108 := n2_
    have HI0 := n3_
    have HK := n4_
    have HB := n5_
    clear n0_ n1_ n2_ n3_ n4_ n5_
    refine start_ (n := 15) (S := fun w' => w'.cell? ⟨gb108, 0, none⟩ = some (.int .i64 t102) ∧ w'.cell? ⟨gb108, 1, none⟩ = some (.slice Ao15 t103.length co15)) (ds := [14]) #[false, false, false, false, false, false, false, false, false, false, false, false, false, false, false] (by kernel_rfl) rfl rfl ⟨(blk_cell BK108.out 0).trans rfl, (blk_cell BK108.out 1).trans rfl⟩ (fun hHeld => ?_); refine with_tabW spec_l01Cur_badLat.tab4 spec_l01Cur_badLat.bits4 (fun HT_ HW_ => ?_)
    generalize w16.drew = w17 at HO105 BK101 BK108 HI0 HK HB hHeld ⊢
    refine pure_ (i := 0) (N := some 10) (v := ?_) (a' := ?_) #[true, false, false, false, false, false, false, false, false, false, false, false, false, false, false] rfl rfl (any_of HT_.out (by kernel_rfl)) (fun _ _ _ h => h) (Or.inl ⟨by rfl, ?_⟩) ?_ ?_
    rotate_left
    ·intro w'
     go_simp
     with_reducible rfl
    rotate_left
    ·simp only [Act.put, List.setIfInBounds_toArray, List.set_cons_zero, List.set_cons_succ, i64_w, i32_w]
     rfl
    refine pure_ (i := 2) (N := some 12) (v := ?_) (a' := ?_) #[true, false, true, false, false, false, false, false, false, false, false, false, false, false, false] rfl rfl (any_of HT_.out (by kernel_rfl)) (fun _ _ _ h => h) (Or.inl ⟨by rfl, ?_⟩) ?_ ?_
    rotate_left
    ·intro w'
     go_simp
     with_reducible rfl
    rotate_left
    ·simp only [Act.put, List.setIfInBounds_toArray, List.set_cons_zero, List.set_cons_succ, i64_w, i32_w]
     rfl
    refine pure_ (i := 5) (N := some 15) (v := ?_) (a' := ?_) #[true, false, true, false, false, true, false, false, false, false, false, false, false, false, false] rfl rfl (any_of HT_.out (by kernel_rfl)) (fun _ _ _ h => h) (Or.inl ⟨by rfl, ?_⟩) ?_ ?_
    rotate_left
    ·intro w'
     go_simp
     with_reducible rfl
    rotate_left
    ·simp only [Act.put, List.setIfInBounds_toArray, List.set_cons_zero, List.set_cons_succ, i64_w, i32_w]
     rfl
    refine pure_ (i := 9) (N := some 19) (v := ?_) (a' := ?_) #[true, false, true, false, false, true, false, false, false, true, false, false, false, false, false] rfl rfl (any_of HT_.out (by kernel_rfl)) (fun _ _ _ h => h) (Or.inl ⟨by rfl, ?_⟩) ?_ ?_
    rotate_left
    ·intro w'
     go_simp
     with_reducible rfl
    rotate_left
    ·simp only [Act.put, List.setIfInBounds_toArray, List.set_cons_zero, List.set_cons_succ, i64_w, i32_w]
     rfl
    refine take_ (i := 3) (N := some 13) (v := ?_) (a' := ?_) #[true, false, true, true, false, true, false, false, false, true, false, false, false, false, false] rfl rfl (take_ofW HT_.out HW_.out (by kernel_rfl)) (fun _ _ _ h => h) (Or.inl ⟨by rfl, ?_⟩) hHeld ?_ ?_
    rotate_left
    ·rintro w' ⟨s0, s1⟩
     go_simp
     with_reducible rfl
    rotate_left
    ·simp only [Act.put, List.setIfInBounds_toArray, List.set_cons_zero, List.set_cons_succ, i64_w, i32_w]
     rfl
    refine pure_ (i := 4) (N := some 14) (v := ?_) (a' := ?_) #[true, false, true, true, true, true, false, false, false, true, false, false, false, false, false] rfl rfl (any_of HT_.out (by kernel_rfl)) (fun _ _ _ h => h) (Or.inl ⟨by rfl, ?_⟩) ?_ ?_
    rotate_left
    ·intro w'
     go_simp
     with_reducible rfl
    rotate_left
    ·simp only [Act.put, List.setIfInBounds_toArray, List.set_cons_zero, List.set_cons_succ, i64_w, i32_w]
     rfl
    refine take_ (i := 6) (N := some 16) (v := ?_) (a' := ?_) #[true, false, true, true, true, true, true, false, false, true, false, false, false, false, false] rfl rfl (take_ofW HT_.out HW_.out (by kernel_rfl)) (fun _ _ _ h => h) (Or.inl ⟨by rfl, ?_⟩) hHeld ?_ ?_
    rotate_left
    ·rintro w' ⟨s0, s1⟩
     go_simp
     with_reducible rfl
    rotate_left
    ·simp only [Act.put, List.setIfInBounds_toArray, List.set_cons_zero, List.set_cons_succ, i64_w, i32_w]
     rfl
    refine pure_ (i := 7) (N := some 17) (v := ?_) (a' := ?_) #[true, false, true, true, true, true, true, true, false, true, false, false, false, false, false] rfl rfl (any_of HT_.out (by kernel_rfl)) (fun _ _ _ h => h) (Or.inl ⟨by rfl, ?_⟩) ?_ ?_
    rotate_left
    ·intro w'
     go_simp
     with_reducible rfl
    rotate_left
    ·simp only [Act.put, List.setIfInBounds_toArray, List.set_cons_zero, List.set_cons_succ, i64_w, i32_w]
     rfl
    refine one_ (i := 1) (N := some 11) #[true, true, true, true, true, true, true, true, false, true, false, false, false, false, false] rfl rfl (one_of HT_.out (by kernel_rfl)) (by decide) (fun K hK => ?_)
    refine goes_ Try.func135 (by kernel_rfl) rfl #[.pointer (some ⟨g, 0, none⟩)] (by rfl) rfl rfl qz1 ?_
    with_reducible refine (spec_l01Cur_raw.calls g s0_0 t110 t111 t112 t113 t114 w0 _ ?side1 ?side2 A5.out).mono ?_
    (case side1 => exact qz295 HI0.out NB0_101.out NB0_108.out)
    (case side2 => exact qz296 HI0.out GE101.out GE108.out)
    rintro e w18 ⟨rfl, hi, hb, hk⟩
    refine ⟨_, rfl, ?_⟩
    have n0_ := Aside0.mk (KeepBut.blk hk (g' := gb101) (o := .cells #[.int .i64 0, .slice none 0 0] 47 (0, 0)) (qz8 BK101.out) NB101_0.out (by simp))
    have n1_ := Aside0.mk (Kd.R_mono (Kd.R_keep (IsS213.apart (show IsS213 w0 _ g s0_0 t110 t111 from by repeat (first | (with_reducible first | exact HI0.out | apply IsS213.alloc | apply IsS213.drewN | apply IsS213.drew | apply IsS213.set_1 | apply IsS213.set_2 | refine IsS213.far ?_ NB0_101.out _ | refine IsS213.far ?_ NB0_108.out _) | exact HI0.out)) (qz21 HO105.out) (by decide)) hk (fun _ h => h.2)) (fun _ h => h.1))
    have n2_ := Aside0.mk (KeepBut.blk hk (g' := gb108) (o := .cells #[.int .i64 t102, .slice Ao15 t103.length co15] 47 (0, 0)) (qz8 BK108.out) NB108_0.out (by simp))
    have n3_ := Aside0.mk (KeepBut.trans (qz421 GW101.out GW108.out) hk (.inl rfl))
    have n4_ := Aside0.mk (hb)
    have n5_ := Aside0.mk (hi)
    clear BK101
    clear HO105
    clear BK108
    clear HK
    clear HB
    clear HI0
    have BK101 := n0_
    have HO105 := n1_
    have BK108 := n2_
    have HK := n3_
    have HB := n4_
    have HI0 := n5_
    clear n0_ n1_ n2_ n3_ n4_ n5_
    (try clear hb)
    (try clear hb2)
    (try clear hk)
    (try clear hi)
    refine hK.out _ _ ⟨(blk_cell BK108.out 0).trans rfl, (blk_cell BK108.out 1).trans rfl⟩ (fun hHeld => ?_)
    clear hK K
    refine norm_ (a' := ?_) ?_ ?_
    rotate_left
    ·show Act.put _ (some 11) _ = _
     simp only [Act.put, List.setIfInBounds_toArray, List.set_cons_zero, List.set_cons_succ, i64_w, i32_w]
     rfl
    refine join_ (σ := Value × Addr) 4 #[true, true, true, true, true, true, true, true, true, true, true, false, false, false, false] (fun s_ => [(18, s_.1), (20, .int .i64 t118)]) (fun s_ w' => (w'.cell? ⟨gb108, 0, none⟩ = some (.int .i64 t102) ∧ w'.cell? ⟨gb108, 1, none⟩ = some (.slice Ao15 t103.length co15)) ∧ (Kd.R (Kd.int .u64) 153 w' w.heap.size (fun _ => True) (.slice Ao15 t103.length co15) t103) ∧ (Kd.R (Kd.int .i64) 3 w' w.heap.size (fun _ => True) s_.1 y115) ∧ (∃ c_, (s_.1 : Value) = .slice (some s_.2) y115.length c_) ∧ (w'.heap[gb101]? = some (.cells #[.int .i64 0, .slice none 0 0] 47 (0, 0))) ∧ (w'.heap[gb108]? = some (.cells #[.int .i64 t102, .slice Ao15 t103.length co15] 47 (0, 0))) ∧ (IsS213 w0 w' g s0_0 t119 t120) ∧ (KeepBut w w' g none) ∧ (Below w0.heap.size w0 w')) ?_ ?_
    rotate_left
    ·intro hCont
     refine two_ (i := 8) (j := 10) (Ni := some 18) (Nj := some 20) #[true, true, true, true, true, true, true, true, true, true, false, false, false, false, false] #[true, true, true, true, true, true, true, true, false, true, true, false, false, false, false] rfl rfl rfl rfl (two_of HT_.out (by kernel_rfl)) (by decide) (by decide) (fun K hK => ?_) (fun K hK => ?_)
     ·skip
      refine Kd.R_lit_step (Kd.int .i64) _ 3 ?hg (N := 18) ?hd (xs := ([t112, wrap64 (t102 + 1), wrap64 (t102 - 1)] : List Int)) (inner := [.int .i64 t112, .int .i64 (wrap64 (t102 + 1)), .int .i64 (wrap64 (t102 - 1))]) (ok := fun _ => True) (okp := fun _ => True) ?hr ?hp (fun _ hk => hk) trivial (Below.refl _ _) (Nat.le_refl _) (by simp) ?_; (case hd => rfl); (case hg => rfl); (case hr => exact qz5); (case hp => exact qz442)
      intro v116 w19 ho20 hb hg_ hnew_
      clear hg_ hnew_
      (first | rw [← Ny115.out] at ho20 | (simp only [Int.reduceToNat] at ho20; rw [← Ny115.out] at ho20))
      have n0_ := Aside0.mk (Kd.R_below (qz21 HO105.out) hb)
      have n1_ := Aside0.mk (Kd.R_lower ho20 (keep_size (w := w) (g := g) (row := none) (qz421 GW101.out GW108.out)))
      have n2_ := Aside0.mk (IsS213.below (qz295 HI0.out NB0_101.out NB0_108.out) hb)
      have n3_ := Aside0.mk (blk_below (g := gb101) (o := .cells #[.int .i64 0, .slice none 0 0] 47 (0, 0)) (qz8 BK101.out) hb)
      have n4_ := Aside0.mk (blk_below (g := gb108) (o := .cells #[.int .i64 t102, .slice Ao15 t103.length co15] 47 (0, 0)) (qz8 BK108.out) hb)
      have n5_ := Aside0.mk (KeepBut.trans (qz421 GW101.out GW108.out) (KeepBut.of_below hb g none) (.inl rfl))
      have n6_ := Aside0.mk (below_step (qz296 HI0.out GE101.out GE108.out) hb)
      clear HO105
      clear HI0
      clear BK101
      clear BK108
      clear HK
      clear HB
      have HO105 := n0_
      have HO117 := n1_
      have HI0 := n2_
      have BK101 := n3_
      have BK108 := n4_
      have HK := n5_
      have HB := n6_
      clear n0_ n1_ n2_ n3_ n4_ n5_ n6_
      clear hb ho20
      obtain ⟨Ao21, co21, eo21⟩ := Kd.R_slice HO117.out
      subst eo21
      obtain ⟨ado21, fo21, _⟩ := Kd.at_int (Kd.R_reads' HO117.out).2.2 0 (by decide) (by rw [Ny115.out]; simp)
      cases fo21
      refine hK.out _ _ ⟨(blk_cell BK108.out 0).trans rfl, (blk_cell BK108.out 1).trans rfl⟩ (fun hHeld => ?_)
      clear hK K
      refine norm_ (a' := ?_) ?_ ?_
      rotate_left
      ·show Act.put _ (some 18) _ = _
       simp only [Act.put, List.setIfInBounds_toArray, List.set_cons_zero, List.set_cons_succ, i64_w, i32_w]
       rfl
      refine one_ (i := 10) (N := some 20) #[true, true, true, true, true, true, true, true, true, true, true, false, false, false, false] rfl rfl (one_of HT_.out (by kernel_rfl)) (by decide) (fun K hK => ?_)
      refine goes_ Try.func134 (by kernel_rfl) rfl #[.pointer (some ⟨g, 0, none⟩), .int .i64 3] (by rfl) rfl rfl qz1 ?_
      with_reducible refine (spec_l01Cur_pick.calls g s0_0 t113 t114 3 t118 t119 t120 w0 _ ?side1 ?side2 A6.out).mono ?_
      (case side1 => exact qz295 HI0.out NB0_101.out NB0_108.out)
      (case side2 => exact qz296 HI0.out GE101.out GE108.out)
      rintro e w22 ⟨rfl, hi, hb, hk⟩
      refine ⟨_, rfl, ?_⟩
      have n0_ := Aside0.mk (KeepBut.blk hk (g' := gb101) (o := .cells #[.int .i64 0, .slice none 0 0] 47 (0, 0)) (qz8 BK101.out) NB101_0.out (by simp))
      have n1_ := Aside0.mk (Kd.R_mono (Kd.R_keep (IsS213.apart (show IsS213 w0 _ g s0_0 t113 t114 from by repeat (first | (with_reducible first | exact HI0.out | apply IsS213.alloc | apply IsS213.drewN | apply IsS213.drew | apply IsS213.set_1 | apply IsS213.set_2 | refine IsS213.far ?_ NB0_101.out _ | refine IsS213.far ?_ NB0_108.out _) | exact HI0.out)) (qz21 HO105.out) (by decide)) hk (fun _ h => h.2)) (fun _ h => h.1))
      have n2_ := Aside0.mk (KeepBut.blk hk (g' := gb108) (o := .cells #[.int .i64 t102, .slice Ao15 t103.length co15] 47 (0, 0)) (qz8 BK108.out) NB108_0.out (by simp))
      have n3_ := Aside0.mk (Kd.R_mono (Kd.R_keep (IsS213.apart (show IsS213 w0 _ g s0_0 t113 t114 from by repeat (first | (with_reducible first | exact HI0.out | apply IsS213.alloc | apply IsS213.drewN | apply IsS213.drew | apply IsS213.set_1 | apply IsS213.set_2 | refine IsS213.far ?_ NB0_101.out _ | refine IsS213.far ?_ NB0_108.out _) | exact HI0.out)) (qz21 HO117.out) (by decide)) hk (fun _ h => h.2)) (fun _ h => h.1))
      have n4_ := Aside0.mk (KeepBut.trans (qz421 GW101.out GW108.out) hk (.inl rfl))
      have n5_ := Aside0.mk (hb)
      have n6_ := Aside0.mk (hi)
      clear BK101
      clear HO105
      clear BK108
      clear HO117
      clear HK
      clear HB
      clear HI0
      have BK101 := n0_
      have HO105 := n1_
      have BK108 := n2_
      have HO117 := n3_
      have HK := n4_
      have HB := n5_
      have HI0 := n6_
      clear n0_ n1_ n2_ n3_ n4_ n5_ n6_
      (try clear hb)
      (try clear hb2)
      (try clear hk)
      (try clear hi)
      refine hK.out _ _ ⟨(blk_cell BK108.out 0).trans rfl, (blk_cell BK108.out 1).trans rfl⟩ (fun hHeld => ?_)
      clear hK K
      refine norm_ (a' := ?_) ?_ ?_
      rotate_left
      ·show Act.put _ (some 20) _ = _
       simp only [Act.put, List.setIfInBounds_toArray, List.set_cons_zero, List.set_cons_succ, i64_w, i32_w]
       rfl
      exact norm_ qz85 (hCont (.slice (some ado21) y115.length co21, ado21) _ ⟨hHeld, (qz21 HO105.out), (qz21 HO117.out), ⟨_, rfl⟩, (qz8 BK101.out), (qz8 BK108.out), (qz295 HI0.out NB0_101.out NB0_108.out), (qz421 GW101.out GW108.out), (qz296 HI0.out GE101.out GE108.out)⟩)
     ·skip
      refine goes_ Try.func134 (by kernel_rfl) rfl #[.pointer (some ⟨g, 0, none⟩), .int .i64 3] (by rfl) rfl rfl qz1 ?_
      with_reducible refine (spec_l01Cur_pick.calls g s0_0 t113 t114 3 t118 t119 t120 w0 _ ?side1 ?side2 A6.out).mono ?_
      (case side1 => exact qz295 HI0.out NB0_101.out NB0_108.out)
      (case side2 => exact qz296 HI0.out GE101.out GE108.out)
      rintro e w19 ⟨rfl, hi, hb, hk⟩
      refine ⟨_, rfl, ?_⟩
      have n0_ := Aside0.mk (KeepBut.blk hk (g' := gb101) (o := .cells #[.int .i64 0, .slice none 0 0] 47 (0, 0)) (qz8 BK101.out) NB101_0.out (by simp))
      have n1_ := Aside0.mk (Kd.R_mono (Kd.R_keep (IsS213.apart (show IsS213 w0 _ g s0_0 t113 t114 from by repeat (first | (with_reducible first | exact HI0.out | apply IsS213.alloc | apply IsS213.drewN | apply IsS213.drew | apply IsS213.set_1 | apply IsS213.set_2 | refine IsS213.far ?_ NB0_101.out _ | refine IsS213.far ?_ NB0_108.out _) | exact HI0.out)) (qz21 HO105.out) (by decide)) hk (fun _ h => h.2)) (fun _ h => h.1))
      have n2_ := Aside0.mk (KeepBut.blk hk (g' := gb108) (o := .cells #[.int .i64 t102, .slice Ao15 t103.length co15] 47 (0, 0)) (qz8 BK108.out) NB108_0.out (by simp))
      have n3_ := Aside0.mk (KeepBut.trans (qz421 GW101.out GW108.out) hk (.inl rfl))
      have n4_ := Aside0.mk (hb)
      have n5_ := Aside0.mk (hi)
      clear BK101
      clear HO105
      clear BK108
      clear HK
      clear HB
      clear HI0
      have BK101 := n0_
      have HO105 := n1_
      have BK108 := n2_
      have HK := n3_
      have HB := n4_
      have HI0 := n5_
      clear n0_ n1_ n2_ n3_ n4_ n5_
      (try clear hb)
      (try clear hb2)
      (try clear hk)
      (try clear hi)
      refine hK.out _ _ ⟨(blk_cell BK108.out 0).trans rfl, (blk_cell BK108.out 1).trans rfl⟩ (fun hHeld => ?_)
      clear hK K
      refine norm_ (a' := ?_) ?_ ?_
      rotate_left
      ·show Act.put _ (some 20) _ = _
       simp only [Act.put, List.setIfInBounds_toArray, List.set_cons_zero, List.set_cons_succ, i64_w, i32_w]
       rfl
      refine one_ (i := 8) (N := some 18) #[true, true, true, true, true, true, true, true, true, true, true, false, false, false, false] rfl rfl (one_of HT_.out (by kernel_rfl)) (by decide) (fun K hK => ?_)
      refine Kd.R_lit_step (Kd.int .i64) _ 3 ?hg (N := 18) ?hd (xs := ([t112, wrap64 (t102 + 1), wrap64 (t102 - 1)] : List Int)) (inner := [.int .i64 t112, .int .i64 (wrap64 (t102 + 1)), .int .i64 (wrap64 (t102 - 1))]) (ok := fun _ => True) (okp := fun _ => True) ?hr ?hp (fun _ hk => hk) trivial (Below.refl _ _) (Nat.le_refl _) (by simp) ?_; (case hd => rfl); (case hg => rfl); (case hr => exact qz5); (case hp => exact qz442)
      intro v116 w20 ho21 hb hg_ hnew_
      clear hg_ hnew_
      (first | rw [← Ny115.out] at ho21 | (simp only [Int.reduceToNat] at ho21; rw [← Ny115.out] at ho21))
      have n0_ := Aside0.mk (Kd.R_below (qz21 HO105.out) hb)
      have n1_ := Aside0.mk (Kd.R_lower ho21 (keep_size (w := w) (g := g) (row := none) (qz421 GW101.out GW108.out)))
      have n2_ := Aside0.mk (IsS213.below (qz295 HI0.out NB0_101.out NB0_108.out) hb)
      have n3_ := Aside0.mk (blk_below (g := gb101) (o := .cells #[.int .i64 0, .slice none 0 0] 47 (0, 0)) (qz8 BK101.out) hb)
      have n4_ := Aside0.mk (blk_below (g := gb108) (o := .cells #[.int .i64 t102, .slice Ao15 t103.length co15] 47 (0, 0)) (qz8 BK108.out) hb)
      have n5_ := Aside0.mk (KeepBut.trans (qz421 GW101.out GW108.out) (KeepBut.of_below hb g none) (.inl rfl))
      have n6_ := Aside0.mk (below_step (qz296 HI0.out GE101.out GE108.out) hb)
      clear HO105
      clear HI0
      clear BK101
      clear BK108
      clear HK
      clear HB
      have HO105 := n0_
      have HO117 := n1_
      have HI0 := n2_
      have BK101 := n3_
      have BK108 := n4_
      have HK := n5_
      have HB := n6_
      clear n0_ n1_ n2_ n3_ n4_ n5_ n6_
      clear hb ho21
      obtain ⟨Ao22, co22, eo22⟩ := Kd.R_slice HO117.out
      subst eo22
      obtain ⟨ado22, fo22, _⟩ := Kd.at_int (Kd.R_reads' HO117.out).2.2 0 (by decide) (by rw [Ny115.out]; simp)
      cases fo22
      refine hK.out _ _ ⟨(blk_cell BK108.out 0).trans rfl, (blk_cell BK108.out 1).trans rfl⟩ (fun hHeld => ?_)
      clear hK K
      refine norm_ (a' := ?_) ?_ ?_
      rotate_left
      ·show Act.put _ (some 18) _ = _
       simp only [Act.put, List.setIfInBounds_toArray, List.set_cons_zero, List.set_cons_succ, i64_w, i32_w]
       rfl
      exact norm_ qz85 (hCont (.slice (some ado22) y115.length co22, ado22) _ ⟨hHeld, (qz21 HO105.out), (qz21 HO117.out), ⟨_, rfl⟩, (qz8 BK101.out), (qz8 BK108.out), (qz295 HI0.out NB0_101.out NB0_108.out), (qz421 GW101.out GW108.out), (qz296 HI0.out GE101.out GE108.out)⟩)
    rintro ⟨v116, adz_v116⟩ w23 ⟨hS_, h0_, h1_, h2_, h3_, h4_, h5_, h6_, h7_⟩
    have n0_ : Aside0 (Kd.R (Kd.int .u64) 153 w23 w.heap.size (fun _ => True) (.slice Ao15 t103.length co15) t103) := ⟨h0_⟩
    have n1_ : Aside0 (Kd.R (Kd.int .i64) 3 w23 w.heap.size (fun _ => True) v116 y115) := ⟨h1_⟩
    have n2_ : Aside0 (∃ c_, (v116 : Value) = .slice (some adz_v116) y115.length c_) := ⟨h2_⟩
    have n3_ : Aside0 (w23.heap[gb101]? = some (.cells #[.int .i64 0, .slice none 0 0] 47 (0, 0))) := ⟨h3_⟩
    have n4_ : Aside0 (w23.heap[gb108]? = some (.cells #[.int .i64 t102, .slice Ao15 t103.length co15] 47 (0, 0))) := ⟨h4_⟩
    have n5_ : Aside0 (IsS213 w0 w23 g s0_0 t119 t120) := ⟨h5_⟩
    have n6_ : Aside0 (KeepBut w w23 g none) := ⟨h6_⟩
    have n7_ : Aside0 (Below w0.heap.size w0 w23) := ⟨h7_⟩
    clear HO105
    clear BK101
    clear BK108
    clear HI0
    clear HK
    clear HB
    clear h0_ h1_ h2_ h3_ h4_ h5_ h6_ h7_
    have HO105 := n0_
    have HO117 := n1_
    have HA_HO117 := n2_
    have BK101 := n3_
    have BK108 := n4_
    have HI0 := n5_
    have HK := n6_
    have HB := n7_
    clear n0_ n1_ n2_ n3_ n4_ n5_ n6_ n7_
    have hHeld : w23.cell? ⟨gb108, 0, none⟩ = some (.int .i64 t102) ∧ w23.cell? ⟨gb108, 1, none⟩ = some (.slice Ao15 t103.length co15) := hS_
    obtain ⟨co24, eo24⟩ := HA_HO117.out
    clear HA_HO117
    subst eo24
    refine norm_ (a' := ?_) ?_ ?_
    rotate_left
    ·simp only [putAll, Act.put, List.setIfInBounds_toArray, List.set_cons_zero, List.set_cons_succ]
     rfl
    refine pure_ (i := 11) (N := some 21) (v := ?_) (a' := ?_) #[true, true, true, true, true, true, true, true, true, true, true, true, false, false, false] rfl rfl (any_of HT_.out (by kernel_rfl)) (fun _ _ _ h => h) (Or.inl ⟨by rfl, ?_⟩) ?_ ?_
    rotate_left
    ·intro w'
     go_simp
     with_reducible rfl
    rotate_left
    ·simp only [Act.put, List.setIfInBounds_toArray, List.set_cons_zero, List.set_cons_succ, i64_w, i32_w]
     rfl
    refine one_ (i := 12) (N := some 22) #[true, true, true, true, true, true, true, true, true, true, true, true, true, false, false] rfl rfl (one_of HT_.out (by kernel_rfl)) (by decide) (fun K hK => ?_)
    (have p121 : 0 ≤ (t118 : Int) := of_decide_eq_true qz4; have q121 : t118 < (y115.length : Int) := of_decide_eq_true qz4; obtain ⟨ad121, e121, hx121_0⟩ := Kd.at_int (Kd.R_reads' HO117.out).2.2 t118 p121 q121; obtain rfl : adz_v116 = ad121 := (by injection e121))
    refine value_ (w1 := ?_) (v := ?_) (by rfl) rfl ?_ ?_
    rotate_left 2
    ·go_simp
     constructor
     ·rfl
     ·rfl
    clear hx121_0
    refine hK.out _ _ ⟨(blk_cell BK108.out 0).trans rfl, (blk_cell BK108.out 1).trans rfl⟩ (fun hHeld => ?_)
    clear hK K
    refine norm_ (a' := ?_) ?_ ?_
    rotate_left
    ·show Act.put _ (some 22) _ = _
     simp only [Act.put, List.setIfInBounds_toArray, List.set_cons_zero, List.set_cons_succ, i64_w, i32_w]
     rfl
    refine pure_ (i := 13) (N := some 23) (v := ?_) (a' := ?_) #[true, true, true, true, true, true, true, true, true, true, true, true, true, true, false] rfl rfl (any_of HT_.out (by kernel_rfl)) (fun _ _ _ h => h) (Or.inl ⟨by rfl, ?_⟩) ?_ ?_
    rotate_left
    ·intro w'
     go_simp
     with_reducible rfl
    rotate_left
    ·simp only [Act.put, List.setIfInBounds_toArray, List.set_cons_zero, List.set_cons_succ, i64_w, i32_w]
     rfl
    refine last_ (i := 14) (N := none) #[true, true, true, true, true, true, true, true, true, true, true, true, true, true, true] rfl rfl (one_of HT_.out (by kernel_rfl)) (by decide) (fun K hK => ?_)
    have hs25 : w23.cell? ⟨gb108, 0, none⟩ = some (.int .i64 t102) := (blk_cell BK108.out 0).trans rfl
    have hfs25 := blk_frozen BK108.out 0
    have hns25_0 := NB101_108.out
    have hms25_0 := NB108_101.out
    refine skip_ (w1 := ?_) (by rfl) rfl ?_ ?_
    rotate_left
    ·go_simp
     rfl
    refine hK.out _ _ ?_
    clear hK K
    refine done_ (done_of HT_.out (by kernel_rfl)) ?_
    have hcz26_0 : w23.cell? ⟨gb108, 0, none⟩ = some (.int .i64 t102) := (blk_cell BK108.out 0).trans rfl
    have hcz26_1 : w23.cell? ⟨gb108, 1, none⟩ = some (.slice Ao15 t103.length co15) := (blk_cell BK108.out 1).trans rfl
    have hfz26_0 := blk_frozen BK108.out 0
    have hfz26_1 := blk_frozen BK108.out 1
    have hnb27 := NB101_0.out
    have hnc27 := NB0_101.out
    have hcz28_0 : w23.cell? ⟨gb101, 0, none⟩ = some (.int .i64 0) := (blk_cell BK101.out 0).trans rfl
    have hcz28_1 : w23.cell? ⟨gb101, 1, none⟩ = some (.slice none 0 0) := (blk_cell BK101.out 1).trans rfl
    have hfz28_0 := blk_frozen BK101.out 0
    have hfz28_1 := blk_frozen BK101.out 1
    try go_wp2
    refine bodyPost_ret (results_cell_row rfl _ _ gb101 47 #[.int .i64 (rd y115 t118), .slice Ao15 t103.length co15] (0, 0) _ rfl (by (with_reducible repeat (first | refine blk_drewN ?_ _ | refine blk_drew ?_ | refine blk_alloc ?_ _)); refine blk_put (cs := #[.int .i64 (rd y115 t118), .slice none 0 0]) ?_ 1 _ rfl; (with_reducible repeat (first | refine blk_drewN ?_ _ | refine blk_drew ?_ | refine blk_alloc ?_ _)); refine blk_put (cs := #[.int .i64 0, .slice none 0 0]) ?_ 0 _ rfl; (with_reducible repeat (first | refine blk_drewN ?_ _ | refine blk_drew ?_ | refine blk_alloc ?_ _)); refine blk_far ?_ NB101_108.out _; (with_reducible repeat (first | refine blk_drewN ?_ _ | refine blk_drew ?_ | refine blk_alloc ?_ _)); exact BK101.out) Try.underlying47 rfl (by kernel_rfl)) rfl ?_
    exact ⟨_, qz13, by (with_reducible repeat (first | apply Kd.R_alloc | apply Kd.R_drewN | apply Kd.R_drew)); exact Kd.R_mono (Kd.R_far (p := ⟨gb101, 1, none⟩) (Kd.R_far (p := ⟨gb101, 0, none⟩) (Kd.R_far (p := ⟨gb108, 0, none⟩) (Kd.R_types (Kd.R_types HO105.out BK108.out (by decide)) BK101.out (by decide)) (fun _ hk => hk.1.2) (.int .i64 (rd y115 t118))) (fun _ hk => hk.2) (.int .i64 (rd y115 t118))) (fun _ hk => hk.2) (.slice Ao15 t103.length co15)) (fun _ hk => trivial), qz295 HI0.out NB0_101.out NB0_108.out, qz296 HI0.out GE101.out GE108.out, qz421 GW101.out GW108.out⟩
   ·rw [if_neg c8] at H
    exact absurd H (by simp)
  ·rw [if_neg c7] at H
   exact absurd H (by simp)
 ·rw [if_neg c4] at H
  have c4b0 : (t109 == 0) = false := beq_eq_false_iff_ne.mpr c4
  have c4b1 : (t109 != 0) = true := bne_iff_ne.mpr c4
  by_cases c29 : t109 = 1
  ·rw [if_pos c29] at H
   have c29b0 : (t109 == 1) = true := beq_iff_eq.mpr c29
   have c29b1 : (t109 != 1) = false := bne_eq_false_iff_eq.mpr c29
   clear c29
   replace H := Option.bind_eq_some_iff.mp H
   obtain ⟨⟨t122, t123, t124⟩, A300, H⟩ := H
   replace H : ((spec_l01Cur_pick.f s0_0 t123 t124 256).bind fun bt125 => (if 0 ≤ t122 then (if t122 < (t103.length : Int) then (some (t102, (t103.set (t122 : Int).toNat (IntKind.u64.wrap (bt125.1))), bt125.2.1, bt125.2.2)) else (none)) else (none))) = some (r1, r2, r3, r4) := H
   have A30 := Aside0.mk A300
   clear A300
   replace H := Option.bind_eq_some_iff.mp H
   obtain ⟨⟨t125, t126, t127⟩, A310, H⟩ := H
   replace H : (if 0 ≤ t122 then (if t122 < (t103.length : Int) then (some (t102, (t103.set (t122 : Int).toNat (IntKind.u64.wrap (t125))), t126, t127)) else (none)) else (none)) = some (r1, r2, r3, r4) := H
   have A31 := Aside0.mk A310
   clear A310
   by_cases c32 : 0 ≤ t122
   ·rw [if_pos c32] at H
    have c32b0 : decide (0 ≤ t122) = true := decide_eq_true c32
    clear c32
    by_cases c33 : t122 < (t103.length : Int)
    ·rw [if_pos c33] at H
     have c33b0 : decide (t122 < (t103.length : Int)) = true := decide_eq_true c33
     clear c33
     obtain ⟨y128, hy128⟩ : ∃ y_ : List Int, y_ = (t103.set (t122 : Int).toNat (IntKind.u64.wrap (t125))) := ⟨_, rfl⟩
     replace H : (some (t102, y128, t126, t127)) = some (r1, r2, r3, r4) := by first | (rw [hy128]; with_reducible exact H) | (have H2_ := (Option.bind_some _ _).symm.trans H; rw [hy128]; with_reducible exact H2_) | (have H2_ := (Option.bind_some _ _).symm.trans H; with_reducible exact H2_) | with_reducible exact H | (rw [hy128]; exact H) | exact H
     have Ny128 := Aside0.mk hy128
     clear hy128
     simp only [Option.some.injEq, Prod.mk.injEq] at H
     obtain ⟨rfl, rfl, rfl, rfl⟩ := H
     go_enter Try.func117, Try.ntmps117
     try go_wp2_with (first | ((with_reducible refine gate_dst (N := 2) rfl ?_); refine box_event ?hg (N := 2) ?hd (cs := #[.int .i64 0, .slice none 0 0]) (t := 47) ?hr ?_; (case hd => rfl); (case hg => rfl); (case hr => exact qz5); intro gb101 hg w35 hbox hb; have n0_ := Aside0.mk (IsS213.below (qz313 HI0.out) hb); have n1_ := Aside0.mk (KeepBut.trans qz408 (KeepBut.of_below hb g none) (.inl rfl)); have n2_ := Aside0.mk (below_step (qz314 HI0.out) hb); have n3_ := Aside0.mk (hbox); have n4_ := Aside0.mk ((qz414 : w.heap.size ≤ gb101)); have n5_ := Aside0.mk ((Nat.le_trans HW0.out (qz414 : w.heap.size ≤ gb101) : w0.heap.size ≤ gb101)); have n6_ := Aside0.mk ((qz415 HI0.out : g ≠ gb101)); have n7_ := Aside0.mk ((qz416 HI0.out : gb101 ≠ g)); clear HI0; clear HK; clear HB; have HI0 := n0_; have HK := n1_; have HB := n2_; have BK101 := n3_; have GW101 := n4_; have GE101 := n5_; have NB0_101 := n6_; have NB101_0 := n7_; clear n0_ n1_ n2_ n3_ n4_ n5_ n6_ n7_; clear hb hbox hg) | ((with_reducible refine gate_callee (f := 210) rfl ?_); refine goesL_ (some 5) rfl rfl Try.func210 (by kernel_rfl) rfl #[.pointer (some ⟨g, 0, none⟩)] rfl qz1 ?_; (with_reducible refine (spec_l01Cur_lat.calls k g s0_0 s0_1 s0_2 t102 t103 t106 t107 w0 _ ?side1 ?side2 A2.out).mono ?_); (case side1 => exact qz289 HI0.out NB0_101.out); (case side2 => exact qz290 HI0.out GE101.out); rintro e w36 ⟨v104, rfl, ho0, hi, hb, hk⟩; refine ⟨_, rfl, ?_⟩; have n0_ := Aside0.mk (KeepBut.blk hk (g' := gb101) (o := .cells #[.int .i64 0, .slice none 0 0] 47 (0, 0)) (qz8 BK101.out) NB101_0.out (by simp)); have n1_ := Aside0.mk (Kd.R_lower ho0 (keep_size (w := w) (g := g) (row := none) (qz417 GW101.out))); have n2_ := Aside0.mk (KeepBut.trans (qz417 GW101.out) hk (.inl rfl)); have n3_ := Aside0.mk (hb); have n4_ := Aside0.mk (hi); clear BK101; clear HK; clear HB; clear HI0; have BK101 := n0_; have HO105 := n1_; have HK := n2_; have HB := n3_; have HI0 := n4_; clear n0_ n1_ n2_ n3_ n4_; (try clear hb); (try clear hb2); (try clear hk); (try clear hi); (try clear ho0)) | ((with_reducible refine gate_dst (N := 3) rfl ?_); refine box_event ?hg (N := 3) ?hd (cs := #[.int .i64 0, .slice none 0 0]) (t := 47) ?hr ?_; (case hd => rfl); (case hg => rfl); (case hr => exact qz5); intro gb108 hg w37 hbox hb; have n0_ := Aside0.mk (Kd.R_below (qz21 HO105.out) hb); have n1_ := Aside0.mk (IsS213.below (qz289 HI0.out NB0_101.out) hb); have n2_ := Aside0.mk (blk_below (g := gb101) (o := .cells #[.int .i64 0, .slice none 0 0] 47 (0, 0)) (qz8 BK101.out) hb); have n3_ := Aside0.mk (KeepBut.trans (qz417 GW101.out) (KeepBut.of_below hb g none) (.inl rfl)); have n4_ := Aside0.mk (below_step (qz290 HI0.out GE101.out) hb); have n5_ := Aside0.mk (hbox); have n6_ := Aside0.mk ((qz418 GW101.out : w.heap.size ≤ gb108)); have n7_ := Aside0.mk ((Nat.le_trans HW0.out (qz418 GW101.out : w.heap.size ≤ gb108) : w0.heap.size ≤ gb108)); have n8_ := Aside0.mk ((qz39 BK101.out : gb101 ≠ gb108)); have n9_ := Aside0.mk ((qz40 BK101.out : gb108 ≠ gb101)); have n10_ := Aside0.mk ((qz435 HI0.out NB0_101.out : g ≠ gb108)); have n11_ := Aside0.mk ((qz436 HI0.out NB0_101.out : gb108 ≠ g)); clear HO105; clear HI0; clear BK101; clear HK; clear HB; have HO105 := n0_; have HI0 := n1_; have BK101 := n2_; have HK := n3_; have HB := n4_; have BK108 := n5_; have GW108 := n6_; have GE108 := n7_; have NB101_108 := n8_; have NB108_101 := n9_; have NB0_108 := n10_; have NB108_0 := n11_; clear n0_ n1_ n2_ n3_ n4_ n5_ n6_ n7_ n8_ n9_ n10_ n11_; clear hb hbox hg; have hnb38 := NB108_101.out; have hnc38 := NB101_108.out; have hnb39 := NB108_0.out; have hnc39 := NB0_108.out; have hcz40_0 : w37.cell? ⟨gb108, 0, none⟩ = some (.int .i64 0) := (blk_cell BK108.out 0).trans rfl; have hcz40_1 : w37.cell? ⟨gb108, 1, none⟩ = some (.slice none 0 0) := (blk_cell BK108.out 1).trans rfl; have hfz40_0 := blk_frozen BK108.out 0; have hfz40_1 := blk_frozen BK108.out 1; obtain ⟨Ao41, co41, eo41⟩ := Kd.R_slice HO105.out; subst eo41) | ((with_reducible refine gate_callee (f := 134) rfl ?_); refine goesL_ (some 7) rfl rfl Try.func134 (by kernel_rfl) rfl #[.pointer (some ⟨g, 0, none⟩), .int .i64 12] rfl qz1 ?_; (with_reducible refine (spec_l01Cur_pick.calls g s0_0 t106 t107 12 t109 t110 t111 w0 _ ?side1 ?side2 A3.out).mono ?_); (case side1 => exact qz295 HI0.out NB0_101.out NB0_108.out); (case side2 => exact qz296 HI0.out GE101.out GE108.out); rintro e w42 ⟨rfl, hi, hb, hk⟩; refine ⟨_, rfl, ?_⟩; have n0_ := Aside0.mk (KeepBut.blk hk (g' := gb101) (o := .cells #[.int .i64 0, .slice none 0 0] 47 (0, 0)) (qz41 NB101_108.out BK101.out) NB101_0.out (by simp)); have n1_ := Aside0.mk (Kd.R_mono (Kd.R_keep (IsS213.apart (show IsS213 w0 _ g s0_0 t106 t107 from by repeat (first | (with_reducible first | exact HI0.out | apply IsS213.alloc | apply IsS213.drewN | apply IsS213.drew | apply IsS213.set_1 | apply IsS213.set_2 | refine IsS213.far ?_ NB0_101.out _ | refine IsS213.far ?_ NB0_108.out _) | exact HI0.out)) (by (with_reducible repeat (first | apply Kd.R_alloc | apply Kd.R_drewN | apply Kd.R_drew)); exact (Kd.R_mono (Kd.R_far (p := ⟨gb108, 1, none⟩) (Kd.R_far (p := ⟨gb108, 0, none⟩) (Kd.R_types HO105.out BK108.out (by decide)) (fun _ hk => hk.2) (.int .i64 t102)) (fun _ hk => hk.2) (.slice Ao41 t103.length co41)) (fun _ h_ => h_.1))) (by decide)) hk (fun _ h => h.2)) (fun _ h => h.1)); have n2_ := Aside0.mk (KeepBut.blk hk (g' := gb108) (o := .cells #[.int .i64 t102, .slice Ao41 t103.length co41] 47 (0, 0)) (qz167 BK108.out) NB108_0.out (by simp)); have n3_ := Aside0.mk (KeepBut.trans (qz421 GW101.out GW108.out) hk (.inl rfl)); have n4_ := Aside0.mk (hb); have n5_ := Aside0.mk (hi); clear BK101; clear HO105; clear BK108; clear HK; clear HB; clear HI0; have BK101 := n0_; have HO105 := n1_; have BK108 := n2_; have HK := n3_; have HB := n4_; have HI0 := n5_; clear n0_ n1_ n2_ n3_ n4_ n5_; (try clear hb); (try clear hb2); (try clear hk); (try clear hi)))
     have n0_ := Aside0.mk (Kd.R_drew HO105.out)
     have n1_ := Aside0.mk (blk_drew BK101.out)
     have n2_ := Aside0.mk (blk_drew BK108.out)
     have n3_ := Aside0.mk (IsS213.drew HI0.out)
     have n4_ := Aside0.mk (keep_drew HK.out)
     have n5_ := Aside0.mk (below_drew1 HB.out)
     clear HO105
     clear BK101
     clear BK108
     clear HI0
     clear HK
     clear HB
     have HO105 := n0_
     have BK101 := n1_
     have BK108 := n2_
     have HI0 := n3_
     have HK := n4_
     have HB := n5_
     clear n0_ n1_ n2_ n3_ n4_ n5_
     refine start_ (n := 12) (S := fun w' => w'.cell? ⟨gb108, 0, none⟩ = some (.int .i64 t102) ∧ w'.cell? ⟨gb108, 1, none⟩ = some (.slice Ao41 t103.length co41)) (ds := [11]) #[false, false, false, false, false, false, false, false, false, false, false, false] (by kernel_rfl) rfl rfl ⟨(blk_cell BK108.out 0).trans rfl, (blk_cell BK108.out 1).trans rfl⟩ (fun hHeld => ?_); refine with_tabW spec_l01Cur_badLat.tab6 spec_l01Cur_badLat.bits6 (fun HT_ HW_ => ?_)
     generalize w42.drew = w43 at HO105 BK101 BK108 HI0 HK HB hHeld ⊢
     refine pure_ (i := 0) (N := some 26) (v := ?_) (a' := ?_) #[true, false, false, false, false, false, false, false, false, false, false, false] rfl rfl (any_of HT_.out (by kernel_rfl)) (fun _ _ _ h => h) (Or.inl ⟨by rfl, ?_⟩) ?_ ?_
     rotate_left
     ·intro w'
      go_simp
      with_reducible rfl
     rotate_left
     ·simp only [Act.put, List.setIfInBounds_toArray, List.set_cons_zero, List.set_cons_succ, i64_w, i32_w]
      rfl
     refine pure_ (i := 2) (N := some 28) (v := ?_) (a' := ?_) #[true, false, true, false, false, false, false, false, false, false, false, false] rfl rfl (any_of HT_.out (by kernel_rfl)) (fun _ _ _ h => h) (Or.inl ⟨by rfl, ?_⟩) ?_ ?_
     rotate_left
     ·intro w'
      go_simp
      with_reducible rfl
     rotate_left
     ·simp only [Act.put, List.setIfInBounds_toArray, List.set_cons_zero, List.set_cons_succ, i64_w, i32_w]
      rfl
     refine pure_ (i := 3) (N := some 29) (v := ?_) (a' := ?_) #[true, false, true, true, false, false, false, false, false, false, false, false] rfl rfl (any_of HT_.out (by kernel_rfl)) (fun _ _ _ h => h) (Or.inl ⟨by rfl, ?_⟩) ?_ ?_
     rotate_left
     ·intro w'
      go_simp
      with_reducible rfl
     rotate_left
     ·simp only [Act.put, List.setIfInBounds_toArray, List.set_cons_zero, List.set_cons_succ, i64_w, i32_w]
      rfl
     refine pure_ (i := 7) (N := some 33) (v := ?_) (a' := ?_) #[true, false, true, true, false, false, false, true, false, false, false, false] rfl rfl (any_of HT_.out (by kernel_rfl)) (fun _ _ _ h => h) (Or.inl ⟨by rfl, ?_⟩) ?_ ?_
     rotate_left
     ·intro w'
      go_simp
      with_reducible rfl
     rotate_left
     ·simp only [Act.put, List.setIfInBounds_toArray, List.set_cons_zero, List.set_cons_succ, i64_w, i32_w]
      rfl
     refine take_ (i := 1) (N := some 27) (v := ?_) (a' := ?_) #[true, true, true, true, false, false, false, true, false, false, false, false] rfl rfl (take_ofW HT_.out HW_.out (by kernel_rfl)) (fun _ _ _ h => h) (Or.inl ⟨by rfl, ?_⟩) hHeld ?_ ?_
     rotate_left
     ·rintro w' ⟨s0, s1⟩
      go_simp
      with_reducible rfl
     rotate_left
     ·simp only [Act.put, List.setIfInBounds_toArray, List.set_cons_zero, List.set_cons_succ, i64_w, i32_w]
      rfl
     refine take_ (i := 4) (N := some 30) (v := ?_) (a' := ?_) #[true, true, true, true, true, false, false, true, false, false, false, false] rfl rfl (take_ofW HT_.out HW_.out (by kernel_rfl)) (fun _ _ _ h => h) (Or.inl ⟨by rfl, ?_⟩) hHeld ?_ ?_
     rotate_left
     ·rintro w' ⟨s0, s1⟩
      go_simp
      with_reducible rfl
     rotate_left
     ·simp only [Act.put, List.setIfInBounds_toArray, List.set_cons_zero, List.set_cons_succ, i64_w, i32_w]
      rfl
     refine pure_ (i := 5) (N := some 31) (v := ?_) (a' := ?_) #[true, true, true, true, true, true, false, true, false, false, false, false] rfl rfl (any_of HT_.out (by kernel_rfl)) (fun _ _ _ h => h) (Or.inl ⟨by rfl, ?_⟩) ?_ ?_
     rotate_left
     ·intro w'
      go_simp
      with_reducible rfl
     rotate_left
     ·simp only [Act.put, List.setIfInBounds_toArray, List.set_cons_zero, List.set_cons_succ, i64_w, i32_w]
      rfl
     refine one_ (i := 6) (N := some 32) #[true, true, true, true, true, true, true, true, false, false, false, false] rfl rfl (one_of HT_.out (by kernel_rfl)) (by decide) (fun K hK => ?_)
     refine goes_ Try.func134 (by kernel_rfl) rfl #[.pointer (some ⟨g, 0, none⟩), .int .i64 (t103.length : Int)] (by rfl) rfl rfl qz1 ?_
     with_reducible refine (spec_l01Cur_pick.calls g s0_0 t110 t111 (t103.length : Int) t122 t123 t124 w0 _ ?side1 ?side2 A30.out).mono ?_
     (case side1 => exact qz295 HI0.out NB0_101.out NB0_108.out)
     (case side2 => exact qz296 HI0.out GE101.out GE108.out)
     rintro e w44 ⟨rfl, hi, hb, hk⟩
     refine ⟨_, rfl, ?_⟩
     have n0_ := Aside0.mk (KeepBut.blk hk (g' := gb101) (o := .cells #[.int .i64 0, .slice none 0 0] 47 (0, 0)) (qz8 BK101.out) NB101_0.out (by simp))
     have n1_ := Aside0.mk (Kd.R_mono (Kd.R_keep (IsS213.apart (show IsS213 w0 _ g s0_0 t110 t111 from by repeat (first | (with_reducible first | exact HI0.out | apply IsS213.alloc | apply IsS213.drewN | apply IsS213.drew | apply IsS213.set_1 | apply IsS213.set_2 | refine IsS213.far ?_ NB0_101.out _ | refine IsS213.far ?_ NB0_108.out _) | exact HI0.out)) (qz21 HO105.out) (by decide)) hk (fun _ h => h.2)) (fun _ h => h.1))
     have n2_ := Aside0.mk (KeepBut.blk hk (g' := gb108) (o := .cells #[.int .i64 t102, .slice Ao41 t103.length co41] 47 (0, 0)) (qz8 BK108.out) NB108_0.out (by simp))
     have n3_ := Aside0.mk (KeepBut.trans (qz421 GW101.out GW108.out) hk (.inl rfl))
     have n4_ := Aside0.mk (hb)
     have n5_ := Aside0.mk (hi)
     clear BK101
     clear HO105
     clear BK108
     clear HK
     clear HB
     clear HI0
     have BK101 := n0_
     have HO105 := n1_
     have BK108 := n2_
     have HK := n3_
     have HB := n4_
     have HI0 := n5_
     clear n0_ n1_ n2_ n3_ n4_ n5_
     (try clear hb)
     (try clear hb2)
     (try clear hk)
     (try clear hi)
     refine hK.out _ _ ⟨(blk_cell BK108.out 0).trans rfl, (blk_cell BK108.out 1).trans rfl⟩ (fun hHeld => ?_)
     clear hK K
     refine norm_ (a' := ?_) ?_ ?_
     rotate_left
     ·show Act.put _ (some 32) _ = _
      simp only [Act.put, List.setIfInBounds_toArray, List.set_cons_zero, List.set_cons_succ, i64_w, i32_w]
      rfl
     refine one_ (i := 8) (N := some 34) #[true, true, true, true, true, true, true, true, true, false, false, false] rfl rfl (one_of HT_.out (by kernel_rfl)) (by decide) (fun K hK => ?_)
     refine goes_ Try.func134 (by kernel_rfl) rfl #[.pointer (some ⟨g, 0, none⟩), .int .i64 256] (by rfl) rfl rfl qz1 ?_
     with_reducible refine (spec_l01Cur_pick.calls g s0_0 t123 t124 256 t125 t126 t127 w0 _ ?side1 ?side2 A31.out).mono ?_
     (case side1 => exact qz295 HI0.out NB0_101.out NB0_108.out)
     (case side2 => exact qz296 HI0.out GE101.out GE108.out)
     rintro e w45 ⟨rfl, hi, hb, hk⟩
     refine ⟨_, rfl, ?_⟩
     have n0_ := Aside0.mk (KeepBut.blk hk (g' := gb101) (o := .cells #[.int .i64 0, .slice none 0 0] 47 (0, 0)) (qz8 BK101.out) NB101_0.out (by simp))
     have n1_ := Aside0.mk (Kd.R_mono (Kd.R_keep (IsS213.apart (show IsS213 w0 _ g s0_0 t123 t124 from by repeat (first | (with_reducible first | exact HI0.out | apply IsS213.alloc | apply IsS213.drewN | apply IsS213.drew | apply IsS213.set_1 | apply IsS213.set_2 | refine IsS213.far ?_ NB0_101.out _ | refine IsS213.far ?_ NB0_108.out _) | exact HI0.out)) (qz21 HO105.out) (by decide)) hk (fun _ h => h.2)) (fun _ h => h.1))
     have n2_ := Aside0.mk (KeepBut.blk hk (g' := gb108) (o := .cells #[.int .i64 t102, .slice Ao41 t103.length co41] 47 (0, 0)) (qz8 BK108.out) NB108_0.out (by simp))
     have n3_ := Aside0.mk (KeepBut.trans (qz421 GW101.out GW108.out) hk (.inl rfl))
     have n4_ := Aside0.mk (hb)
     have n5_ := Aside0.mk (hi)
     clear BK101
     clear HO105
     clear BK108
     clear HK
     clear HB
     clear HI0
     have BK101 := n0_
     have HO105 := n1_
     have BK108 := n2_
     have HK := n3_
     have HB := n4_
     have HI0 := n5_
     clear n0_ n1_ n2_ n3_ n4_ n5_
     (try clear hb)
     (try clear hb2)
     (try clear hk)
     (try clear hi)
     have p34 : 0 ≤ (t122 : Int) := of_decide_eq_true qz4
     have q34 : (t122 : Int) < ((t103.length : Int) : Int) := of_decide_eq_true qz4
     obtain ⟨go34, co34, eo34, gb34, gl34, cl34, HG34⟩ := Kd.R_form HO105.out (by omega)
     (first | cases eo34 | (injection eo34 with ea_ en_ ec_; (first | subst ea_ | (injection ea_ with ea_; subst ea_)); subst ec_; clear en_))
     have GB34 := Aside0.mk gb34
     have GG34 := Aside0.mk HG34
     clear gb34 gl34 HG34
     obtain ⟨hx34_0, hf34_0⟩ := Kd.R_celln 0 HO105.out (t122 : Int) p34 q34
     replace p34 := eq_true p34
     replace q34 := eq_true q34
     have HN0_go34 := Aside0.mk (show g ≠ go34 from by have h_ := IsS213.own_ne HI0.out HO105.out (by decide); intro e_; exact h_ (by rw [e_]; rfl))
     have HP46 := Kd.R_putn HO105.out (t122 : Int) (IntKind.u64.wrap (t125))
     rw [← Ny128.out] at HP46
     have HQ46 := Aside0.mk HP46
     clear HP46
     refine hK.out _ _ ⟨(blk_cell BK108.out 0).trans rfl, (blk_cell BK108.out 1).trans rfl⟩ (fun hHeld => ?_)
     clear hK K
     refine norm_ (a' := ?_) ?_ ?_
     rotate_left
     ·show Act.put _ (some 34) _ = _
      simp only [Act.put, List.setIfInBounds_toArray, List.set_cons_zero, List.set_cons_succ, i64_w, i32_w]
      rfl
     refine pure_ (i := 9) (N := some 35) (v := ?_) (a' := ?_) #[true, true, true, true, true, true, true, true, true, true, false, false] rfl rfl (any_of HT_.out (by kernel_rfl)) (fun _ _ _ h => h) (Or.inl ⟨by rfl, ?_⟩) ?_ ?_
     rotate_left
     ·intro w'
      go_simp
      with_reducible rfl
     rotate_left
     ·simp only [Act.put, List.setIfInBounds_toArray, List.set_cons_zero, List.set_cons_succ, i64_w, i32_w]
      rfl
     refine pure_ (i := 10) (N := some 36) (v := ?_) (a' := ?_) #[true, true, true, true, true, true, true, true, true, true, true, false] rfl rfl (any_of HT_.out (by kernel_rfl)) (fun _ _ _ h => h) (Or.inl ⟨by rfl, ?_⟩) ?_ ?_
     rotate_left
     ·intro w'
      go_simp
      with_reducible rfl
     rotate_left
     ·simp only [Act.put, List.setIfInBounds_toArray, List.set_cons_zero, List.set_cons_succ, i64_w, i32_w]
      rfl
     refine last_ (i := 11) (N := none) #[true, true, true, true, true, true, true, true, true, true, true, true] rfl rfl (one_of HT_.out (by kernel_rfl)) (by decide) (fun K hK => ?_)
     refine skip_ (w1 := ?_) (by rfl) rfl ?_ ?_
     rotate_left
     ·go_simp
      rfl
     refine hK.out _ _ ?_
     clear hK K
     refine done_ (done_of HT_.out (by kernel_rfl)) ?_
     have n0_ : Aside0 (Kd.R (Kd.int .u64) 153 (w45.setCell ⟨go34, (t122 : Int).toNat, none⟩ (.int .u64 (IntKind.u64.wrap (t125)))) w.heap.size (fun _ => True) (.slice (some ⟨go34, 0, none⟩) t103.length co41) y128) := ⟨qz21 HQ46.out⟩
     have n1_ : Aside0 ((w45.setCell ⟨go34, (t122 : Int).toNat, none⟩ (.int .u64 (IntKind.u64.wrap (t125)))).heap[gb101]? = some (.cells #[.int .i64 0, .slice none 0 0] 47 (0, 0))) := ⟨qz193 HO105.out BK101.out⟩
     have n2_ : Aside0 ((w45.setCell ⟨go34, (t122 : Int).toNat, none⟩ (.int .u64 (IntKind.u64.wrap (t125)))).heap[gb108]? = some (.cells #[.int .i64 t102, .slice (some ⟨go34, 0, none⟩) t103.length co41] 47 (0, 0))) := ⟨qz193 HO105.out BK108.out⟩
     have n3_ : Aside0 (IsS213 w0 (w45.setCell ⟨go34, (t122 : Int).toNat, none⟩ (.int .u64 (IntKind.u64.wrap (t125)))) g s0_0 t126 t127) := ⟨by repeat (first | (with_reducible first | exact HI0.out | apply IsS213.alloc | apply IsS213.drewN | apply IsS213.drew | apply IsS213.set_1 | apply IsS213.set_2 | refine IsS213.far ?_ HN0_go34.out _ | refine IsS213.far ?_ NB0_101.out _ | refine IsS213.far ?_ NB0_108.out _) | exact HI0.out)⟩
     have n4_ : Aside0 (KeepBut w (w45.setCell ⟨go34, (t122 : Int).toNat, none⟩ (.int .u64 (IntKind.u64.wrap (t125)))) g none) := ⟨qz443 GB34.out GW101.out GW108.out⟩
     have n5_ : Aside0 (Below w0.heap.size w0 (w45.setCell ⟨go34, (t122 : Int).toNat, none⟩ (.int .u64 (IntKind.u64.wrap (t125))))) := ⟨qz444 GB34.out HI0.out GE101.out GE108.out⟩
     (try clear HO105)
     (try clear BK101)
     (try clear BK108)
     (try clear HI0)
     (try clear HK)
     (try clear HB)
     generalize (w45.setCell ⟨go34, (t122 : Int).toNat, none⟩ (.int .u64 (IntKind.u64.wrap (t125)))) = w47 at n0_ n1_ n2_ n3_ n4_ n5_ ⊢
     have HO105 := n0_
     have BK101 := n1_
     have BK108 := n2_
     have HI0 := n3_
     have HK := n4_
     have HB := n5_
     clear n0_ n1_ n2_ n3_ n4_ n5_
     have hcz48_0 : w47.cell? ⟨gb108, 0, none⟩ = some (.int .i64 t102) := (blk_cell BK108.out 0).trans rfl
     have hcz48_1 : w47.cell? ⟨gb108, 1, none⟩ = some (.slice (some ⟨go34, 0, none⟩) t103.length co41) := (blk_cell BK108.out 1).trans rfl
     have hfz48_0 := blk_frozen BK108.out 0
     have hfz48_1 := blk_frozen BK108.out 1
     have hnb49 := NB101_0.out
     have hnc49 := NB0_101.out
     have hcz50_0 : w47.cell? ⟨gb101, 0, none⟩ = some (.int .i64 0) := (blk_cell BK101.out 0).trans rfl
     have hcz50_1 : w47.cell? ⟨gb101, 1, none⟩ = some (.slice none 0 0) := (blk_cell BK101.out 1).trans rfl
     have hfz50_0 := blk_frozen BK101.out 0
     have hfz50_1 := blk_frozen BK101.out 1
     try go_wp2
     refine bodyPost_ret (results_cell_row rfl _ _ gb101 47 #[.int .i64 t102, .slice (some ⟨go34, 0, none⟩) t103.length co41] (0, 0) _ rfl (qz167 BK101.out) Try.underlying47 rfl (by kernel_rfl)) rfl ?_
     exact ⟨_, qz13, by (with_reducible repeat (first | apply Kd.R_alloc | apply Kd.R_drewN | apply Kd.R_drew)); exact Kd.R_mono (Kd.R_far (p := ⟨gb101, 1, none⟩) (Kd.R_far (p := ⟨gb101, 0, none⟩) (Kd.R_types HO105.out BK101.out (by decide)) (fun _ hk => hk.2) (.int .i64 t102)) (fun _ hk => hk.2) (.slice (some ⟨go34, 0, none⟩) t103.length co41)) (fun _ hk => trivial), qz295 HI0.out NB0_101.out NB0_108.out, qz296 HI0.out GE101.out GE108.out, qz421 GW101.out GW108.out⟩
    ·rw [if_neg c33] at H
     exact absurd H (by simp)
   ·rw [if_neg c32] at H
    exact absurd H (by simp)
  ·rw [if_neg c29] at H
   have c29b0 : (t109 == 1) = false := beq_eq_false_iff_ne.mpr c29
   have c29b1 : (t109 != 1) = true := bne_iff_ne.mpr c29
   by_cases c51 : t109 = 2
   ·rw [if_pos c51] at H
    have c51b0 : (t109 == 2) = true := beq_iff_eq.mpr c51
    have c51b1 : (t109 != 2) = false := bne_eq_false_iff_eq.mpr c51
    clear c51
    by_cases c52 : t103.length < 17592186044416
    ·rw [if_pos c52] at H
     have LMc52 := Aside0.mk c52
     clear c52
     obtain ⟨y129, hy129⟩ : ∃ y_ : List Int, y_ = (t103 ++ [1]) := ⟨_, rfl⟩
     replace H : (some (t102, y129, t110, t111)) = some (r1, r2, r3, r4) := by first | (rw [hy129]; with_reducible exact H) | (have H2_ := (Option.bind_some _ _).symm.trans H; rw [hy129]; with_reducible exact H2_) | (have H2_ := (Option.bind_some _ _).symm.trans H; with_reducible exact H2_) | with_reducible exact H | (rw [hy129]; exact H) | exact H
     have Ny129 := Aside0.mk hy129
     clear hy129
     simp only [Option.some.injEq, Prod.mk.injEq] at H
     obtain ⟨rfl, rfl, rfl, rfl⟩ := H
     go_enter Try.func117, Try.ntmps117
     go_wp2_with (first | ((with_reducible refine gate_dst (N := 2) rfl ?_); refine box_event ?hg (N := 2) ?hd (cs := #[.int .i64 0, .slice none 0 0]) (t := 47) ?hr ?_; (case hd => rfl); (case hg => rfl); (case hr => exact qz5); intro gb101 hg w53 hbox hb; have n0_ := Aside0.mk (IsS213.below (qz313 HI0.out) hb); have n1_ := Aside0.mk (KeepBut.trans qz408 (KeepBut.of_below hb g none) (.inl rfl)); have n2_ := Aside0.mk (below_step (qz314 HI0.out) hb); have n3_ := Aside0.mk (hbox); have n4_ := Aside0.mk ((qz414 : w.heap.size ≤ gb101)); have n5_ := Aside0.mk ((Nat.le_trans HW0.out (qz414 : w.heap.size ≤ gb101) : w0.heap.size ≤ gb101)); have n6_ := Aside0.mk ((qz415 HI0.out : g ≠ gb101)); have n7_ := Aside0.mk ((qz416 HI0.out : gb101 ≠ g)); clear HI0; clear HK; clear HB; have HI0 := n0_; have HK := n1_; have HB := n2_; have BK101 := n3_; have GW101 := n4_; have GE101 := n5_; have NB0_101 := n6_; have NB101_0 := n7_; clear n0_ n1_ n2_ n3_ n4_ n5_ n6_ n7_; clear hb hbox hg) | ((with_reducible refine gate_callee (f := 210) rfl ?_); refine goesL_ (some 5) rfl rfl Try.func210 (by kernel_rfl) rfl #[.pointer (some ⟨g, 0, none⟩)] rfl qz1 ?_; (with_reducible refine (spec_l01Cur_lat.calls k g s0_0 s0_1 s0_2 t102 t103 t106 t107 w0 _ ?side1 ?side2 A2.out).mono ?_); (case side1 => exact qz289 HI0.out NB0_101.out); (case side2 => exact qz290 HI0.out GE101.out); rintro e w54 ⟨v104, rfl, ho0, hi, hb, hk⟩; refine ⟨_, rfl, ?_⟩; have n0_ := Aside0.mk (KeepBut.blk hk (g' := gb101) (o := .cells #[.int .i64 0, .slice none 0 0] 47 (0, 0)) (qz8 BK101.out) NB101_0.out (by simp)); have n1_ := Aside0.mk (Kd.R_lower ho0 (keep_size (w := w) (g := g) (row := none) (qz417 GW101.out))); have n2_ := Aside0.mk (KeepBut.trans (qz417 GW101.out) hk (.inl rfl)); have n3_ := Aside0.mk (hb); have n4_ := Aside0.mk (hi); clear BK101; clear HK; clear HB; clear HI0; have BK101 := n0_; have HO105 := n1_; have HK := n2_; have HB := n3_; have HI0 := n4_; clear n0_ n1_ n2_ n3_ n4_; (try clear hb); (try clear hb2); (try clear hk); (try clear hi); (try clear ho0)) | ((with_reducible refine gate_dst (N := 3) rfl ?_); refine box_event ?hg (N := 3) ?hd (cs := #[.int .i64 0, .slice none 0 0]) (t := 47) ?hr ?_; (case hd => rfl); (case hg => rfl); (case hr => exact qz5); intro gb108 hg w55 hbox hb; have n0_ := Aside0.mk (Kd.R_below (qz21 HO105.out) hb); have n1_ := Aside0.mk (IsS213.below (qz289 HI0.out NB0_101.out) hb); have n2_ := Aside0.mk (blk_below (g := gb101) (o := .cells #[.int .i64 0, .slice none 0 0] 47 (0, 0)) (qz8 BK101.out) hb); have n3_ := Aside0.mk (KeepBut.trans (qz417 GW101.out) (KeepBut.of_below hb g none) (.inl rfl)); have n4_ := Aside0.mk (below_step (qz290 HI0.out GE101.out) hb); have n5_ := Aside0.mk (hbox); have n6_ := Aside0.mk ((qz418 GW101.out : w.heap.size ≤ gb108)); have n7_ := Aside0.mk ((Nat.le_trans HW0.out (qz418 GW101.out : w.heap.size ≤ gb108) : w0.heap.size ≤ gb108)); have n8_ := Aside0.mk ((qz39 BK101.out : gb101 ≠ gb108)); have n9_ := Aside0.mk ((qz40 BK101.out : gb108 ≠ gb101)); have n10_ := Aside0.mk ((qz435 HI0.out NB0_101.out : g ≠ gb108)); have n11_ := Aside0.mk ((qz436 HI0.out NB0_101.out : gb108 ≠ g)); clear HO105; clear HI0; clear BK101; clear HK; clear HB; have HO105 := n0_; have HI0 := n1_; have BK101 := n2_; have HK := n3_; have HB := n4_; have BK108 := n5_; have GW108 := n6_; have GE108 := n7_; have NB101_108 := n8_; have NB108_101 := n9_; have NB0_108 := n10_; have NB108_0 := n11_; clear n0_ n1_ n2_ n3_ n4_ n5_ n6_ n7_ n8_ n9_ n10_ n11_; clear hb hbox hg; have hnb56 := NB108_101.out; have hnc56 := NB101_108.out; have hnb57 := NB108_0.out; have hnc57 := NB0_108.out; have hcz58_0 : w55.cell? ⟨gb108, 0, none⟩ = some (.int .i64 0) := (blk_cell BK108.out 0).trans rfl; have hcz58_1 : w55.cell? ⟨gb108, 1, none⟩ = some (.slice none 0 0) := (blk_cell BK108.out 1).trans rfl; have hfz58_0 := blk_frozen BK108.out 0; have hfz58_1 := blk_frozen BK108.out 1; obtain ⟨Ao59, co59, eo59⟩ := Kd.R_slice HO105.out; subst eo59) | ((with_reducible refine gate_callee (f := 134) rfl ?_); refine goesL_ (some 7) rfl rfl Try.func134 (by kernel_rfl) rfl #[.pointer (some ⟨g, 0, none⟩), .int .i64 12] rfl qz1 ?_; (with_reducible refine (spec_l01Cur_pick.calls g s0_0 t106 t107 12 t109 t110 t111 w0 _ ?side1 ?side2 A3.out).mono ?_); (case side1 => exact qz295 HI0.out NB0_101.out NB0_108.out); (case side2 => exact qz296 HI0.out GE101.out GE108.out); rintro e w60 ⟨rfl, hi, hb, hk⟩; refine ⟨_, rfl, ?_⟩; have n0_ := Aside0.mk (KeepBut.blk hk (g' := gb101) (o := .cells #[.int .i64 0, .slice none 0 0] 47 (0, 0)) (qz41 NB101_108.out BK101.out) NB101_0.out (by simp)); have n1_ := Aside0.mk (Kd.R_mono (Kd.R_keep (IsS213.apart (show IsS213 w0 _ g s0_0 t106 t107 from by repeat (first | (with_reducible first | exact HI0.out | apply IsS213.alloc | apply IsS213.drewN | apply IsS213.drew | apply IsS213.set_1 | apply IsS213.set_2 | refine IsS213.far ?_ NB0_101.out _ | refine IsS213.far ?_ NB0_108.out _) | exact HI0.out)) (by (with_reducible repeat (first | apply Kd.R_alloc | apply Kd.R_drewN | apply Kd.R_drew)); exact (Kd.R_mono (Kd.R_far (p := ⟨gb108, 1, none⟩) (Kd.R_far (p := ⟨gb108, 0, none⟩) (Kd.R_types HO105.out BK108.out (by decide)) (fun _ hk => hk.2) (.int .i64 t102)) (fun _ hk => hk.2) (.slice Ao59 t103.length co59)) (fun _ h_ => h_.1))) (by decide)) hk (fun _ h => h.2)) (fun _ h => h.1)); have n2_ := Aside0.mk (KeepBut.blk hk (g' := gb108) (o := .cells #[.int .i64 t102, .slice Ao59 t103.length co59] 47 (0, 0)) (qz167 BK108.out) NB108_0.out (by simp)); have n3_ := Aside0.mk (KeepBut.trans (qz421 GW101.out GW108.out) hk (.inl rfl)); have n4_ := Aside0.mk (hb); have n5_ := Aside0.mk (hi); clear BK101; clear HO105; clear BK108; clear HK; clear HB; clear HI0; have BK101 := n0_; have HO105 := n1_; have BK108 := n2_; have HK := n3_; have HB := n4_; have HI0 := n5_; clear n0_ n1_ n2_ n3_ n4_ n5_; (try clear hb); (try clear hb2); (try clear hk); (try clear hi); have hcz61_0 : w60.cell? ⟨gb108, 0, none⟩ = some (.int .i64 t102) := (blk_cell BK108.out 0).trans rfl; have hcz61_1 : w60.cell? ⟨gb108, 1, none⟩ = some (.slice Ao59 t103.length co59) := (blk_cell BK108.out 1).trans rfl; have hfz61_0 := blk_frozen BK108.out 0; have hfz61_1 := blk_frozen BK108.out 1) | ((with_reducible refine gate_builtin (b := .append) (xs := #[.tmp 40, .tmp 41]) rfl ?_); at_builtin; refine Kd.R_append (Kd.int .u64) w.heap.size rfl (.tmp 40) (.tmp 41) 45 153 (.int .u64 0) 8 rfl Try.underlying45 info153 rfl (by decide) (by omega) (.slice Ao59 t103.length co59) t103 1 [.int .u64 1] (fun _ => True) (fun _ => False) rfl rfl ?aP (fun _ hk => hk.elim) ?aF ?aO (Below.refl _ _) ?aS ?aL ?_; (case aP => exact rfl); (case aF => exact qz26); (case aO => exact qz80 HO105.out); (case aS => exact qz445 GW101.out GW108.out); (case aL => have := LMc52.out; omega); intro v130 w62 ho hb hg hat; rw [← Ny129.out] at ho; have n0_ := Aside0.mk (IsS213.grown (qz295 HI0.out NB0_101.out NB0_108.out) hg (IsS213.own_ne HI0.out HO105.out (by decide))); have n1_ := Aside0.mk (blk_grown (g := gb101) (o := .cells #[.int .i64 0, .slice none 0 0] 47 (0, 0)) (qz8 BK101.out) hg (Kd.R_ne HO105.out BK101.out (by decide))); have n2_ := Aside0.mk (blk_grown (g := gb108) (o := .cells #[.int .i64 t102, .slice Ao59 t103.length co59] 47 (0, 0)) (qz8 BK108.out) hg (Kd.R_ne HO105.out BK108.out (by decide))); have n3_ := Aside0.mk (below_weaken (qz296 HI0.out GE101.out GE108.out) HL.out hb); have n4_ := Aside0.mk (KeepBut.trans (qz421 GW101.out GW108.out) (KeepBut.of_grown hg g) (Kd.R_base2 HO105.out)); have n5_ := Aside0.mk (ho); clear HI0; clear BK101; clear BK108; clear HB; clear HK; clear HO105; have HI0 := n0_; have BK101 := n1_; have BK108 := n2_; have HB := n3_; have HK := n4_; have HO131 := n5_; clear n0_ n1_ n2_ n3_ n4_ n5_; clear ho hb hg hat; obtain ⟨Ao63, co63, eo63⟩ := Kd.R_slice HO131.out; subst eo63; have hcz64_0 : w62.cell? ⟨gb108, 0, none⟩ = some (.int .i64 t102) := (blk_cell BK108.out 0).trans rfl; have hcz64_1 : w62.cell? ⟨gb108, 1, none⟩ = some (.slice Ao59 t103.length co59) := (blk_cell BK108.out 1).trans rfl; have hfz64_0 := blk_frozen BK108.out 0; have hfz64_1 := blk_frozen BK108.out 1; have hnb65 := NB101_0.out; have hnc65 := NB0_101.out; have hcz66_0 : w62.cell? ⟨gb101, 0, none⟩ = some (.int .i64 0) := (blk_cell BK101.out 0).trans rfl; have hcz66_1 : w62.cell? ⟨gb101, 1, none⟩ = some (.slice none 0 0) := (blk_cell BK101.out 1).trans rfl; have hfz66_0 := blk_frozen BK101.out 0; have hfz66_1 := blk_frozen BK101.out 1))
     refine bodyPost_ret (results_cell_row rfl _ _ gb101 47 #[.int .i64 t102, .slice Ao63 y129.length co63] (0, 0) _ rfl (by (with_reducible repeat (first | refine blk_drewN ?_ _ | refine blk_drew ?_ | refine blk_alloc ?_ _)); refine blk_put (cs := #[.int .i64 t102, .slice none 0 0]) ?_ 1 _ rfl; (with_reducible repeat (first | refine blk_drewN ?_ _ | refine blk_drew ?_ | refine blk_alloc ?_ _)); refine blk_put (cs := #[.int .i64 0, .slice none 0 0]) ?_ 0 _ rfl; (with_reducible repeat (first | refine blk_drewN ?_ _ | refine blk_drew ?_ | refine blk_alloc ?_ _)); refine blk_far ?_ NB101_108.out _; (with_reducible repeat (first | refine blk_drewN ?_ _ | refine blk_drew ?_ | refine blk_alloc ?_ _)); exact BK101.out) Try.underlying47 rfl (by kernel_rfl)) rfl ?_
     exact ⟨_, qz13, by (with_reducible repeat (first | apply Kd.R_alloc | apply Kd.R_drewN | apply Kd.R_drew)); exact Kd.R_mono (Kd.R_far (p := ⟨gb101, 1, none⟩) (Kd.R_far (p := ⟨gb101, 0, none⟩) (Kd.R_far (p := ⟨gb108, 1, none⟩) (Kd.R_types (Kd.R_types HO131.out BK108.out (by decide)) BK101.out (by decide)) (fun _ hk => hk.1.2) (.slice Ao63 y129.length co63)) (fun _ hk => hk.2) (.int .i64 t102)) (fun _ hk => hk.2) (.slice Ao63 y129.length co63)) (fun _ hk => trivial), qz295 HI0.out NB0_101.out NB0_108.out, qz296 HI0.out GE101.out GE108.out, qz421 GW101.out GW108.out⟩
    ·rw [if_neg c52] at H
     exact absurd H (by simp)
   ·rw [if_neg c51] at H
    have c51b0 : (t109 == 2) = false := beq_eq_false_iff_ne.mpr c51
    have c51b1 : (t109 != 2) = true := bne_iff_ne.mpr c51
    simp only [Option.some.injEq, Prod.mk.injEq] at H
    obtain ⟨rfl, rfl, rfl, rfl⟩ := H
    go_enter Try.func117, Try.ntmps117
    go_wp2_with (first | ((with_reducible refine gate_dst (N := 2) rfl ?_); refine box_event ?hg (N := 2) ?hd (cs := #[.int .i64 0, .slice none 0 0]) (t := 47) ?hr ?_; (case hd => rfl); (case hg => rfl); (case hr => exact qz5); intro gb101 hg w67 hbox hb; have n0_ := Aside0.mk (IsS213.below (qz313 HI0.out) hb); have n1_ := Aside0.mk (KeepBut.trans qz408 (KeepBut.of_below hb g none) (.inl rfl)); have n2_ := Aside0.mk (below_step (qz314 HI0.out) hb); have n3_ := Aside0.mk (hbox); have n4_ := Aside0.mk ((qz414 : w.heap.size ≤ gb101)); have n5_ := Aside0.mk ((Nat.le_trans HW0.out (qz414 : w.heap.size ≤ gb101) : w0.heap.size ≤ gb101)); have n6_ := Aside0.mk ((qz415 HI0.out : g ≠ gb101)); have n7_ := Aside0.mk ((qz416 HI0.out : gb101 ≠ g)); clear HI0; clear HK; clear HB; have HI0 := n0_; have HK := n1_; have HB := n2_; have BK101 := n3_; have GW101 := n4_; have GE101 := n5_; have NB0_101 := n6_; have NB101_0 := n7_; clear n0_ n1_ n2_ n3_ n4_ n5_ n6_ n7_; clear hb hbox hg) | ((with_reducible refine gate_callee (f := 210) rfl ?_); refine goesL_ (some 5) rfl rfl Try.func210 (by kernel_rfl) rfl #[.pointer (some ⟨g, 0, none⟩)] rfl qz1 ?_; (with_reducible refine (spec_l01Cur_lat.calls k g s0_0 s0_1 s0_2 t102 t103 t106 t107 w0 _ ?side1 ?side2 A2.out).mono ?_); (case side1 => exact qz289 HI0.out NB0_101.out); (case side2 => exact qz290 HI0.out GE101.out); rintro e w68 ⟨v104, rfl, ho0, hi, hb, hk⟩; refine ⟨_, rfl, ?_⟩; have n0_ := Aside0.mk (KeepBut.blk hk (g' := gb101) (o := .cells #[.int .i64 0, .slice none 0 0] 47 (0, 0)) (qz8 BK101.out) NB101_0.out (by simp)); have n1_ := Aside0.mk (Kd.R_lower ho0 (keep_size (w := w) (g := g) (row := none) (qz417 GW101.out))); have n2_ := Aside0.mk (KeepBut.trans (qz417 GW101.out) hk (.inl rfl)); have n3_ := Aside0.mk (hb); have n4_ := Aside0.mk (hi); clear BK101; clear HK; clear HB; clear HI0; have BK101 := n0_; have HO105 := n1_; have HK := n2_; have HB := n3_; have HI0 := n4_; clear n0_ n1_ n2_ n3_ n4_; (try clear hb); (try clear hb2); (try clear hk); (try clear hi); (try clear ho0)) | ((with_reducible refine gate_dst (N := 3) rfl ?_); refine box_event ?hg (N := 3) ?hd (cs := #[.int .i64 0, .slice none 0 0]) (t := 47) ?hr ?_; (case hd => rfl); (case hg => rfl); (case hr => exact qz5); intro gb108 hg w69 hbox hb; have n0_ := Aside0.mk (Kd.R_below (qz21 HO105.out) hb); have n1_ := Aside0.mk (IsS213.below (qz289 HI0.out NB0_101.out) hb); have n2_ := Aside0.mk (blk_below (g := gb101) (o := .cells #[.int .i64 0, .slice none 0 0] 47 (0, 0)) (qz8 BK101.out) hb); have n3_ := Aside0.mk (KeepBut.trans (qz417 GW101.out) (KeepBut.of_below hb g none) (.inl rfl)); have n4_ := Aside0.mk (below_step (qz290 HI0.out GE101.out) hb); have n5_ := Aside0.mk (hbox); have n6_ := Aside0.mk ((qz418 GW101.out : w.heap.size ≤ gb108)); have n7_ := Aside0.mk ((Nat.le_trans HW0.out (qz418 GW101.out : w.heap.size ≤ gb108) : w0.heap.size ≤ gb108)); have n8_ := Aside0.mk ((qz39 BK101.out : gb101 ≠ gb108)); have n9_ := Aside0.mk ((qz40 BK101.out : gb108 ≠ gb101)); have n10_ := Aside0.mk ((qz435 HI0.out NB0_101.out : g ≠ gb108)); have n11_ := Aside0.mk ((qz436 HI0.out NB0_101.out : gb108 ≠ g)); clear HO105; clear HI0; clear BK101; clear HK; clear HB; have HO105 := n0_; have HI0 := n1_; have BK101 := n2_; have HK := n3_; have HB := n4_; have BK108 := n5_; have GW108 := n6_; have GE108 := n7_; have NB101_108 := n8_; have NB108_101 := n9_; have NB0_108 := n10_; have NB108_0 := n11_; clear n0_ n1_ n2_ n3_ n4_ n5_ n6_ n7_ n8_ n9_ n10_ n11_; clear hb hbox hg; have hnb70 := NB108_101.out; have hnc70 := NB101_108.out; have hnb71 := NB108_0.out; have hnc71 := NB0_108.out; have hcz72_0 : w69.cell? ⟨gb108, 0, none⟩ = some (.int .i64 0) := (blk_cell BK108.out 0).trans rfl; have hcz72_1 : w69.cell? ⟨gb108, 1, none⟩ = some (.slice none 0 0) := (blk_cell BK108.out 1).trans rfl; have hfz72_0 := blk_frozen BK108.out 0; have hfz72_1 := blk_frozen BK108.out 1; obtain ⟨Ao73, co73, eo73⟩ := Kd.R_slice HO105.out; subst eo73) | ((with_reducible refine gate_callee (f := 134) rfl ?_); refine goesL_ (some 7) rfl rfl Try.func134 (by kernel_rfl) rfl #[.pointer (some ⟨g, 0, none⟩), .int .i64 12] rfl qz1 ?_; (with_reducible refine (spec_l01Cur_pick.calls g s0_0 t106 t107 12 t109 t110 t111 w0 _ ?side1 ?side2 A3.out).mono ?_); (case side1 => exact qz295 HI0.out NB0_101.out NB0_108.out); (case side2 => exact qz296 HI0.out GE101.out GE108.out); rintro e w74 ⟨rfl, hi, hb, hk⟩; refine ⟨_, rfl, ?_⟩; have n0_ := Aside0.mk (KeepBut.blk hk (g' := gb101) (o := .cells #[.int .i64 0, .slice none 0 0] 47 (0, 0)) (qz41 NB101_108.out BK101.out) NB101_0.out (by simp)); have n1_ := Aside0.mk (Kd.R_mono (Kd.R_keep (IsS213.apart (show IsS213 w0 _ g s0_0 t106 t107 from by repeat (first | (with_reducible first | exact HI0.out | apply IsS213.alloc | apply IsS213.drewN | apply IsS213.drew | apply IsS213.set_1 | apply IsS213.set_2 | refine IsS213.far ?_ NB0_101.out _ | refine IsS213.far ?_ NB0_108.out _) | exact HI0.out)) (by (with_reducible repeat (first | apply Kd.R_alloc | apply Kd.R_drewN | apply Kd.R_drew)); exact (Kd.R_mono (Kd.R_far (p := ⟨gb108, 1, none⟩) (Kd.R_far (p := ⟨gb108, 0, none⟩) (Kd.R_types HO105.out BK108.out (by decide)) (fun _ hk => hk.2) (.int .i64 t102)) (fun _ hk => hk.2) (.slice Ao73 t103.length co73)) (fun _ h_ => h_.1))) (by decide)) hk (fun _ h => h.2)) (fun _ h => h.1)); have n2_ := Aside0.mk (KeepBut.blk hk (g' := gb108) (o := .cells #[.int .i64 t102, .slice Ao73 t103.length co73] 47 (0, 0)) (qz167 BK108.out) NB108_0.out (by simp)); have n3_ := Aside0.mk (KeepBut.trans (qz421 GW101.out GW108.out) hk (.inl rfl)); have n4_ := Aside0.mk (hb); have n5_ := Aside0.mk (hi); clear BK101; clear HO105; clear BK108; clear HK; clear HB; clear HI0; have BK101 := n0_; have HO105 := n1_; have BK108 := n2_; have HK := n3_; have HB := n4_; have HI0 := n5_; clear n0_ n1_ n2_ n3_ n4_ n5_; (try clear hb); (try clear hb2); (try clear hk); (try clear hi); have hcz75_0 : w74.cell? ⟨gb108, 0, none⟩ = some (.int .i64 t102) := (blk_cell BK108.out 0).trans rfl; have hcz75_1 : w74.cell? ⟨gb108, 1, none⟩ = some (.slice Ao73 t103.length co73) := (blk_cell BK108.out 1).trans rfl; have hfz75_0 := blk_frozen BK108.out 0; have hfz75_1 := blk_frozen BK108.out 1; have hnb76 := NB101_0.out; have hnc76 := NB0_101.out; have hcz77_0 : w74.cell? ⟨gb101, 0, none⟩ = some (.int .i64 0) := (blk_cell BK101.out 0).trans rfl; have hcz77_1 : w74.cell? ⟨gb101, 1, none⟩ = some (.slice none 0 0) := (blk_cell BK101.out 1).trans rfl; have hfz77_0 := blk_frozen BK101.out 0; have hfz77_1 := blk_frozen BK101.out 1))
    refine bodyPost_ret (results_cell_row rfl _ _ gb101 47 #[.int .i64 t102, .slice Ao73 t103.length co73] (0, 0) _ rfl (qz167 BK101.out) Try.underlying47 rfl (by kernel_rfl)) rfl ?_
    exact ⟨_, qz13, by (with_reducible repeat (first | apply Kd.R_alloc | apply Kd.R_drewN | apply Kd.R_drew)); exact Kd.R_mono (Kd.R_far (p := ⟨gb101, 1, none⟩) (Kd.R_far (p := ⟨gb101, 0, none⟩) (Kd.R_types HO105.out BK101.out (by decide)) (fun _ hk => hk.2) (.int .i64 t102)) (fun _ hk => hk.2) (.slice Ao73 t103.length co73)) (fun _ hk => trivial), qz295 HI0.out NB0_101.out NB0_108.out, qz296 HI0.out GE101.out GE108.out, qz421 GW101.out GW108.out⟩

end Go.Proofs.Ytjhfjnknajhanaa.P

namespace Go.Proofs.Ytjhfjnknajhanaa.P
open Go.RowKit Go.Proofs.YtjhfjnknajhanaaW.PrintWords Go.Proofs.YtjhfjnknajhanaaW.PrintLast Go.Proofs.YtjhfjnknajhanaaW.PrintMore
attribute [local go_sem] max2_int min2_int max_two min_two max_three min_three max_four min_four   -- for this text's walks alone
set_option linter.unusedVariables false
set_option linter.unusedSimpArgs false

/-! ### spec_l01Cur_once: function 133 -/
set_option maxHeartbeats 8000000 in
set_option maxRecDepth 100000 in
theorem spec_l01Cur_once.calls (g : Nat) (s0_0 : List Int) (s0_1 : Int) (s0_2 : Int) (a1 : Int) (r1 : Bool) (r2 : Int) (r3 : Int) (w0 w : World) (hI : IsS213 w0 w g s0_0 s0_1 s0_2) (hB : Below w0.heap.size w0 w) (h : spec_l01Cur_once.f s0_0 s0_1 s0_2 a1 = some (r1, r2, r3)) :
  Calls Try.prog 133 #[.pointer (some ⟨g, 0, none⟩), .int .i64 a1] w fun e w' => e = .returned (.bool r1) ∧ IsS213 w0 w' g s0_0 r2 r3 ∧ Below w0.heap.size w0 w' ∧ KeepBut w w' g none := by
 have HI0 := Aside0.mk hI
 have HK := Aside0.mk (KeepBut.refl w g none)
 have HL := Aside0.mk hB.size
 clear hI
 have HW0 := Aside0.mk hB.size
 have HB := Aside0.mk hB
 clear hB
 have H : ((spec_l01Cur_pick.f s0_0 s0_1 s0_2 a1).bind fun bt101 => (some ((bt101.1 == (wrap64 (a1 - 1))), bt101.2.1, bt101.2.2))) = some (r1, r2, r3) := h
 clear h
 replace H := Option.bind_eq_some_iff.mp H
 obtain ⟨⟨t101, t102, t103⟩, A30, H⟩ := H
 replace H : (some ((t101 == (wrap64 (a1 - 1))), t102, t103)) = some (r1, r2, r3) := H
 have A3 := Aside0.mk A30
 clear A30
 simp only [Option.some.injEq, Prod.mk.injEq] at H
 obtain ⟨rfl, rfl, rfl⟩ := H
 go_enter Try.func133, Try.ntmps133
 go_wp2_with (first | ((with_reducible refine gate_callee (f := 134) rfl ?_); refine goesL_ (some 7) rfl rfl Try.func134 (by kernel_rfl) rfl #[.pointer (some ⟨g, 0, none⟩), .int .i64 a1] rfl qz1 ?_; (with_reducible refine (spec_l01Cur_pick.calls g s0_0 s0_1 s0_2 a1 t101 t102 t103 w0 _ ?side1 ?side2 A3.out).mono ?_); (case side1 => exact qz313 HI0.out); (case side2 => exact qz314 HI0.out); rintro e w4 ⟨rfl, hi, hb, hk⟩; refine ⟨_, rfl, ?_⟩; have n0_ := Aside0.mk (KeepBut.trans qz408 hk (.inl rfl)); have n1_ := Aside0.mk (hb); have n2_ := Aside0.mk (hi); clear HK; clear HB; clear HI0; have HK := n0_; have HB := n1_; have HI0 := n2_; clear n0_ n1_ n2_; (try clear hb); (try clear hb2); (try clear hk); (try clear hi)))
 go_ret
 exact ⟨qz13, qz313 HI0.out, qz314 HI0.out, qz408⟩

end Go.Proofs.Ytjhfjnknajhanaa.P

namespace Go.Proofs.Ytjhfjnknajhanaa.P
open Go.RowKit Go.Proofs.YtjhfjnknajhanaaW.PrintWords Go.Proofs.YtjhfjnknajhanaaW.PrintLast Go.Proofs.YtjhfjnknajhanaaW.PrintMore
attribute [local go_sem] max2_int min2_int max_two min_two max_three min_three max_four min_four   -- for this text's walks alone
set_option linter.unusedVariables false
set_option linter.unusedSimpArgs false

/-! ### spec_l01Cur_label: function 125 -/
set_option maxHeartbeats 8000000 in
set_option maxRecDepth 100000 in
theorem spec_l01Cur_label.calls (g : Nat) (s0_0 : List Int) (s0_1 : Int) (s0_2 : Int) (a1_0 : Int) (A1_1 : Option Addr) (c1_1 : Nat) (l1_1 : List Int) (r1 : Int) (r2 : Int) (r3 : Int) (w0 w : World) (hI : IsS213 w0 w g s0_0 s0_1 s0_2) (hB : Below w0.heap.size w0 w) (hr1_1 : Kd.C (Kd.int .u64) w A1_1 l1_1.length l1_1) (hc1_1 : l1_1.length ≤ c1_1) (hf1_1 : ∀ ad, A1_1 = some ad → 0 < l1_1.length → ad.block ≠ g) (h : spec_l01Cur_label.f s0_0 s0_1 s0_2 a1_0 l1_1 = some (r1, r2, r3)) :
  Calls Try.prog 125 #[.pointer (some ⟨g, 0, none⟩), .agg #[.int .i64 a1_0, .slice A1_1 l1_1.length c1_1]] w fun e w' => e = .returned (.int .i64 r1) ∧ IsS213 w0 w' g s0_0 r2 r3 ∧ Below w0.heap.size w0 w' ∧ KeepBut w w' g none := by
 have hu47 := Try.underlying47
 have HR1_1 := Aside0.mk hr1_1
 have HC1_1 := Aside0.mk hc1_1
 clear hr1_1 hc1_1
 have HI0 := Aside0.mk hI
 have HK := Aside0.mk (KeepBut.refl w g none)
 have HL := Aside0.mk hB.size
 clear hI
 have HW0 := Aside0.mk hB.size
 have HB := Aside0.mk hB
 clear hB
 have H : ((spec_l01Cur_once.f s0_0 s0_1 s0_2 12).bind fun bt102 => (if bt102.1 = true then ((spec_l01Cur_raw.f s0_0 bt102.2.1 bt102.2.2).bind fun bt105 => (some (bt105.1, bt105.2.1, bt105.2.2))) else ((spec_l01Cur_pick.f s0_0 bt102.2.1 bt102.2.2 (mx 1 (mn 16 a1_0))).bind fun bt108 => (some (bt108.1, bt108.2.1, bt108.2.2))))) = some (r1, r2, r3) := h
 clear h
 replace H := Option.bind_eq_some_iff.mp H
 obtain ⟨⟨t102, t103, t104⟩, A30, H⟩ := H
 replace H : (if t102 = true then ((spec_l01Cur_raw.f s0_0 t103 t104).bind fun bt105 => (some (bt105.1, bt105.2.1, bt105.2.2))) else ((spec_l01Cur_pick.f s0_0 t103 t104 (mx 1 (mn 16 a1_0))).bind fun bt108 => (some (bt108.1, bt108.2.1, bt108.2.2)))) = some (r1, r2, r3) := H
 have A3 := Aside0.mk A30
 clear A30
 by_cases c4 : t102 = true
 ·subst c4
  have H1 : ((spec_l01Cur_raw.f s0_0 t103 t104).bind fun bt105 => (some (bt105.1, bt105.2.1, bt105.2.2))) = some (r1, r2, r3) := by rw [if_pos rfl] at H; exact H
  clear H
  have H := H1
  clear H1
  replace H := Option.bind_eq_some_iff.mp H
  obtain ⟨⟨t105, t106, t107⟩, A50, H⟩ := H
  replace H : (some (t105, t106, t107)) = some (r1, r2, r3) := H
  have A5 := Aside0.mk A50
  clear A50
  simp only [Option.some.injEq, Prod.mk.injEq] at H
  obtain ⟨rfl, rfl, rfl⟩ := H
  go_enter Try.func125, Try.ntmps125
  go_wp2_with (first | ((with_reducible refine gate_dst (N := 3) rfl ?_); refine box_event ?hg (N := 3) ?hd (cs := #[.int .i64 a1_0, .slice A1_1 l1_1.length c1_1]) (t := 47) ?hr ?_; (case hd => rfl); (case hg => rfl); (case hr => exact qz5); intro gb101 hg w6 hbox hb; have n0_ := Aside0.mk (IsS213.below (qz313 HI0.out) hb); have n1_ := Aside0.mk (KeepBut.trans qz408 (KeepBut.of_below hb g none) (.inl rfl)); have n2_ := Aside0.mk (below_step (qz314 HI0.out) hb); have n3_ := Aside0.mk (hbox); have n4_ := Aside0.mk ((qz414 : w.heap.size ≤ gb101)); have n5_ := Aside0.mk ((Nat.le_trans HW0.out (qz414 : w.heap.size ≤ gb101) : w0.heap.size ≤ gb101)); have n6_ := Aside0.mk ((qz415 HI0.out : g ≠ gb101)); have n7_ := Aside0.mk ((qz416 HI0.out : gb101 ≠ g)); clear HI0; clear HK; clear HB; have HI0 := n0_; have HK := n1_; have HB := n2_; have BK101 := n3_; have GW101 := n4_; have GE101 := n5_; have NB0_101 := n6_; have NB101_0 := n7_; clear n0_ n1_ n2_ n3_ n4_ n5_ n6_ n7_; clear hb hbox hg) | ((with_reducible refine gate_callee (f := 133) rfl ?_); refine goesL_ (some 6) rfl rfl Try.func133 (by kernel_rfl) rfl #[.pointer (some ⟨g, 0, none⟩), .int .i64 12] rfl qz1 ?_; (with_reducible refine (spec_l01Cur_once.calls g s0_0 s0_1 s0_2 12 true t103 t104 w0 _ ?side1 ?side2 A3.out).mono ?_); (case side1 => exact qz289 HI0.out NB0_101.out); (case side2 => exact qz290 HI0.out GE101.out); rintro e w7 ⟨rfl, hi, hb, hk⟩; refine ⟨_, rfl, ?_⟩; have n0_ := Aside0.mk (KeepBut.blk hk (g' := gb101) (o := .cells #[.int .i64 a1_0, .slice A1_1 l1_1.length c1_1] 47 (0, 0)) (qz8 BK101.out) NB101_0.out (by simp)); have n1_ := Aside0.mk (KeepBut.trans (qz417 GW101.out) hk (.inl rfl)); have n2_ := Aside0.mk (hb); have n3_ := Aside0.mk (hi); clear BK101; clear HK; clear HB; clear HI0; have BK101 := n0_; have HK := n1_; have HB := n2_; have HI0 := n3_; clear n0_ n1_ n2_ n3_; (try clear hb); (try clear hb2); (try clear hk); (try clear hi)) | ((with_reducible refine gate_callee (f := 135) rfl ?_); refine goesL_ (some 8) rfl rfl Try.func135 (by kernel_rfl) rfl #[.pointer (some ⟨g, 0, none⟩)] rfl qz1 ?_; (with_reducible refine (spec_l01Cur_raw.calls g s0_0 t103 t104 t105 t106 t107 w0 _ ?side1 ?side2 A5.out).mono ?_); (case side1 => exact qz289 HI0.out NB0_101.out); (case side2 => exact qz290 HI0.out GE101.out); rintro e w8 ⟨rfl, hi, hb, hk⟩; refine ⟨_, rfl, ?_⟩; have n0_ := Aside0.mk (KeepBut.blk hk (g' := gb101) (o := .cells #[.int .i64 a1_0, .slice A1_1 l1_1.length c1_1] 47 (0, 0)) (qz8 BK101.out) NB101_0.out (by simp)); have n1_ := Aside0.mk (KeepBut.trans (qz417 GW101.out) hk (.inl rfl)); have n2_ := Aside0.mk (hb); have n3_ := Aside0.mk (hi); clear BK101; clear HK; clear HB; clear HI0; have BK101 := n0_; have HK := n1_; have HB := n2_; have HI0 := n3_; clear n0_ n1_ n2_ n3_; (try clear hb); (try clear hb2); (try clear hk); (try clear hi)))
  go_ret
  exact ⟨qz13, qz289 HI0.out NB0_101.out, qz290 HI0.out GE101.out, qz417 GW101.out⟩
 ·replace c4 := Bool.eq_false_iff.mpr c4
  subst c4
  have H1 : ((spec_l01Cur_pick.f s0_0 t103 t104 (mx 1 (mn 16 a1_0))).bind fun bt108 => (some (bt108.1, bt108.2.1, bt108.2.2))) = some (r1, r2, r3) := by rw [if_neg (show ¬ (false = true) by decide)] at H; exact H
  clear H
  have H := H1
  clear H1
  obtain ⟨ji9, hji9⟩ : ∃ j_ : Int, (mn 16 a1_0) = j_ := ⟨_, rfl⟩
  replace H : ((spec_l01Cur_pick.f s0_0 t103 t104 (mx 1 (ji9))).bind fun bt108 => (some (bt108.1, bt108.2.1, bt108.2.2))) = some (r1, r2, r3) := by first | (rw [hji9] at H; exact H) | (simp only [hji9] at H ⊢; exact H)
  (try rw [hji9] at A3)
  (try (have hji9h : ji9 ≤ 16 := by (rw [← hji9]; unfold mn; (repeat' split) <;> omega)))
  (try (have hji9g : ji9 ≤ 64 := by omega))
  have hji9_ : (if a1_0 < 16 then a1_0 else 16) = ji9 := hji9
  obtain ⟨ji10, hji10⟩ : ∃ j_ : Int, (mx 1 (ji9)) = j_ := ⟨_, rfl⟩
  replace H : ((spec_l01Cur_pick.f s0_0 t103 t104 (ji10)).bind fun bt108 => (some (bt108.1, bt108.2.1, bt108.2.2))) = some (r1, r2, r3) := by first | (rw [hji10] at H; exact H) | (simp only [hji10] at H ⊢; exact H)
  (try rw [hji10] at A3)
  have hji10_ : (if 1 < (ji9) then (ji9) else 1) = ji10 := hji10
  replace H := Option.bind_eq_some_iff.mp H
  obtain ⟨⟨t108, t109, t110⟩, A110, H⟩ := H
  replace H : (some (t108, t109, t110)) = some (r1, r2, r3) := H
  have A11 := Aside0.mk A110
  clear A110
  simp only [Option.some.injEq, Prod.mk.injEq] at H
  obtain ⟨rfl, rfl, rfl⟩ := H
  go_enter Try.func125, Try.ntmps125
  go_wp2_with (first | ((with_reducible refine gate_dst (N := 3) rfl ?_); refine box_event ?hg (N := 3) ?hd (cs := #[.int .i64 a1_0, .slice A1_1 l1_1.length c1_1]) (t := 47) ?hr ?_; (case hd => rfl); (case hg => rfl); (case hr => exact qz5); intro gb101 hg w12 hbox hb; have n0_ := Aside0.mk (IsS213.below (qz313 HI0.out) hb); have n1_ := Aside0.mk (KeepBut.trans qz408 (KeepBut.of_below hb g none) (.inl rfl)); have n2_ := Aside0.mk (below_step (qz314 HI0.out) hb); have n3_ := Aside0.mk (hbox); have n4_ := Aside0.mk ((qz414 : w.heap.size ≤ gb101)); have n5_ := Aside0.mk ((Nat.le_trans HW0.out (qz414 : w.heap.size ≤ gb101) : w0.heap.size ≤ gb101)); have n6_ := Aside0.mk ((qz415 HI0.out : g ≠ gb101)); have n7_ := Aside0.mk ((qz416 HI0.out : gb101 ≠ g)); clear HI0; clear HK; clear HB; have HI0 := n0_; have HK := n1_; have HB := n2_; have BK101 := n3_; have GW101 := n4_; have GE101 := n5_; have NB0_101 := n6_; have NB101_0 := n7_; clear n0_ n1_ n2_ n3_ n4_ n5_ n6_ n7_; clear hb hbox hg) | ((with_reducible refine gate_callee (f := 133) rfl ?_); refine goesL_ (some 6) rfl rfl Try.func133 (by kernel_rfl) rfl #[.pointer (some ⟨g, 0, none⟩), .int .i64 12] rfl qz1 ?_; (with_reducible refine (spec_l01Cur_once.calls g s0_0 s0_1 s0_2 12 false t103 t104 w0 _ ?side1 ?side2 A3.out).mono ?_); (case side1 => exact qz289 HI0.out NB0_101.out); (case side2 => exact qz290 HI0.out GE101.out); rintro e w13 ⟨rfl, hi, hb, hk⟩; refine ⟨_, rfl, ?_⟩; have n0_ := Aside0.mk (KeepBut.blk hk (g' := gb101) (o := .cells #[.int .i64 a1_0, .slice A1_1 l1_1.length c1_1] 47 (0, 0)) (qz8 BK101.out) NB101_0.out (by simp)); have n1_ := Aside0.mk (KeepBut.trans (qz417 GW101.out) hk (.inl rfl)); have n2_ := Aside0.mk (hb); have n3_ := Aside0.mk (hi); clear BK101; clear HK; clear HB; clear HI0; have BK101 := n0_; have HK := n1_; have HB := n2_; have HI0 := n3_; clear n0_ n1_ n2_ n3_; (try clear hb); (try clear hb2); (try clear hk); (try clear hi); have hnb14 := NB101_0.out; have hnc14 := NB0_101.out; have hcz15_0 : w13.cell? ⟨gb101, 0, none⟩ = some (.int .i64 a1_0) := (blk_cell BK101.out 0).trans rfl; have hcz15_1 : w13.cell? ⟨gb101, 1, none⟩ = some (.slice A1_1 l1_1.length c1_1) := (blk_cell BK101.out 1).trans rfl; have hfz15_0 := blk_frozen BK101.out 0; have hfz15_1 := blk_frozen BK101.out 1) | ((with_reducible refine gate_callee (f := 134) rfl ?_); refine goesL_ (some 14) rfl rfl Try.func134 (by kernel_rfl) rfl #[.pointer (some ⟨g, 0, none⟩), .int .i64 ji10] rfl qz122 ?_; (with_reducible refine (spec_l01Cur_pick.calls g s0_0 t103 t104 ji10 t108 t109 t110 w0 _ ?side1 ?side2 A11.out).mono ?_); (case side1 => exact qz289 HI0.out NB0_101.out); (case side2 => exact qz290 HI0.out GE101.out); rintro e w16 ⟨rfl, hi, hb, hk⟩; refine ⟨_, rfl, ?_⟩; have n0_ := Aside0.mk (KeepBut.blk hk (g' := gb101) (o := .cells #[.int .i64 a1_0, .slice A1_1 l1_1.length c1_1] 47 (0, 0)) (qz8 BK101.out) NB101_0.out (by simp)); have n1_ := Aside0.mk (KeepBut.trans (qz417 GW101.out) hk (.inl rfl)); have n2_ := Aside0.mk (hb); have n3_ := Aside0.mk (hi); clear BK101; clear HK; clear HB; clear HI0; have BK101 := n0_; have HK := n1_; have HB := n2_; have HI0 := n3_; clear n0_ n1_ n2_ n3_; (try clear hb); (try clear hb2); (try clear hk); (try clear hi)))
  go_ret
  exact ⟨by first | rfl | (simp [errW_none, errW_some] <;> rfl) | (simp only [← hji9, ← hji10]; first | rfl | (simp [errW_none, errW_some] <;> rfl)) | (simp [*, errW_none, errW_some] <;> rfl), qz289 HI0.out NB0_101.out, qz290 HI0.out GE101.out, qz417 GW101.out⟩

end Go.Proofs.Ytjhfjnknajhanaa.P

namespace Go.Proofs.Ytjhfjnknajhanaa.P
open Go.RowKit Go.Proofs.YtjhfjnknajhanaaW.PrintWords Go.Proofs.YtjhfjnknajhanaaW.PrintLast Go.Proofs.YtjhfjnknajhanaaW.PrintMore
attribute [local go_sem] max2_int min2_int max_two min_two max_three min_three max_four min_four   -- for this text's walks alone
set_option linter.unusedVariables false
set_option linter.unusedSimpArgs false

/-! ### spec_l01Open: function 116 -/
set_option maxHeartbeats 8000000 in
set_option maxRecDepth 100000 in
theorem spec_l01Open.calls (A0 : Option Addr) (c0 : Nat) (l0 : List Int) (r1 : List Int) (r2 : Int) (r3 : Int) (w0 w : World) (hB : Below w0.heap.size w0 w) (hr0 : Kd.C (Kd.int .u8) w0 A0 l0.length l0) (hc0 : l0.length ≤ c0) (h : spec_l01Open.f l0 = some (r1, r2, r3)) :
  Calls Try.prog 116 #[.slice A0 l0.length c0] w fun e w' => ∃ g_ : Nat, e = .returned (.pointer (some ⟨g_, 0, none⟩)) ∧ IsS213 w0 w' g_ r1 r2 r3 ∧ Below w0.heap.size w0 w' ∧ Below w.heap.size w w' := by
 have hu213 := Try.underlying213
 have HR0 := Aside0.mk hr0
 have HC0 := Aside0.mk hc0
 clear hr0 hc0
 have HBW := Aside0.mk (Below.refl w.heap.size w)
 have HW0 := Aside0.mk hB.size
 have HB := Aside0.mk hB
 clear hB
 have H : (some (l0, 0, 101 + ((l0.length : Int) % 1000))) = some (r1, r2, r3) := h
 clear h
 simp only [Option.some.injEq, Prod.mk.injEq] at H
 obtain ⟨rfl, rfl, rfl⟩ := H
 go_enter Try.func116, Try.ntmps116
 go_wp2_with (first | ((with_reducible refine gate_dst (N := 9) rfl ?_); refine box_event ?hg (N := 9) ?hd (cs := #[.slice A0 l0.length c0, .int .i64 0, .int .i64 (101 + ((l0.length : Int) % 1000))]) (t := 213) ?hr ?_; (case hd => rfl); (case hg => rfl); (case hr => exact qz5); intro gb101 hg w2 hbox hb; have n0_ := Aside0.mk (below_step HBW.out hb); have n1_ := Aside0.mk (below_step qz6 hb); have n2_ := Aside0.mk (hbox); have n3_ := Aside0.mk ((qz615 : w.heap.size ≤ gb101)); have n4_ := Aside0.mk ((Nat.le_trans HW0.out (qz615 : w.heap.size ≤ gb101) : w0.heap.size ≤ gb101)); clear HBW; clear HB; have HBW := n0_; have HB := n1_; have BK101 := n2_; have GW101 := n3_; have GE101 := n4_; clear n0_ n1_ n2_ n3_ n4_; clear hb hbox hg))
 go_ret
 exact ⟨_, rfl, (show IsS213 w0 _ gb101 l0 0 (101 + ((l0.length : Int) % 1000)) from ⟨_, _, qz8 BK101.out, GE101.out, HR0.out⟩), qz10 GE101.out, by repeat (first | (with_reducible first | exact HBW.out | apply below_alloc | apply pw_below_drewN | apply below_drew1 | refine below_set ?_ GW101.out) | exact HBW.out)⟩

end Go.Proofs.Ytjhfjnknajhanaa.P

namespace Go.Proofs.Ytjhfjnknajhanaa.P
open Go.RowKit Go.Proofs.YtjhfjnknajhanaaW.PrintWords Go.Proofs.YtjhfjnknajhanaaW.PrintLast Go.Proofs.YtjhfjnknajhanaaW.PrintMore
attribute [local go_sem] max2_int min2_int max_two min_two max_three min_three max_four min_four   -- for this text's walks alone
set_option linter.unusedVariables false
set_option linter.unusedSimpArgs false

/-! ### spec_DrawLatDown: function 41 -/
set_option maxHeartbeats 8000000 in
set_option maxRecDepth 100000 in
theorem spec_DrawLatDown.calls (k : Nat) (A0 : Option Addr) (c0 : Nat) (l0 : List Int) (r1 : Int) (r2 : List Int) (r3 : Int) (w : World) (hr0 : Kd.C (Kd.int .u8) w A0 l0.length l0) (hc0 : l0.length ≤ c0) (h : spec_DrawLatDown.f k l0 = some (r1, r2, r3)) :
  Calls Try.prog 41 #[.slice A0 l0.length c0] w fun e w' => ∃ v1_ : Value, e = .returned (.tuple #[.agg #[.int .i64 r1, v1_], .int .i64 r3]) ∧ Kd.R (Kd.int .u64) 153 w' w.heap.size (fun _ => True) v1_ r2 ∧ Below w.heap.size w w' := by
 have hu47 := Try.underlying47
 have HR0 := Aside0.mk hr0
 have HC0 := Aside0.mk hc0
 clear hr0 hc0
 have HB := Aside0.mk (Below.refl w.heap.size w)
 have H : ((spec_l01Open.f l0).bind fun bt102 => ((spec_l01Cur_badLat.f k bt102.1 bt102.2.1 bt102.2.2).bind fun bt106 => ((spec_l01Cur_label.f bt102.1 bt106.2.2.1 bt106.2.2.2 bt106.1 bt106.2.1).bind fun bt113 => (some (bt106.1, bt106.2.1, bt113.1))))) = some (r1, r2, r3) := h
 clear h
 replace H := Option.bind_eq_some_iff.mp H
 obtain ⟨⟨t102, t103, t104⟩, A20, H⟩ := H
 replace H : ((spec_l01Cur_badLat.f k t102 t103 t104).bind fun bt106 => ((spec_l01Cur_label.f t102 bt106.2.2.1 bt106.2.2.2 bt106.1 bt106.2.1).bind fun bt113 => (some (bt106.1, bt106.2.1, bt113.1)))) = some (r1, r2, r3) := H
 have A2 := Aside0.mk A20
 clear A20
 replace H := Option.bind_eq_some_iff.mp H
 obtain ⟨⟨t106, t107, t110, t111⟩, A30, H⟩ := H
 replace H : ((spec_l01Cur_label.f t102 t110 t111 t106 t107).bind fun bt113 => (some (t106, t107, bt113.1))) = some (r1, r2, r3) := H
 have A3 := Aside0.mk A30
 clear A30
 replace H := Option.bind_eq_some_iff.mp H
 obtain ⟨⟨t113, t114, t115⟩, A40, H⟩ := H
 replace H : (some (t106, t107, t113)) = some (r1, r2, r3) := H
 have A4 := Aside0.mk A40
 clear A40
 simp only [Option.some.injEq, Prod.mk.injEq] at H
 obtain ⟨rfl, rfl, rfl⟩ := H
 go_enter Try.func41, Try.ntmps41
 try go_wp2_with (first | ((with_reducible refine gate_dst (N := 2) rfl ?_); refine box_event ?hg (N := 2) ?hd (cs := #[.int .i64 0, .slice none 0 0]) (t := 47) ?hr ?_; (case hd => rfl); (case hg => rfl); (case hr => exact qz5); intro gb101 hg w5 hbox hb; have n0_ := Aside0.mk (below_step qz6 hb); have n1_ := Aside0.mk (hbox); have n2_ := Aside0.mk ((qz7 : w.heap.size ≤ gb101)); have n3_ := Aside0.mk ((qz7 : w.heap.size ≤ gb101)); clear HB; have HB := n0_; have BK101 := n1_; have GW101 := n2_; have GE101 := n3_; clear n0_ n1_ n2_ n3_; clear hb hbox hg) | ((with_reducible refine gate_callee (f := 116) rfl ?_); refine goesL_ (some 7) rfl rfl Try.func116 (by kernel_rfl) rfl #[.slice A0 l0.length c0] rfl qz1 ?_; (with_reducible refine (spec_l01Open.calls _ _ l0 t102 t103 t104 w _ ?side1 ?side2 ?side3 A2.out).mono ?_); (case side1 => exact qz10 GE101.out); (case side2 => exact HR0.out); (case side3 => exact HC0.out); rintro e w6 ⟨g105, rfl, hi, hb, hb2⟩; refine ⟨_, rfl, ?_⟩; have n0_ := Aside0.mk (blk_below (g := gb101) (o := .cells #[.int .i64 0, .slice none 0 0] 47 (0, 0)) (qz8 BK101.out) hb2); have n1_ := Aside0.mk (hb); have n2_ := Aside0.mk (hi); have n3_ := Aside0.mk (IsS213.ne_blk hi (blk_below (g := gb101) (o := .cells #[.int .i64 0, .slice none 0 0] 47 (0, 0)) (qz8 BK101.out) hb2) (by decide)); have n4_ := Aside0.mk (Ne.symm (IsS213.ne_blk hi (blk_below (g := gb101) (o := .cells #[.int .i64 0, .slice none 0 0] 47 (0, 0)) (qz8 BK101.out) hb2) (by decide))); clear BK101; clear HB; have BK101 := n0_; have HB := n1_; have HI105 := n2_; have NB105_101 := n3_; have NB101_105 := n4_; clear n0_ n1_ n2_ n3_ n4_; (try clear hb); (try clear hb2); (try clear hk); (try clear hi)) | ((with_reducible refine gate_callee (f := 117) rfl ?_); refine goesL_ (some 9) rfl rfl Try.func117 (by kernel_rfl) rfl #[.pointer (some ⟨g105, 0, none⟩)] rfl qz1 ?_; (with_reducible refine (spec_l01Cur_badLat.calls k g105 t102 t103 t104 t106 t107 t110 t111 w _ ?side1 ?side2 A3.out).mono ?_); (case side1 => exact qz289 HI105.out NB105_101.out); (case side2 => exact qz290 HI105.out GE101.out); rintro e w7 ⟨v108, rfl, ho0, hi, hb, hk⟩; refine ⟨_, rfl, ?_⟩; have n0_ := Aside0.mk (KeepBut.blk hk (g' := gb101) (o := .cells #[.int .i64 0, .slice none 0 0] 47 (0, 0)) (qz8 BK101.out) NB101_105.out (by simp)); have n1_ := Aside0.mk (Kd.R_lower ho0 (below_size (qz290 HI105.out GE101.out))); have n2_ := Aside0.mk (hb); have n3_ := Aside0.mk (hi); clear BK101; clear HB; clear HI105; have BK101 := n0_; have HO109 := n1_; have HB := n2_; have HI105 := n3_; clear n0_ n1_ n2_ n3_; (try clear hb); (try clear hb2); (try clear hk); (try clear hi); (try clear ho0)) | ((with_reducible refine gate_dst (N := 5) rfl ?_); refine box_event ?hg (N := 5) ?hd (cs := #[.int .i64 0, .slice none 0 0]) (t := 47) ?hr ?_; (case hd => rfl); (case hg => rfl); (case hr => exact qz5); intro gb112 hg w8 hbox hb; have n0_ := Aside0.mk (Kd.R_below (qz21 HO109.out) hb); have n1_ := Aside0.mk (blk_below (g := gb101) (o := .cells #[.int .i64 0, .slice none 0 0] 47 (0, 0)) (qz8 BK101.out) hb); have n2_ := Aside0.mk (IsS213.below (qz289 HI105.out NB105_101.out) hb); have n3_ := Aside0.mk (below_step (qz290 HI105.out GE101.out) hb); have n4_ := Aside0.mk (hbox); have n5_ := Aside0.mk ((qz291 HI105.out GE101.out : w.heap.size ≤ gb112)); have n6_ := Aside0.mk ((qz291 HI105.out GE101.out : w.heap.size ≤ gb112)); have n7_ := Aside0.mk ((qz39 BK101.out : gb101 ≠ gb112)); have n8_ := Aside0.mk ((qz40 BK101.out : gb112 ≠ gb101)); have n9_ := Aside0.mk ((qz318 HI105.out NB105_101.out : g105 ≠ gb112)); have n10_ := Aside0.mk ((qz319 HI105.out NB105_101.out : gb112 ≠ g105)); clear HO109; clear BK101; clear HI105; clear HB; have HO109 := n0_; have BK101 := n1_; have HI105 := n2_; have HB := n3_; have BK112 := n4_; have GW112 := n5_; have GE112 := n6_; have NB101_112 := n7_; have NB112_101 := n8_; have NB105_112 := n9_; have NB112_105 := n10_; clear n0_ n1_ n2_ n3_ n4_ n5_ n6_ n7_ n8_ n9_ n10_; clear hb hbox hg; have hnb9 := NB112_101.out; have hnc9 := NB101_112.out; have hnb10 := NB112_105.out; have hnc10 := NB105_112.out; have hcz11_0 : w8.cell? ⟨gb112, 0, none⟩ = some (.int .i64 0) := (blk_cell BK112.out 0).trans rfl; have hcz11_1 : w8.cell? ⟨gb112, 1, none⟩ = some (.slice none 0 0) := (blk_cell BK112.out 1).trans rfl; have hfz11_0 := blk_frozen BK112.out 0; have hfz11_1 := blk_frozen BK112.out 1; obtain ⟨Ao12, co12, eo12⟩ := Kd.R_slice HO109.out; subst eo12))
 have n0_ : Aside0 (Kd.R (Kd.int .u64) 153 ((w8.setCell ⟨gb112, 0, none⟩ (.int .i64 t106)).setCell ⟨gb112, 1, none⟩ (.slice Ao12 t107.length co12)) w.heap.size (fun _ => True) (.slice Ao12 t107.length co12) t107) := ⟨by (with_reducible repeat (first | apply Kd.R_alloc | apply Kd.R_drewN | apply Kd.R_drew)); exact Kd.R_mono (Kd.R_far (p := ⟨gb112, 1, none⟩) (Kd.R_far (p := ⟨gb112, 0, none⟩) (Kd.R_types HO109.out BK112.out (by decide)) (fun _ hk => hk.2) (.int .i64 t106)) (fun _ hk => hk.2) (.slice Ao12 t107.length co12)) (fun _ hk => trivial)⟩
 have n1_ : Aside0 (((w8.setCell ⟨gb112, 0, none⟩ (.int .i64 t106)).setCell ⟨gb112, 1, none⟩ (.slice Ao12 t107.length co12)).heap[gb101]? = some (.cells #[.int .i64 0, .slice none 0 0] 47 (0, 0))) := ⟨qz41 NB101_112.out BK101.out⟩
 have n2_ : Aside0 (((w8.setCell ⟨gb112, 0, none⟩ (.int .i64 t106)).setCell ⟨gb112, 1, none⟩ (.slice Ao12 t107.length co12)).heap[gb112]? = some (.cells #[.int .i64 t106, .slice Ao12 t107.length co12] 47 (0, 0))) := ⟨qz320 BK112.out⟩
 have n3_ : Aside0 (IsS213 w ((w8.setCell ⟨gb112, 0, none⟩ (.int .i64 t106)).setCell ⟨gb112, 1, none⟩ (.slice Ao12 t107.length co12)) g105 t102 t110 t111) := ⟨qz295 HI105.out NB105_101.out NB105_112.out⟩
 have n4_ : Aside0 (Below w.heap.size w ((w8.setCell ⟨gb112, 0, none⟩ (.int .i64 t106)).setCell ⟨gb112, 1, none⟩ (.slice Ao12 t107.length co12))) := ⟨qz296 HI105.out GE101.out GE112.out⟩
 (try clear HO109)
 (try clear BK101)
 (try clear BK112)
 (try clear HI105)
 (try clear HB)
 generalize ((w8.setCell ⟨gb112, 0, none⟩ (.int .i64 t106)).setCell ⟨gb112, 1, none⟩ (.slice Ao12 t107.length co12)) = w13 at n0_ n1_ n2_ n3_ n4_ ⊢
 have HO109 := n0_
 have BK101 := n1_
 have BK112 := n2_
 have HI105 := n3_
 have HB := n4_
 clear n0_ n1_ n2_ n3_ n4_
 have n0_ := Aside0.mk (Kd.R_drew HO109.out)
 have n1_ := Aside0.mk (blk_drew BK101.out)
 have n2_ := Aside0.mk (blk_drew BK112.out)
 have n3_ := Aside0.mk (IsS213.drew HI105.out)
 have n4_ := Aside0.mk (below_drew1 HB.out)
 clear HO109
 clear BK101
 clear BK112
 clear HI105
 clear HB
 have HO109 := n0_
 have BK101 := n1_
 have BK112 := n2_
 have HI105 := n3_
 have HB := n4_
 clear n0_ n1_ n2_ n3_ n4_
 refine start_ (n := 6) (S := fun w' => w'.cell? ⟨gb112, 0, none⟩ = some (.int .i64 t106) ∧ w'.cell? ⟨gb112, 1, none⟩ = some (.slice Ao12 t107.length co12)) (ds := []) #[false, false, false, false, false, false] (by kernel_rfl) rfl rfl ⟨(blk_cell BK112.out 0).trans rfl, (blk_cell BK112.out 1).trans rfl⟩ (fun hHeld => ?_)
 generalize w13.drew = w14 at HO109 BK101 BK112 HI105 HB hHeld ⊢
 refine pure_ (i := 1) (N := some 11) (v := ?_) (a' := ?_) #[false, true, false, false, false, false] rfl rfl (by kernel_rfl) (fun _ _ _ h => h) (Or.inl ⟨by rfl, ?_⟩) ?_ ?_
 rotate_left
 ·intro w'
  go_simp
  with_reducible rfl
 rotate_left
 ·simp only [Act.put, List.setIfInBounds_toArray, List.set_cons_zero, List.set_cons_succ, i64_w, i32_w]
  rfl
 refine take_ (i := 0) (N := some 10) (v := ?_) (a' := ?_) #[true, true, false, false, false, false] rfl rfl (by kernel_rfl) (fun _ _ _ h => h) (Or.inl ⟨by rfl, ?_⟩) hHeld ?_ ?_
 rotate_left
 ·rintro w' ⟨s0, s1⟩
  go_simp
  with_reducible rfl
 rotate_left
 ·simp only [Act.put, List.setIfInBounds_toArray, List.set_cons_zero, List.set_cons_succ, i64_w, i32_w]
  rfl
 refine take_ (i := 2) (N := some 12) (v := ?_) (a' := ?_) #[true, true, true, false, false, false] rfl rfl (by kernel_rfl) (fun _ _ _ h => h) (Or.inl ⟨by rfl, ?_⟩) hHeld ?_ ?_
 rotate_left
 ·rintro w' ⟨s0, s1⟩
  go_simp
  with_reducible rfl
 rotate_left
 ·simp only [Act.put, List.setIfInBounds_toArray, List.set_cons_zero, List.set_cons_succ, i64_w, i32_w]
  rfl
 refine one_ (i := 3) (N := some 13) #[true, true, true, true, false, false] rfl rfl (by kernel_rfl) (by decide) (fun K hK => ?_)
 refine goes_ Try.func125 (by kernel_rfl) rfl #[.pointer (some ⟨g105, 0, none⟩), .agg #[.int .i64 t106, .slice Ao12 t107.length co12]] (by rfl) rfl rfl qz1 ?_
 with_reducible refine (spec_l01Cur_label.calls g105 t102 t110 t111 t106 _ _ t107 t113 t114 t115 w _ ?side1 ?side2 ?side3 ?side4 ?side5 A4.out).mono ?_
 (case side1 => exact qz295 HI105.out NB105_101.out NB105_112.out)
 (case side2 => exact qz296 HI105.out GE101.out GE112.out)
 (case side3 => exact qz19 HO109.out)
 (case side4 => exact qz20 HO109.out)
 (case side5 => exact qz321 HI105.out HO109.out)
 rintro e w15 ⟨rfl, hi, hb, hk⟩
 refine ⟨_, rfl, ?_⟩
 have n0_ := Aside0.mk (KeepBut.blk hk (g' := gb101) (o := .cells #[.int .i64 0, .slice none 0 0] 47 (0, 0)) (qz8 BK101.out) NB101_105.out (by simp))
 have n1_ := Aside0.mk (Kd.R_mono (Kd.R_keep (IsS213.apart (show IsS213 w _ g105 t102 t110 t111 from by repeat (first | (with_reducible first | exact HI105.out | apply IsS213.alloc | apply IsS213.drewN | apply IsS213.drew | apply IsS213.set_1 | apply IsS213.set_2 | refine IsS213.far ?_ NB105_101.out _ | refine IsS213.far ?_ NB105_112.out _) | exact HI105.out)) (qz21 HO109.out) (by decide)) hk (fun _ h => h.2)) (fun _ h => h.1))
 have n2_ := Aside0.mk (KeepBut.blk hk (g' := gb112) (o := .cells #[.int .i64 t106, .slice Ao12 t107.length co12] 47 (0, 0)) (qz8 BK112.out) NB112_105.out (by simp))
 have n3_ := Aside0.mk (hb)
 have n4_ := Aside0.mk (hi)
 clear BK101
 clear HO109
 clear BK112
 clear HB
 clear HI105
 have BK101 := n0_
 have HO109 := n1_
 have BK112 := n2_
 have HB := n3_
 have HI105 := n4_
 clear n0_ n1_ n2_ n3_ n4_
 (try clear hb)
 (try clear hb2)
 (try clear hk)
 (try clear hi)
 refine hK.out _ _ ⟨(blk_cell BK112.out 0).trans rfl, (blk_cell BK112.out 1).trans rfl⟩ (fun hHeld => ?_)
 clear hK K
 refine norm_ (a' := ?_) ?_ ?_
 rotate_left
 ·show Act.put _ (some 13) _ = _
  simp only [Act.put, List.setIfInBounds_toArray, List.set_cons_zero, List.set_cons_succ, i64_w, i32_w]
  rfl
 refine one_ (i := 4) (N := none) #[true, true, true, true, true, false] rfl rfl (by kernel_rfl) (by decide) (fun K hK => ?_)
 have hs16 : w15.cell? ⟨gb101, 0, none⟩ = some (.int .i64 0) := (blk_cell BK101.out 0).trans rfl
 have hfs16 := blk_frozen BK101.out 0
 have hns16_1 := NB112_101.out
 have hms16_1 := NB101_112.out
 have hs17 : w15.cell? ⟨gb101, 1, none⟩ = some (.slice none 0 0) := (blk_cell BK101.out 1).trans rfl
 have hfs17 := blk_frozen BK101.out 1
 have hns17_1 := NB112_101.out
 have hms17_1 := NB101_112.out
 refine skip_ (w1 := ?_) (by rfl) rfl ?_ ?_
 rotate_left
 ·go_simp
  rfl
 refine hK.out _ _ ⟨((cell_far (p := ⟨gb101, _, none⟩) NB112_101.out _).trans (((cell_far (p := ⟨gb101, _, none⟩) NB112_101.out _).trans (hHeld.1)))), ((cell_far (p := ⟨gb101, _, none⟩) NB112_101.out _).trans (((cell_far (p := ⟨gb101, _, none⟩) NB112_101.out _).trans (hHeld.2))))⟩ (fun hHeld => ?_)
 clear hK K
 refine pure_ (i := 5) (N := some 3) (v := ?_) (a' := ?_) #[true, true, true, true, true, true] rfl rfl (by kernel_rfl) (fun _ _ _ h => h) (Or.inl ⟨by rfl, ?_⟩) ?_ ?_
 rotate_left
 ·intro w'
  go_simp
  with_reducible rfl
 rotate_left
 ·simp only [Act.put, List.setIfInBounds_toArray, List.set_cons_zero, List.set_cons_succ, i64_w, i32_w]
  rfl
 refine done_ (by kernel_rfl) ?_
 try go_wp2
 refine bodyPost_ret (results_ct rfl _ _ gb101 47 #[.int .i64 t106, .slice Ao12 t107.length co12] (0, 0) _ rfl (qz320 BK101.out) Try.underlying47 rfl (by kernel_rfl)) rfl ?_
 exact ⟨_, qz13, by (with_reducible repeat (first | apply Kd.R_alloc | apply Kd.R_drewN | apply Kd.R_drew)); exact Kd.R_mono (Kd.R_far (p := ⟨gb101, 1, none⟩) (Kd.R_far (p := ⟨gb101, 0, none⟩) (Kd.R_types HO109.out BK101.out (by decide)) (fun _ hk => hk.2) (.int .i64 t106)) (fun _ hk => hk.2) (.slice Ao12 t107.length co12)) (fun _ hk => trivial), qz296 HI105.out GE101.out GE112.out⟩

end Go.Proofs.Ytjhfjnknajhanaa.P

namespace Go.Proofs.Ytjhfjnknajhanaa.P
open Go.RowKit Go.Proofs.YtjhfjnknajhanaaW.PrintWords Go.Proofs.YtjhfjnknajhanaaW.PrintLast Go.Proofs.YtjhfjnknajhanaaW.PrintMore
attribute [local go_sem] max2_int min2_int max_two min_two max_three min_three max_four min_four   -- for this text's walks alone
set_option linter.unusedVariables false
set_option linter.unusedSimpArgs false

/-! ### spec_l01Label: function 129 -/
set_option maxHeartbeats 8000000 in
set_option maxRecDepth 100000 in
theorem spec_l01Label.calls (k : Nat) (a0_0 : Int) (A0_1 : Option Addr) (c0_1 : Nat) (l0_1 : List Int) (a1 : Int) (r : Bool) (w : World) (hr0_1 : Kd.C (Kd.int .u64) w A0_1 l0_1.length l0_1) (hc0_1 : l0_1.length ≤ c0_1) (h : spec_l01Label.f k a0_0 l0_1 a1 = some r) :
  Calls Try.prog 129 #[.agg #[.int .i64 a0_0, .slice A0_1 l0_1.length c0_1], .int .i64 a1] w fun e w' => e = .returned (.bool r) ∧ Below w.heap.size w w' := by
 have hu47 := Try.underlying47
 have HR0_1 := Aside0.mk hr0_1
 have HC0_1 := Aside0.mk hc0_1
 clear hr0_1 hc0_1
 have HB := Aside0.mk (Below.refl w.heap.size w)
 have H : ((spec_LatOk.f k a0_0 l0_1).bind fun t102 => (if t102 = true then (if a1 ≥ 0 then (some (decide (a1 < a0_0))) else (some false)) else (some false))) = some r := h
 clear h
 replace H := Option.bind_eq_some_iff.mp H
 obtain ⟨t102, A30, H⟩ := H
 replace H : (if t102 = true then (if a1 ≥ 0 then (some (decide (a1 < a0_0))) else (some false)) else (some false)) = some r := H
 have A3 := Aside0.mk A30
 clear A30
 by_cases c4 : t102 = true
 ·subst c4
  have H1 : (if a1 ≥ 0 then (some (decide (a1 < a0_0))) else (some false)) = some r := by rw [if_pos rfl] at H; exact H
  clear H
  have H := H1
  clear H1
  by_cases c5 : a1 ≥ 0
  ·rw [if_pos c5] at H
   have c5b0 : decide (0 ≤ a1) = true := decide_eq_true c5
   clear c5
   obtain rfl := Option.some.inj H
   go_enter Try.func129, Try.ntmps129
   go_wp2_with (first | ((with_reducible refine gate_dst (N := 2) rfl ?_); refine box_event ?hg (N := 2) ?hd (cs := #[.int .i64 a0_0, .slice A0_1 l0_1.length c0_1]) (t := 47) ?hr ?_; (case hd => rfl); (case hg => rfl); (case hr => exact qz5); intro gb101 hg w6 hbox hb; have n0_ := Aside0.mk (below_step qz6 hb); have n1_ := Aside0.mk (hbox); have n2_ := Aside0.mk ((qz7 : w.heap.size ≤ gb101)); have n3_ := Aside0.mk ((qz7 : w.heap.size ≤ gb101)); clear HB; have HB := n0_; have BK101 := n1_; have GW101 := n2_; have GE101 := n3_; clear n0_ n1_ n2_ n3_; clear hb hbox hg; have hcz7_0 : w6.cell? ⟨gb101, 0, none⟩ = some (.int .i64 a0_0) := (blk_cell BK101.out 0).trans rfl; have hcz7_1 : w6.cell? ⟨gb101, 1, none⟩ = some (.slice A0_1 l0_1.length c0_1) := (blk_cell BK101.out 1).trans rfl; have hfz7_0 := blk_frozen BK101.out 0; have hfz7_1 := blk_frozen BK101.out 1) | ((with_reducible refine gate_callee (f := 30) rfl ?_); refine goesL_ (some 6) rfl rfl Try.func30 (by kernel_rfl) rfl #[.agg #[.int .i64 a0_0, .slice A0_1 l0_1.length c0_1]] rfl qz1 ?_; (with_reducible refine (spec_LatOk.calls k a0_0 _ _ l0_1 true _ ?side1 ?side2 A3.out).mono ?_); (case side1 => exact qz17 HR0_1.out); (case side2 => exact HC0_1.out); rintro e w8 ⟨rfl, hb⟩; refine ⟨_, rfl, ?_⟩; have n0_ := Aside0.mk (blk_below (g := gb101) (o := .cells #[.int .i64 a0_0, .slice A0_1 l0_1.length c0_1] 47 (0, 0)) (qz8 BK101.out) hb); have n1_ := Aside0.mk (below_step (qz10 GE101.out) hb); clear BK101; clear HB; have BK101 := n0_; have HB := n1_; clear n0_ n1_; (try clear hb); (try clear hb2); (try clear hk); (try clear hi); have hcz9_0 : w8.cell? ⟨gb101, 0, none⟩ = some (.int .i64 a0_0) := (blk_cell BK101.out 0).trans rfl; have hcz9_1 : w8.cell? ⟨gb101, 1, none⟩ = some (.slice A0_1 l0_1.length c0_1) := (blk_cell BK101.out 1).trans rfl; have hfz9_0 := blk_frozen BK101.out 0; have hfz9_1 := blk_frozen BK101.out 1))
   go_ret
   exact ⟨qz13, qz10 GE101.out⟩
  ·rw [if_neg c5] at H
   have c5b0 : decide (0 ≤ a1) = false := decide_eq_false c5
   clear c5
   obtain rfl := Option.some.inj H
   go_enter Try.func129, Try.ntmps129
   go_wp2_with (first | ((with_reducible refine gate_dst (N := 2) rfl ?_); refine box_event ?hg (N := 2) ?hd (cs := #[.int .i64 a0_0, .slice A0_1 l0_1.length c0_1]) (t := 47) ?hr ?_; (case hd => rfl); (case hg => rfl); (case hr => exact qz5); intro gb101 hg w10 hbox hb; have n0_ := Aside0.mk (below_step qz6 hb); have n1_ := Aside0.mk (hbox); have n2_ := Aside0.mk ((qz7 : w.heap.size ≤ gb101)); have n3_ := Aside0.mk ((qz7 : w.heap.size ≤ gb101)); clear HB; have HB := n0_; have BK101 := n1_; have GW101 := n2_; have GE101 := n3_; clear n0_ n1_ n2_ n3_; clear hb hbox hg; have hcz11_0 : w10.cell? ⟨gb101, 0, none⟩ = some (.int .i64 a0_0) := (blk_cell BK101.out 0).trans rfl; have hcz11_1 : w10.cell? ⟨gb101, 1, none⟩ = some (.slice A0_1 l0_1.length c0_1) := (blk_cell BK101.out 1).trans rfl; have hfz11_0 := blk_frozen BK101.out 0; have hfz11_1 := blk_frozen BK101.out 1) | ((with_reducible refine gate_callee (f := 30) rfl ?_); refine goesL_ (some 6) rfl rfl Try.func30 (by kernel_rfl) rfl #[.agg #[.int .i64 a0_0, .slice A0_1 l0_1.length c0_1]] rfl qz1 ?_; (with_reducible refine (spec_LatOk.calls k a0_0 _ _ l0_1 true _ ?side1 ?side2 A3.out).mono ?_); (case side1 => exact qz17 HR0_1.out); (case side2 => exact HC0_1.out); rintro e w12 ⟨rfl, hb⟩; refine ⟨_, rfl, ?_⟩; have n0_ := Aside0.mk (blk_below (g := gb101) (o := .cells #[.int .i64 a0_0, .slice A0_1 l0_1.length c0_1] 47 (0, 0)) (qz8 BK101.out) hb); have n1_ := Aside0.mk (below_step (qz10 GE101.out) hb); clear BK101; clear HB; have BK101 := n0_; have HB := n1_; clear n0_ n1_; (try clear hb); (try clear hb2); (try clear hk); (try clear hi)))
   go_ret
   exact ⟨qz13, qz10 GE101.out⟩
 ·replace c4 := Bool.eq_false_iff.mpr c4
  subst c4
  have H1 : (some false) = some r := by rw [if_neg (show ¬ (false = true) by decide)] at H; exact H
  clear H
  have H := H1
  clear H1
  obtain rfl := Option.some.inj H
  go_enter Try.func129, Try.ntmps129
  go_wp2_with (first | ((with_reducible refine gate_dst (N := 2) rfl ?_); refine box_event ?hg (N := 2) ?hd (cs := #[.int .i64 a0_0, .slice A0_1 l0_1.length c0_1]) (t := 47) ?hr ?_; (case hd => rfl); (case hg => rfl); (case hr => exact qz5); intro gb101 hg w13 hbox hb; have n0_ := Aside0.mk (below_step qz6 hb); have n1_ := Aside0.mk (hbox); have n2_ := Aside0.mk ((qz7 : w.heap.size ≤ gb101)); have n3_ := Aside0.mk ((qz7 : w.heap.size ≤ gb101)); clear HB; have HB := n0_; have BK101 := n1_; have GW101 := n2_; have GE101 := n3_; clear n0_ n1_ n2_ n3_; clear hb hbox hg; have hcz14_0 : w13.cell? ⟨gb101, 0, none⟩ = some (.int .i64 a0_0) := (blk_cell BK101.out 0).trans rfl; have hcz14_1 : w13.cell? ⟨gb101, 1, none⟩ = some (.slice A0_1 l0_1.length c0_1) := (blk_cell BK101.out 1).trans rfl; have hfz14_0 := blk_frozen BK101.out 0; have hfz14_1 := blk_frozen BK101.out 1) | ((with_reducible refine gate_callee (f := 30) rfl ?_); refine goesL_ (some 6) rfl rfl Try.func30 (by kernel_rfl) rfl #[.agg #[.int .i64 a0_0, .slice A0_1 l0_1.length c0_1]] rfl qz1 ?_; (with_reducible refine (spec_LatOk.calls k a0_0 _ _ l0_1 false _ ?side1 ?side2 A3.out).mono ?_); (case side1 => exact qz17 HR0_1.out); (case side2 => exact HC0_1.out); rintro e w15 ⟨rfl, hb⟩; refine ⟨_, rfl, ?_⟩; have n0_ := Aside0.mk (blk_below (g := gb101) (o := .cells #[.int .i64 a0_0, .slice A0_1 l0_1.length c0_1] 47 (0, 0)) (qz8 BK101.out) hb); have n1_ := Aside0.mk (below_step (qz10 GE101.out) hb); clear BK101; clear HB; have BK101 := n0_; have HB := n1_; clear n0_ n1_; (try clear hb); (try clear hb2); (try clear hk); (try clear hi)))
  go_ret
  exact ⟨qz13, qz10 GE101.out⟩

end Go.Proofs.Ytjhfjnknajhanaa.P

namespace Go.Proofs.Ytjhfjnknajhanaa.P
open Go.RowKit Go.Proofs.YtjhfjnknajhanaaW.PrintWords Go.Proofs.YtjhfjnknajhanaaW.PrintLast Go.Proofs.YtjhfjnknajhanaaW.PrintMore
attribute [local go_sem] max2_int min2_int max_two min_two max_three min_three max_four min_four   -- for this text's walks alone
set_option linter.unusedVariables false
set_option linter.unusedSimpArgs false

/-! ### spec_LatDown: function 44 -/
set_option maxHeartbeats 8000000 in
set_option maxRecDepth 100000 in
theorem spec_LatDown.calls (k : Nat) (a0_0 : Int) (A0_1 : Option Addr) (c0_1 : Nat) (l0_1 : List Int) (a1 : Int) (r : List Int) (w : World) (hr0_1 : Kd.C (Kd.int .u64) w A0_1 l0_1.length l0_1) (hc0_1 : l0_1.length ≤ c0_1) (h : spec_LatDown.f k a0_0 l0_1 a1 = some r) :
  Calls Try.prog 44 #[.agg #[.int .i64 a0_0, .slice A0_1 l0_1.length c0_1], .int .i64 a1] w fun e w' => ∃ v0_ : Value, e = .returned (v0_) ∧ Kd.R (Kd.int .i64) 3 w' w.heap.size (fun _ => True) v0_ r ∧ Below w.heap.size w w' := by
 have hu47 := Try.underlying47
 have HR0_1 := Aside0.mk hr0_1
 have HC0_1 := Aside0.mk hc0_1
 clear hr0_1 hc0_1
 have HB := Aside0.mk (Below.refl w.heap.size w)
 have H : (spec_LatDown.l0 k a1 (([] : List Int)) 0 a0_0 l0_1) = some r := h
 clear h
 obtain ⟨y102, hy102⟩ : ∃ y_ : List Int, y_ = (([] : List Int)) := ⟨_, rfl⟩
 replace H : (spec_LatDown.l0 k a1 y102 0 a0_0 l0_1) = some r := by first | (rw [hy102]; with_reducible exact H) | (have H2_ := (Option.bind_some _ _).symm.trans H; rw [hy102]; with_reducible exact H2_) | (have H2_ := (Option.bind_some _ _).symm.trans H; with_reducible exact H2_) | with_reducible exact H | (rw [hy102]; exact H) | exact H
 have Ny102 := Aside0.mk hy102
 clear hy102
 have H' := Aside0.mk H
 clear H
 go_enter Try.func44, Try.ntmps44
 go_wp2_with (first | ((with_reducible refine gate_dst (N := 2) rfl ?_); refine box_event ?hg (N := 2) ?hd (cs := #[.int .i64 a0_0, .slice A0_1 l0_1.length c0_1]) (t := 47) ?hr ?_; (case hd => rfl); (case hg => rfl); (case hr => exact qz5); intro gb101 hg w3 hbox hb; have n0_ := Aside0.mk (below_step qz6 hb); have n1_ := Aside0.mk (hbox); have n2_ := Aside0.mk ((qz7 : w.heap.size ≤ gb101)); have n3_ := Aside0.mk ((qz7 : w.heap.size ≤ gb101)); clear HB; have HB := n0_; have BK101 := n1_; have GW101 := n2_; have GE101 := n3_; clear n0_ n1_ n2_ n3_; clear hb hbox hg) | ((with_reducible refine gate_dst (N := 7) rfl ?_); refine Kd.R_lit (Kd.int .i64) _ 3 ?hg (N := 7) ?hd (xs := ([] : List Int)) (inner := []) (ok := fun _ => True) (okp := fun _ => True) ?hr ?hp (fun _ hk => hk) trivial (Below.refl _ _) (Nat.le_refl _) (by simp) ?_; (case hd => rfl); (case hg => rfl); (case hr => exact qz5); (case hp => exact qz22); intro v103 w4 ho5 hb hg_ hnew_; clear hg_ hnew_; (first | rw [← Ny102.out] at ho5 | (simp only [Int.reduceToNat] at ho5; rw [← Ny102.out] at ho5)); have n0_ := Aside0.mk (Kd.R_lower ho5 (below_size (qz10 GE101.out))); have n1_ := Aside0.mk (blk_below (g := gb101) (o := .cells #[.int .i64 a0_0, .slice A0_1 l0_1.length c0_1] 47 (0, 0)) (qz8 BK101.out) hb); have n2_ := Aside0.mk (below_step (qz10 GE101.out) hb); clear BK101; clear HB; have HO104 := n0_; have BK101 := n1_; have HB := n2_; clear n0_ n1_ n2_; clear hb ho5))
 go_loopg [5, 6] k (fun kq v5 v6 w' => ∃ (x5_1 : List Int) (x6_1 : Int), v6 = .int .i64 x6_1 ∧ Aside0 (spec_LatDown.l0 kq a1 x5_1 x6_1 a0_0 l0_1 = some r) ∧ Aside0 (kq ≤ k) ∧ Aside0 (Kd.R (Kd.int .i64) 3 w' w.heap.size (fun _ => True) v5 x5_1) ∧ Aside0 (w'.heap[gb101]? = some (.cells #[.int .i64 a0_0, (.slice A0_1 l0_1.length c0_1)] 47 (0, 0))) ∧ Aside0 (Below w.heap.size w w'))
 case atStart => exact ⟨(y102), (0), qz2, H', ⟨Nat.le_refl _⟩, ⟨qz21 HO104.out⟩, ⟨qz8 BK101.out⟩, ⟨qz10 GE101.out⟩⟩
 case round =>
  clear H'
  try clear p2
  try clear c4
  obtain ⟨x5_1, x6_1, rfl, HA, HK1, HO_5, BK101, HB⟩ := hrel
  cases gk with
  | zero => exact absurd HA.out (by simp [spec_LatDown.l0])
  | succ k1 =>
   have H := HA.out
   clear HA
   simp only [spec_LatDown.l0] at H
   have HC6 := Aside0.mk H
   clear H
   go_upto_region 3 with (fail)
   go_cut [16] (fun v16 wc => ∃ (kq : Nat) (x16_5 : Bool), v16 = .bool x16_5 ∧ Aside0 (spec_LatDown.j1 kq a1 x5_1 x6_1 x16_5 a0_0 l0_1 = some r) ∧ Aside0 (kq ≤ k1) ∧ Aside0 (Kd.R (Kd.int .i64) 3 wc w.heap.size (fun _ => True) u5 x5_1) ∧ Aside0 (wc.heap[gb101]? = some (.cells #[.int .i64 a0_0, (.slice A0_1 l0_1.length c0_1)] 47 (0, 0))) ∧ Aside0 (Below w.heap.size w wc))
   case first =>
    have H := HC6.out
    clear HC6
    replace H := Option.bind_eq_some_iff.mp H
    obtain ⟨t105, A70, H⟩ := H
    replace H : (if t105 = true then (spec_LatDown.j1 k1 a1 x5_1 x6_1 (decide (x6_1 < a0_0)) a0_0 l0_1) else (spec_LatDown.j1 k1 a1 x5_1 x6_1 false a0_0 l0_1)) = some r := H
    have A7 := Aside0.mk A70
    clear A70
    by_cases c8 : t105 = true
    ·subst c8
     have H1 : (spec_LatDown.j1 k1 a1 x5_1 x6_1 (decide (x6_1 < a0_0)) a0_0 l0_1) = some r := by rw [if_pos rfl] at H; exact H
     clear H
     have H := H1
     clear H1
     have H' := Aside0.mk H
     clear H
     have hcz9_0 : wr.cell? ⟨gb101, 0, none⟩ = some (.int .i64 a0_0) := (blk_cell BK101.out 0).trans rfl
     have hcz9_1 : wr.cell? ⟨gb101, 1, none⟩ = some (.slice A0_1 l0_1.length c0_1) := (blk_cell BK101.out 1).trans rfl
     have hfz9_0 := blk_frozen BK101.out 0
     have hfz9_1 := blk_frozen BK101.out 1
     go_wp2_with (first | ((with_reducible refine gate_callee (f := 129) rfl ?_); refine goesL_ (some 10) rfl rfl Try.func129 (by kernel_rfl) rfl #[.agg #[.int .i64 a0_0, .slice A0_1 l0_1.length c0_1], .int .i64 a1] rfl qz1 ?_; (with_reducible refine (spec_l01Label.calls k1 a0_0 _ _ l0_1 a1 true _ ?side1 ?side2 A7.out).mono ?_); (case side1 => exact qz17 HR0_1.out); (case side2 => exact HC0_1.out); rintro e w10 ⟨rfl, hb⟩; refine ⟨_, rfl, ?_⟩; have n0_ := Aside0.mk (Kd.R_below qz24 hb); have n1_ := Aside0.mk (blk_below (g := gb101) (o := .cells #[.int .i64 a0_0, .slice A0_1 l0_1.length c0_1] 47 (0, 0)) (qz8 BK101.out) hb); have n2_ := Aside0.mk (below_step (qz10 GE101.out) hb); clear HO_5; clear BK101; clear HB; have HO_5 := n0_; have BK101 := n1_; have HB := n2_; clear n0_ n1_ n2_; (try clear hb); (try clear hb2); (try clear hk); (try clear hi); have hcz11_0 : w10.cell? ⟨gb101, 0, none⟩ = some (.int .i64 a0_0) := (blk_cell BK101.out 0).trans rfl; have hcz11_1 : w10.cell? ⟨gb101, 1, none⟩ = some (.slice A0_1 l0_1.length c0_1) := (blk_cell BK101.out 1).trans rfl; have hfz11_0 := blk_frozen BK101.out 0; have hfz11_1 := blk_frozen BK101.out 1))
     go_meet
     case rel => exact ⟨_, (decide (x6_1 < a0_0)), qz2, H', ⟨qz94 HK1.out⟩, ⟨qz24⟩, ⟨qz8 BK101.out⟩, ⟨qz10 GE101.out⟩⟩
    ·replace c8 := Bool.eq_false_iff.mpr c8
     subst c8
     have H1 : (spec_LatDown.j1 k1 a1 x5_1 x6_1 false a0_0 l0_1) = some r := by rw [if_neg (show ¬ (false = true) by decide)] at H; exact H
     clear H
     have H := H1
     clear H1
     have H' := Aside0.mk H
     clear H
     have hcz12_0 : wr.cell? ⟨gb101, 0, none⟩ = some (.int .i64 a0_0) := (blk_cell BK101.out 0).trans rfl
     have hcz12_1 : wr.cell? ⟨gb101, 1, none⟩ = some (.slice A0_1 l0_1.length c0_1) := (blk_cell BK101.out 1).trans rfl
     have hfz12_0 := blk_frozen BK101.out 0
     have hfz12_1 := blk_frozen BK101.out 1
     go_wp2_with (first | ((with_reducible refine gate_callee (f := 129) rfl ?_); refine goesL_ (some 10) rfl rfl Try.func129 (by kernel_rfl) rfl #[.agg #[.int .i64 a0_0, .slice A0_1 l0_1.length c0_1], .int .i64 a1] rfl qz1 ?_; (with_reducible refine (spec_l01Label.calls k1 a0_0 _ _ l0_1 a1 false _ ?side1 ?side2 A7.out).mono ?_); (case side1 => exact qz17 HR0_1.out); (case side2 => exact HC0_1.out); rintro e w13 ⟨rfl, hb⟩; refine ⟨_, rfl, ?_⟩; have n0_ := Aside0.mk (Kd.R_below qz24 hb); have n1_ := Aside0.mk (blk_below (g := gb101) (o := .cells #[.int .i64 a0_0, .slice A0_1 l0_1.length c0_1] 47 (0, 0)) (qz8 BK101.out) hb); have n2_ := Aside0.mk (below_step (qz10 GE101.out) hb); clear HO_5; clear BK101; clear HB; have HO_5 := n0_; have BK101 := n1_; have HB := n2_; clear n0_ n1_ n2_; (try clear hb); (try clear hb2); (try clear hk); (try clear hi)))
     go_meet
     case rel => exact ⟨_, (false), qz2, H', ⟨qz94 HK1.out⟩, ⟨qz24⟩, ⟨qz8 BK101.out⟩, ⟨qz10 GE101.out⟩⟩
   case rest =>
    clear HC6
    try clear c1
    try clear p2
    try clear c4
    try clear c8
    try clear c12
    try clear hcz11_0
    try clear hcz11_1
    try clear hcz12_0
    try clear hcz12_1
    try clear hcz9_0
    try clear hcz9_1
    try clear hfz11_0
    try clear hfz11_1
    try clear hfz12_0
    try clear hfz12_1
    try clear hfz9_0
    try clear hfz9_1
    try clear p2
    obtain ⟨kq, x16_5, rfl, HA, HJ5, HO_5, BK101, HB⟩ := hcut
    cases kq with
    | zero => exact absurd HA.out (by simp [spec_LatDown.j1])
    | succ kj5 =>
     have H := HA.out
     clear HA
     simp only [spec_LatDown.j1] at H
     by_cases c14 : x16_5 = true
     ·subst c14
      have H1 : (if 0 ≤ x6_1 then (if x6_1 < (l0_1.length : Int) then ((spec_l01Bit.f (rd l0_1 x6_1) a1).bind fun t107 => (if t107 = true then (if x5_1.length < 17592186044416 then (spec_LatDown.l0 kj5 a1 (x5_1 ++ [x6_1]) (wrap64 (x6_1 + 1)) a0_0 l0_1) else (none)) else (spec_LatDown.l0 kj5 a1 x5_1 (wrap64 (x6_1 + 1)) a0_0 l0_1))) else (none)) else (none)) = some r := by rw [if_pos rfl] at H; exact H
      clear H
      have H := H1
      clear H1
      by_cases c15 : 0 ≤ x6_1
      ·rw [if_pos c15] at H
       have c15b0 : decide (0 ≤ x6_1) = true := decide_eq_true c15
       clear c15
       by_cases c16 : x6_1 < (l0_1.length : Int)
       ·rw [if_pos c16] at H
        have c16b0 : decide (x6_1 < (l0_1.length : Int)) = true := decide_eq_true c16
        clear c16
        replace H := Option.bind_eq_some_iff.mp H
        obtain ⟨t107, A170, H⟩ := H
        replace H : (if t107 = true then (if x5_1.length < 17592186044416 then (spec_LatDown.l0 kj5 a1 (x5_1 ++ [x6_1]) (wrap64 (x6_1 + 1)) a0_0 l0_1) else (none)) else (spec_LatDown.l0 kj5 a1 x5_1 (wrap64 (x6_1 + 1)) a0_0 l0_1)) = some r := H
        have A17 := Aside0.mk A170
        clear A170
        by_cases c18 : t107 = true
        ·subst c18
         have H1 : (if x5_1.length < 17592186044416 then (spec_LatDown.l0 kj5 a1 (x5_1 ++ [x6_1]) (wrap64 (x6_1 + 1)) a0_0 l0_1) else (none)) = some r := by rw [if_pos rfl] at H; exact H
         clear H
         have H := H1
         clear H1
         by_cases c19 : x5_1.length < 17592186044416
         ·rw [if_pos c19] at H
          have LMc19 := Aside0.mk c19
          clear c19
          obtain ⟨y108, hy108⟩ : ∃ y_ : List Int, y_ = (x5_1 ++ [x6_1]) := ⟨_, rfl⟩
          replace H : (spec_LatDown.l0 kj5 a1 y108 (wrap64 (x6_1 + 1)) a0_0 l0_1) = some r := by first | (rw [hy108]; with_reducible exact H) | (have H2_ := (Option.bind_some _ _).symm.trans H; rw [hy108]; with_reducible exact H2_) | (have H2_ := (Option.bind_some _ _).symm.trans H; with_reducible exact H2_) | with_reducible exact H | (rw [hy108]; exact H) | exact H
          have Ny108 := Aside0.mk hy108
          clear hy108
          have H' := Aside0.mk H
          clear H
          have hcz20_0 : wc.cell? ⟨gb101, 0, none⟩ = some (.int .i64 a0_0) := (blk_cell BK101.out 0).trans rfl
          have hcz20_1 : wc.cell? ⟨gb101, 1, none⟩ = some (.slice A0_1 l0_1.length c0_1) := (blk_cell BK101.out 1).trans rfl
          have hfz20_0 := blk_frozen BK101.out 0
          have hfz20_1 := blk_frozen BK101.out 1
          have p106 : 0 ≤ (x6_1 : Int) := of_decide_eq_true qz4
          have q106 : x6_1 < (l0_1.length : Int) := of_decide_eq_true qz4
          obtain ⟨ad106, e106, hx106_0⟩ := Kd.at_int HR0_1.out x6_1 p106 q106
          cases e106
          replace hx106_0 := qcb HB hx106_0
          replace p106 := eq_true p106
          replace q106 := eq_true q106
          go_wp2_with (first | ((with_reducible refine gate_callee (f := 120) rfl ?_); refine goesL_ (some 25) rfl rfl Try.func120 (by kernel_rfl) rfl #[.int .u64 (rd l0_1 x6_1), .int .i64 a1] rfl qz1 ?_; (with_reducible refine (spec_l01Bit.calls (rd l0_1 x6_1) a1 true _ A17.out).mono ?_); rintro e w' ⟨rfl, ⟨nd, rfl⟩⟩; refine ⟨_, rfl, ?_⟩) | ((with_reducible refine gate_builtin (b := .append) (xs := #[.tmp 26, .tmp 28]) rfl ?_); at_builtin; refine Kd.R_append (Kd.int .i64) (w0 := w) w.heap.size rfl (.tmp 26) (.tmp 28) 32 3 (.int .i64 0) 8 rfl Try.underlying32 info3 rfl (by decide) (by omega) u5 x5_1 x6_1 [.int .i64 x6_1] (fun _ => True) (fun _ => False) rfl rfl ?aP (fun _ hk => hk.elim) ?aF ?aO ?aB ?aS ?aL ?_; (case aP => exact rfl); (case aB => exact qz25 GE101.out); (case aF => exact qz26); (case aO => exact qz27); (case aS => exact qz28 GE101.out); (case aL => have := LMc19.out; omega); intro v109 w21 ho hb hg hat; rw [← Ny108.out] at ho; have n0_ := Aside0.mk (blk_grown (g := gb101) (o := .cells #[.int .i64 a0_0, .slice (some ad106) l0_1.length c0_1] 47 (0, 0)) (qz8 BK101.out) hg (Kd.R_ne HO_5.out BK101.out (by decide))); have n1_ := Aside0.mk (hb); have n2_ := Aside0.mk (ho); clear BK101; clear HB; clear HO_5; have BK101 := n0_; have HB := n1_; have HO110 := n2_; clear n0_ n1_ n2_; clear ho hb hg hat))
          go_roundg kj5
          case measure => have := HK1.out; have := HJ5.out; omega
          case rel => exact ⟨(y108), (wrap64 (x6_1 + 1)), qz2, H', ⟨qz34 HK1.out HJ5.out⟩, ⟨qz21 HO110.out⟩, ⟨qz8 BK101.out⟩, ⟨qz10 GE101.out⟩⟩
         ·rw [if_neg c19] at H
          exact absurd H (by simp)
        ·replace c18 := Bool.eq_false_iff.mpr c18
         subst c18
         have H1 : (spec_LatDown.l0 kj5 a1 x5_1 (wrap64 (x6_1 + 1)) a0_0 l0_1) = some r := by rw [if_neg (show ¬ (false = true) by decide)] at H; exact H
         clear H
         have H := H1
         clear H1
         have H' := Aside0.mk H
         clear H
         have hcz22_0 : wc.cell? ⟨gb101, 0, none⟩ = some (.int .i64 a0_0) := (blk_cell BK101.out 0).trans rfl
         have hcz22_1 : wc.cell? ⟨gb101, 1, none⟩ = some (.slice A0_1 l0_1.length c0_1) := (blk_cell BK101.out 1).trans rfl
         have hfz22_0 := blk_frozen BK101.out 0
         have hfz22_1 := blk_frozen BK101.out 1
         have p106 : 0 ≤ (x6_1 : Int) := of_decide_eq_true qz4
         have q106 : x6_1 < (l0_1.length : Int) := of_decide_eq_true qz4
         obtain ⟨ad106, e106, hx106_0⟩ := Kd.at_int HR0_1.out x6_1 p106 q106
         cases e106
         replace hx106_0 := qcb HB hx106_0
         replace p106 := eq_true p106
         replace q106 := eq_true q106
         go_wp2_with (first | ((with_reducible refine gate_callee (f := 120) rfl ?_); refine goesL_ (some 25) rfl rfl Try.func120 (by kernel_rfl) rfl #[.int .u64 (rd l0_1 x6_1), .int .i64 a1] rfl qz1 ?_; (with_reducible refine (spec_l01Bit.calls (rd l0_1 x6_1) a1 false _ A17.out).mono ?_); rintro e w' ⟨rfl, ⟨nd, rfl⟩⟩; refine ⟨_, rfl, ?_⟩))
         go_roundg kj5
         case measure => have := HK1.out; have := HJ5.out; omega
         case rel => exact ⟨(x5_1), (wrap64 (x6_1 + 1)), qz2, H', ⟨qz34 HK1.out HJ5.out⟩, ⟨qz24⟩, ⟨qz8 BK101.out⟩, ⟨qz10 GE101.out⟩⟩
       ·rw [if_neg c16] at H
        exact absurd H (by simp)
      ·rw [if_neg c15] at H
       exact absurd H (by simp)
     ·replace c14 := Bool.eq_false_iff.mpr c14
      subst c14
      have H1 : (some x5_1) = some r := by rw [if_neg (show ¬ (false = true) by decide)] at H; exact H
      clear H
      have H := H1
      clear H1
      obtain rfl := Option.some.inj H
      go_wp2
      go_ret
      exact ⟨_, qz13, qz24, qz10 GE101.out⟩

end Go.Proofs.Ytjhfjnknajhanaa.P
