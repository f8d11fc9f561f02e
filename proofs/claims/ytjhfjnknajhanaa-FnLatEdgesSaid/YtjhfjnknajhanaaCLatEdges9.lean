/- The law FnLatEdges returns true for every byte string that can be read, with no condition: a drawn lattice that is valid is the lattice of the edges of its Hasse diagram, and one that is not valid has no edges. -/
import Derived.WalkSmall
import Derived.WalkKit
import Derived.ProofKit
import Derived.OpenShut
import Derived.ShutString
import Derived.ChangeOld
import Derived.Below
import Derived.SizedLaws
import Derived.Test.YtjhfjnknajhanaaCLatEdges5
import Derived.Test.YtjhfjnknajhanaaCLatEdges8
import Derived.Test.YtjhfjnknajhanaaCLatEdges6
import Derived.Test.YtjhfjnknajhanaaCLatEdges7
import Derived.Test.YtjhfjnknajhanaaRows
import Derived.Test.YtjhfjnknajhanaaCLatEdges4
import Derived.Test.YtjhfjnknajhanaaCLatEdges1
namespace Go.Proofs.Ytjhfjnknajhanaa.P
open Go.RowKit Go.Proofs.YtjhfjnknajhanaaW.PrintWords Go.Proofs.YtjhfjnknajhanaaW.PrintLast Go.Proofs.YtjhfjnknajhanaaW.PrintMore
attribute [local go_sem] max2_int min2_int max_two min_two max_three min_three max_four min_four   -- for this text's walks alone
set_option linter.unusedVariables false
set_option linter.unusedSimpArgs false

/-! ### spec_l01Cur_lat: function 210 -/
def spec_l01Cur_lat.T4 : Bool × List (List Nat × List Nat) := (true, [([], []), ([], []), ([0, 1], [0, 1]), ([2], [2]), ([], []), ([], []), ([4, 5], [4, 5]), ([6], [6]), ([3, 7], [3, 7]), ([8], [8]), ([9], [9]), ([9], [9]), ([], []), ([12, 10, 8, 0, 1, 2, 3, 4, 5, 6, 7, 8, 9, 10, 12], [10, 12]), ([11, 13, 0, 1, 2, 3, 4, 5, 6, 7, 8, 9, 10, 11, 12, 13], [11])])
def spec_l01Cur_lat.B4 : List Nat := [0, 0, 3, 7, 0, 0, 48, 112, 255, 511, 1023, 1023, 0, 6143, 16383]
theorem spec_l01Cur_lat.tab4 : rtab .any (opsOf Try.f210 4) = spec_l01Cur_lat.T4 := by kernel_rfl
theorem spec_l01Cur_lat.bits4 : waitsOk spec_l01Cur_lat.T4.2 spec_l01Cur_lat.B4 = true := by kernel_rfl
set_option maxHeartbeats 8000000 in
set_option maxRecDepth 100000 in
theorem spec_l01Cur_lat.calls (k : Nat) (g : Nat) (s0_0 : List Int) (s0_1 : Int) (s0_2 : Int) (r1 : Int) (r2 : List Int) (r3 : Int) (r4 : Int) (w0 w : World) (hI : IsS213 w0 w g s0_0 s0_1 s0_2) (hB : Below w0.heap.size w0 w) (h : spec_l01Cur_lat.f k s0_0 s0_1 s0_2 = some (r1, r2, r3, r4)) :
  Calls Try.prog 210 #[.pointer (some ⟨g, 0, none⟩)] w fun e w' => ∃ v1_ : Value, e = .returned (.agg #[.int .i64 r1, v1_]) ∧ Kd.R (Kd.int .u64) 153 w' w.heap.size (fun _ => True) v1_ r2 ∧ IsS213 w0 w' g s0_0 r3 r4 ∧ Below w0.heap.size w0 w' ∧ KeepBut w w' g none := by
 have hu47 := Try.underlying47
 have hu151 := Try.underlying151
 have HI0 := Aside0.mk hI
 have HK := Aside0.mk (KeepBut.refl w g none)
 have HL := Aside0.mk hB.size
 clear hI
 have HW0 := Aside0.mk hB.size
 have HB := Aside0.mk hB
 clear hB
 have H : ((some (([(([] : List (S151))), (([(⟨0, 1⟩ : S151)] : List (S151))), (([(⟨0, 1⟩ : S151), (⟨1, 2⟩ : S151)] : List (S151))), (([(⟨0, 1⟩ : S151), (⟨0, 2⟩ : S151), (⟨1, 3⟩ : S151), (⟨2, 3⟩ : S151)] : List (S151))), (([(⟨4, 0⟩ : S151), (⟨4, 1⟩ : S151), (⟨4, 2⟩ : S151), (⟨0, 3⟩ : S151), (⟨1, 3⟩ : S151), (⟨2, 3⟩ : S151)] : List (S151))), (([(⟨0, 1⟩ : S151), (⟨0, 2⟩ : S151), (⟨0, 3⟩ : S151), (⟨1, 4⟩ : S151), (⟨2, 4⟩ : S151), (⟨1, 5⟩ : S151), (⟨3, 5⟩ : S151), (⟨2, 6⟩ : S151), (⟨3, 6⟩ : S151), (⟨4, 7⟩ : S151), (⟨5, 7⟩ : S151), (⟨6, 7⟩ : S151)] : List (S151)))] : List (List (S151))) : List (List (S151)))).bind fun y120 => ((some (([1, 2, 3, 4, 5, 8] : List Int) : List Int)).bind fun y123 => ((spec_l01Cur_pick.f s0_0 s0_1 s0_2 6).bind fun bt126 => (if 0 ≤ bt126.1 then (if bt126.1 < (y123.length : Int) then (if bt126.1 < (y120.length : Int) then ((spec_LatOf.f k (rd y123 bt126.1) (rd_L18 y120 bt126.1)).bind fun bt131 => (some (bt131.1, bt131.2.1, bt126.2.1, bt126.2.2))) else (none)) else (none)) else (none))))) = some (r1, r2, r3, r4) := h
 clear h
 obtain ⟨y102, hy102⟩ : ∃ y_ : List (S151), y_ = (([] : List (S151))) := ⟨_, rfl⟩
 replace H : ((some (([y102, (([(⟨0, 1⟩ : S151)] : List (S151))), (([(⟨0, 1⟩ : S151), (⟨1, 2⟩ : S151)] : List (S151))), (([(⟨0, 1⟩ : S151), (⟨0, 2⟩ : S151), (⟨1, 3⟩ : S151), (⟨2, 3⟩ : S151)] : List (S151))), (([(⟨4, 0⟩ : S151), (⟨4, 1⟩ : S151), (⟨4, 2⟩ : S151), (⟨0, 3⟩ : S151), (⟨1, 3⟩ : S151), (⟨2, 3⟩ : S151)] : List (S151))), (([(⟨0, 1⟩ : S151), (⟨0, 2⟩ : S151), (⟨0, 3⟩ : S151), (⟨1, 4⟩ : S151), (⟨2, 4⟩ : S151), (⟨1, 5⟩ : S151), (⟨3, 5⟩ : S151), (⟨2, 6⟩ : S151), (⟨3, 6⟩ : S151), (⟨4, 7⟩ : S151), (⟨5, 7⟩ : S151), (⟨6, 7⟩ : S151)] : List (S151)))] : List (List (S151))) : List (List (S151)))).bind fun y120 => ((some (([1, 2, 3, 4, 5, 8] : List Int) : List Int)).bind fun y123 => ((spec_l01Cur_pick.f s0_0 s0_1 s0_2 6).bind fun bt126 => (if 0 ≤ bt126.1 then (if bt126.1 < (y123.length : Int) then (if bt126.1 < (y120.length : Int) then ((spec_LatOf.f k (rd y123 bt126.1) (rd_L18 y120 bt126.1)).bind fun bt131 => (some (bt131.1, bt131.2.1, bt126.2.1, bt126.2.2))) else (none)) else (none)) else (none))))) = some (r1, r2, r3, r4) := by first | (rw [hy102]; with_reducible exact H) | (have H2_ := (Option.bind_some _ _).symm.trans H; rw [hy102]; with_reducible exact H2_) | (have H2_ := (Option.bind_some _ _).symm.trans H; with_reducible exact H2_) | with_reducible exact H | (rw [hy102]; exact H) | exact H
 have Ny102 := Aside0.mk hy102
 clear hy102
 obtain ⟨y105, hy105⟩ : ∃ y_ : List (S151), y_ = (([(⟨0, 1⟩ : S151)] : List (S151))) := ⟨_, rfl⟩
 replace H : ((some (([y102, y105, (([(⟨0, 1⟩ : S151), (⟨1, 2⟩ : S151)] : List (S151))), (([(⟨0, 1⟩ : S151), (⟨0, 2⟩ : S151), (⟨1, 3⟩ : S151), (⟨2, 3⟩ : S151)] : List (S151))), (([(⟨4, 0⟩ : S151), (⟨4, 1⟩ : S151), (⟨4, 2⟩ : S151), (⟨0, 3⟩ : S151), (⟨1, 3⟩ : S151), (⟨2, 3⟩ : S151)] : List (S151))), (([(⟨0, 1⟩ : S151), (⟨0, 2⟩ : S151), (⟨0, 3⟩ : S151), (⟨1, 4⟩ : S151), (⟨2, 4⟩ : S151), (⟨1, 5⟩ : S151), (⟨3, 5⟩ : S151), (⟨2, 6⟩ : S151), (⟨3, 6⟩ : S151), (⟨4, 7⟩ : S151), (⟨5, 7⟩ : S151), (⟨6, 7⟩ : S151)] : List (S151)))] : List (List (S151))) : List (List (S151)))).bind fun y120 => ((some (([1, 2, 3, 4, 5, 8] : List Int) : List Int)).bind fun y123 => ((spec_l01Cur_pick.f s0_0 s0_1 s0_2 6).bind fun bt126 => (if 0 ≤ bt126.1 then (if bt126.1 < (y123.length : Int) then (if bt126.1 < (y120.length : Int) then ((spec_LatOf.f k (rd y123 bt126.1) (rd_L18 y120 bt126.1)).bind fun bt131 => (some (bt131.1, bt131.2.1, bt126.2.1, bt126.2.2))) else (none)) else (none)) else (none))))) = some (r1, r2, r3, r4) := by first | (rw [hy105]; with_reducible exact H) | (have H2_ := (Option.bind_some _ _).symm.trans H; rw [hy105]; with_reducible exact H2_) | (have H2_ := (Option.bind_some _ _).symm.trans H; with_reducible exact H2_) | with_reducible exact H | (rw [hy105]; exact H) | exact H
 have Ny105 := Aside0.mk hy105
 clear hy105
 obtain ⟨y108, hy108⟩ : ∃ y_ : List (S151), y_ = (([(⟨0, 1⟩ : S151), (⟨1, 2⟩ : S151)] : List (S151))) := ⟨_, rfl⟩
 replace H : ((some (([y102, y105, y108, (([(⟨0, 1⟩ : S151), (⟨0, 2⟩ : S151), (⟨1, 3⟩ : S151), (⟨2, 3⟩ : S151)] : List (S151))), (([(⟨4, 0⟩ : S151), (⟨4, 1⟩ : S151), (⟨4, 2⟩ : S151), (⟨0, 3⟩ : S151), (⟨1, 3⟩ : S151), (⟨2, 3⟩ : S151)] : List (S151))), (([(⟨0, 1⟩ : S151), (⟨0, 2⟩ : S151), (⟨0, 3⟩ : S151), (⟨1, 4⟩ : S151), (⟨2, 4⟩ : S151), (⟨1, 5⟩ : S151), (⟨3, 5⟩ : S151), (⟨2, 6⟩ : S151), (⟨3, 6⟩ : S151), (⟨4, 7⟩ : S151), (⟨5, 7⟩ : S151), (⟨6, 7⟩ : S151)] : List (S151)))] : List (List (S151))) : List (List (S151)))).bind fun y120 => ((some (([1, 2, 3, 4, 5, 8] : List Int) : List Int)).bind fun y123 => ((spec_l01Cur_pick.f s0_0 s0_1 s0_2 6).bind fun bt126 => (if 0 ≤ bt126.1 then (if bt126.1 < (y123.length : Int) then (if bt126.1 < (y120.length : Int) then ((spec_LatOf.f k (rd y123 bt126.1) (rd_L18 y120 bt126.1)).bind fun bt131 => (some (bt131.1, bt131.2.1, bt126.2.1, bt126.2.2))) else (none)) else (none)) else (none))))) = some (r1, r2, r3, r4) := by first | (rw [hy108]; with_reducible exact H) | (have H2_ := (Option.bind_some _ _).symm.trans H; rw [hy108]; with_reducible exact H2_) | (have H2_ := (Option.bind_some _ _).symm.trans H; with_reducible exact H2_) | with_reducible exact H | (rw [hy108]; exact H) | exact H
 have Ny108 := Aside0.mk hy108
 clear hy108
 obtain ⟨y111, hy111⟩ : ∃ y_ : List (S151), y_ = (([(⟨0, 1⟩ : S151), (⟨0, 2⟩ : S151), (⟨1, 3⟩ : S151), (⟨2, 3⟩ : S151)] : List (S151))) := ⟨_, rfl⟩
 replace H : ((some (([y102, y105, y108, y111, (([(⟨4, 0⟩ : S151), (⟨4, 1⟩ : S151), (⟨4, 2⟩ : S151), (⟨0, 3⟩ : S151), (⟨1, 3⟩ : S151), (⟨2, 3⟩ : S151)] : List (S151))), (([(⟨0, 1⟩ : S151), (⟨0, 2⟩ : S151), (⟨0, 3⟩ : S151), (⟨1, 4⟩ : S151), (⟨2, 4⟩ : S151), (⟨1, 5⟩ : S151), (⟨3, 5⟩ : S151), (⟨2, 6⟩ : S151), (⟨3, 6⟩ : S151), (⟨4, 7⟩ : S151), (⟨5, 7⟩ : S151), (⟨6, 7⟩ : S151)] : List (S151)))] : List (List (S151))) : List (List (S151)))).bind fun y120 => ((some (([1, 2, 3, 4, 5, 8] : List Int) : List Int)).bind fun y123 => ((spec_l01Cur_pick.f s0_0 s0_1 s0_2 6).bind fun bt126 => (if 0 ≤ bt126.1 then (if bt126.1 < (y123.length : Int) then (if bt126.1 < (y120.length : Int) then ((spec_LatOf.f k (rd y123 bt126.1) (rd_L18 y120 bt126.1)).bind fun bt131 => (some (bt131.1, bt131.2.1, bt126.2.1, bt126.2.2))) else (none)) else (none)) else (none))))) = some (r1, r2, r3, r4) := by first | (rw [hy111]; with_reducible exact H) | (have H2_ := (Option.bind_some _ _).symm.trans H; rw [hy111]; with_reducible exact H2_) | (have H2_ := (Option.bind_some _ _).symm.trans H; with_reducible exact H2_) | with_reducible exact H | (rw [hy111]; exact H) | exact H
 have Ny111 := Aside0.mk hy111
 clear hy111
 obtain ⟨y114, hy114⟩ : ∃ y_ : List (S151), y_ = (([(⟨4, 0⟩ : S151), (⟨4, 1⟩ : S151), (⟨4, 2⟩ : S151), (⟨0, 3⟩ : S151), (⟨1, 3⟩ : S151), (⟨2, 3⟩ : S151)] : List (S151))) := ⟨_, rfl⟩
 replace H : ((some (([y102, y105, y108, y111, y114, (([(⟨0, 1⟩ : S151), (⟨0, 2⟩ : S151), (⟨0, 3⟩ : S151), (⟨1, 4⟩ : S151), (⟨2, 4⟩ : S151), (⟨1, 5⟩ : S151), (⟨3, 5⟩ : S151), (⟨2, 6⟩ : S151), (⟨3, 6⟩ : S151), (⟨4, 7⟩ : S151), (⟨5, 7⟩ : S151), (⟨6, 7⟩ : S151)] : List (S151)))] : List (List (S151))) : List (List (S151)))).bind fun y120 => ((some (([1, 2, 3, 4, 5, 8] : List Int) : List Int)).bind fun y123 => ((spec_l01Cur_pick.f s0_0 s0_1 s0_2 6).bind fun bt126 => (if 0 ≤ bt126.1 then (if bt126.1 < (y123.length : Int) then (if bt126.1 < (y120.length : Int) then ((spec_LatOf.f k (rd y123 bt126.1) (rd_L18 y120 bt126.1)).bind fun bt131 => (some (bt131.1, bt131.2.1, bt126.2.1, bt126.2.2))) else (none)) else (none)) else (none))))) = some (r1, r2, r3, r4) := by first | (rw [hy114]; with_reducible exact H) | (have H2_ := (Option.bind_some _ _).symm.trans H; rw [hy114]; with_reducible exact H2_) | (have H2_ := (Option.bind_some _ _).symm.trans H; with_reducible exact H2_) | with_reducible exact H | (rw [hy114]; exact H) | exact H
 have Ny114 := Aside0.mk hy114
 clear hy114
 obtain ⟨y117, hy117⟩ : ∃ y_ : List (S151), y_ = (([(⟨0, 1⟩ : S151), (⟨0, 2⟩ : S151), (⟨0, 3⟩ : S151), (⟨1, 4⟩ : S151), (⟨2, 4⟩ : S151), (⟨1, 5⟩ : S151), (⟨3, 5⟩ : S151), (⟨2, 6⟩ : S151), (⟨3, 6⟩ : S151), (⟨4, 7⟩ : S151), (⟨5, 7⟩ : S151), (⟨6, 7⟩ : S151)] : List (S151))) := ⟨_, rfl⟩
 replace H : ((some (([y102, y105, y108, y111, y114, y117] : List (List (S151))) : List (List (S151)))).bind fun y120 => ((some (([1, 2, 3, 4, 5, 8] : List Int) : List Int)).bind fun y123 => ((spec_l01Cur_pick.f s0_0 s0_1 s0_2 6).bind fun bt126 => (if 0 ≤ bt126.1 then (if bt126.1 < (y123.length : Int) then (if bt126.1 < (y120.length : Int) then ((spec_LatOf.f k (rd y123 bt126.1) (rd_L18 y120 bt126.1)).bind fun bt131 => (some (bt131.1, bt131.2.1, bt126.2.1, bt126.2.2))) else (none)) else (none)) else (none))))) = some (r1, r2, r3, r4) := by first | (rw [hy117]; with_reducible exact H) | (have H2_ := (Option.bind_some _ _).symm.trans H; rw [hy117]; with_reducible exact H2_) | (have H2_ := (Option.bind_some _ _).symm.trans H; with_reducible exact H2_) | with_reducible exact H | (rw [hy117]; exact H) | exact H
 have Ny117 := Aside0.mk hy117
 clear hy117
 obtain ⟨y120, hy120⟩ : ∃ y_ : List (List (S151)), y_ = (([y102, y105, y108, y111, y114, y117] : List (List (S151)))) := ⟨_, rfl⟩
 replace H : ((some (([1, 2, 3, 4, 5, 8] : List Int) : List Int)).bind fun y123 => ((spec_l01Cur_pick.f s0_0 s0_1 s0_2 6).bind fun bt126 => (if 0 ≤ bt126.1 then (if bt126.1 < (y123.length : Int) then (if bt126.1 < (y120.length : Int) then ((spec_LatOf.f k (rd y123 bt126.1) (rd_L18 y120 bt126.1)).bind fun bt131 => (some (bt131.1, bt131.2.1, bt126.2.1, bt126.2.2))) else (none)) else (none)) else (none)))) = some (r1, r2, r3, r4) := by first | (rw [hy120]; with_reducible exact H) | (have H2_ := (Option.bind_some _ _).symm.trans H; rw [hy120]; with_reducible exact H2_) | (have H2_ := (Option.bind_some _ _).symm.trans H; with_reducible exact H2_) | with_reducible exact H | (rw [hy120]; exact H) | exact H
 have Ny120 := Aside0.mk hy120
 clear hy120
 obtain ⟨y123, hy123⟩ : ∃ y_ : List Int, y_ = (([1, 2, 3, 4, 5, 8] : List Int)) := ⟨_, rfl⟩
 replace H : ((spec_l01Cur_pick.f s0_0 s0_1 s0_2 6).bind fun bt126 => (if 0 ≤ bt126.1 then (if bt126.1 < (y123.length : Int) then (if bt126.1 < (y120.length : Int) then ((spec_LatOf.f k (rd y123 bt126.1) (rd_L18 y120 bt126.1)).bind fun bt131 => (some (bt131.1, bt131.2.1, bt126.2.1, bt126.2.2))) else (none)) else (none)) else (none))) = some (r1, r2, r3, r4) := by first | (rw [hy123]; with_reducible exact H) | (have H2_ := (Option.bind_some _ _).symm.trans H; rw [hy123]; with_reducible exact H2_) | (have H2_ := (Option.bind_some _ _).symm.trans H; with_reducible exact H2_) | with_reducible exact H | (rw [hy123]; exact H) | exact H
 have Ny123 := Aside0.mk hy123
 clear hy123
 replace H := Option.bind_eq_some_iff.mp H
 obtain ⟨⟨t126, t127, t128⟩, A20, H⟩ := H
 replace H : (if 0 ≤ t126 then (if t126 < (y123.length : Int) then (if t126 < (y120.length : Int) then ((spec_LatOf.f k (rd y123 t126) (rd_L18 y120 t126)).bind fun bt131 => (some (bt131.1, bt131.2.1, t127, t128))) else (none)) else (none)) else (none)) = some (r1, r2, r3, r4) := H
 have A2 := Aside0.mk A20
 clear A20
 by_cases c3 : 0 ≤ t126
 ·rw [if_pos c3] at H
  have c3b0 : decide (0 ≤ t126) = true := decide_eq_true c3
  clear c3
  by_cases c4 : t126 < (y123.length : Int)
  ·rw [if_pos c4] at H
   have c4b0 : decide (t126 < (y123.length : Int)) = true := decide_eq_true c4
   clear c4
   by_cases c5 : t126 < (y120.length : Int)
   ·rw [if_pos c5] at H
    have c5b0 : decide (t126 < (y120.length : Int)) = true := decide_eq_true c5
    clear c5
    replace H := Option.bind_eq_some_iff.mp H
    obtain ⟨⟨t131, t132, t135⟩, A60, H⟩ := H
    replace H : (some (t131, t132, t127, t128)) = some (r1, r2, r3, r4) := H
    have A6 := Aside0.mk A60
    clear A60
    simp only [Option.some.injEq, Prod.mk.injEq] at H
    obtain ⟨rfl, rfl, rfl, rfl⟩ := H
    go_enter Try.func210, Try.ntmps210
    try go_wp2_with (first | ((with_reducible refine gate_dst (N := 2) rfl ?_); refine box_event ?hg (N := 2) ?hd (cs := #[.int .i64 0, .slice none 0 0]) (t := 47) ?hr ?_; (case hd => rfl); (case hg => rfl); (case hr => exact qz5); intro gb101 hg w7 hbox hb; have n0_ := Aside0.mk (IsS213.below (qz313 HI0.out) hb); have n1_ := Aside0.mk (KeepBut.trans qz408 (KeepBut.of_below hb g none) (.inl rfl)); have n2_ := Aside0.mk (below_step (qz314 HI0.out) hb); have n3_ := Aside0.mk (hbox); have n4_ := Aside0.mk ((qz414 : w.heap.size ≤ gb101)); have n5_ := Aside0.mk ((Nat.le_trans HW0.out (qz414 : w.heap.size ≤ gb101) : w0.heap.size ≤ gb101)); have n6_ := Aside0.mk ((qz415 HI0.out : g ≠ gb101)); have n7_ := Aside0.mk ((qz416 HI0.out : gb101 ≠ g)); clear HI0; clear HK; clear HB; have HI0 := n0_; have HK := n1_; have HB := n2_; have BK101 := n3_; have GW101 := n4_; have GE101 := n5_; have NB0_101 := n6_; have NB101_0 := n7_; clear n0_ n1_ n2_ n3_ n4_ n5_ n6_ n7_; clear hb hbox hg) | ((with_reducible refine gate_dst (N := 8) rfl ?_); refine Kd.R_lit k151 _ 151 ?hg (N := 8) ?hd (xs := ([] : List (S151))) (inner := []) (ok := fun _ => True) (okp := fun _ => True) ?hr ?hp (fun _ hk => hk) trivial (Below.refl _ _) (Nat.le_refl _) (by simp) ?_; (case hd => rfl); (case hg => rfl); (case hr => exact qz5); (case hp => exact qz22); intro v103 w8 ho9 hb hg_ hnew_; clear hg_ hnew_; (first | rw [← Ny102.out] at ho9 | (simp only [Int.reduceToNat] at ho9; rw [← Ny102.out] at ho9)); have n0_ := Aside0.mk (Kd.R_lower ho9 (keep_size (w := w) (g := g) (row := none) (qz417 GW101.out))); have n1_ := Aside0.mk (IsS213.below (qz289 HI0.out NB0_101.out) hb); have n2_ := Aside0.mk (blk_below (g := gb101) (o := .cells #[.int .i64 0, .slice none 0 0] 47 (0, 0)) (qz8 BK101.out) hb); have n3_ := Aside0.mk (KeepBut.trans (qz417 GW101.out) (KeepBut.of_below hb g none) (.inl rfl)); have n4_ := Aside0.mk (below_step (qz290 HI0.out GE101.out) hb); clear HI0; clear BK101; clear HK; clear HB; have HO104 := n0_; have HI0 := n1_; have BK101 := n2_; have HK := n3_; have HB := n4_; clear n0_ n1_ n2_ n3_ n4_; clear hb ho9) | ((with_reducible refine gate_dst (N := 10) rfl ?_); refine Kd.R_lit k151 _ 151 ?hg (N := 10) ?hd (xs := ([(⟨0, 1⟩ : S151)] : List (S151))) (inner := [.int .i64 0, .int .i64 1]) (ok := fun _ => True) (okp := fun _ => True) ?hr ?hp (fun _ hk => hk) trivial (Below.refl _ _) (Nat.le_refl _) (by simp) ?_; (case hd => rfl); (case hg => rfl); (case hr => exact qz5); (case hp => exact (Reps.c2 (show Kd.M k151 _ _ _ (⟨0, 1⟩ : S151) [.int .i64 0, .int .i64 1] from (k151_mkM _ _ _ (⟨0, 1⟩ : S151) )) (Reps.none _ _))); intro v106 w10 ho11 hb hg_ hnew_; clear hg_ hnew_; (first | rw [← Ny105.out] at ho11 | (simp only [Int.reduceToNat] at ho11; rw [← Ny105.out] at ho11)); have n0_ := Aside0.mk (Kd.R_elder' (qz21 HO104.out) (Kd.R_base ho11) hb); have n1_ := Aside0.mk (Kd.R_lower (Kd.R_new' ho11 (Kd.R_lt (qz21 HO104.out))) (keep_size (w := w) (g := g) (row := none) (qz417 GW101.out))); have n2_ := Aside0.mk (IsS213.below (qz289 HI0.out NB0_101.out) hb); have n3_ := Aside0.mk (blk_below (g := gb101) (o := .cells #[.int .i64 0, .slice none 0 0] 47 (0, 0)) (qz8 BK101.out) hb); have n4_ := Aside0.mk (KeepBut.trans (qz417 GW101.out) (KeepBut.of_below hb g none) (.inl rfl)); have n5_ := Aside0.mk (below_step (qz290 HI0.out GE101.out) hb); clear HO104; clear HI0; clear BK101; clear HK; clear HB; have HO104 := n0_; have HO107 := n1_; have HI0 := n2_; have BK101 := n3_; have HK := n4_; have HB := n5_; clear n0_ n1_ n2_ n3_ n4_ n5_; clear hb ho11) | ((with_reducible refine gate_dst (N := 13) rfl ?_); refine Kd.R_lit k151 _ 151 ?hg (N := 13) ?hd (xs := ([(⟨0, 1⟩ : S151), (⟨1, 2⟩ : S151)] : List (S151))) (inner := [.int .i64 0, .int .i64 1, .int .i64 1, .int .i64 2]) (ok := fun _ => True) (okp := fun _ => True) ?hr ?hp (fun _ hk => hk) trivial (Below.refl _ _) (Nat.le_refl _) (by simp) ?_; (case hd => rfl); (case hg => rfl); (case hr => exact qz5); (case hp => exact (Reps.c2 (show Kd.M k151 _ _ _ (⟨0, 1⟩ : S151) [.int .i64 0, .int .i64 1] from (k151_mkM _ _ _ (⟨0, 1⟩ : S151) )) (Reps.c2 (show Kd.M k151 _ _ _ (⟨1, 2⟩ : S151) [.int .i64 1, .int .i64 2] from (k151_mkM _ _ _ (⟨1, 2⟩ : S151) )) (Reps.none _ _)))); intro v109 w12 ho13 hb hg_ hnew_; clear hg_ hnew_; (first | rw [← Ny108.out] at ho13 | (simp only [Int.reduceToNat] at ho13; rw [← Ny108.out] at ho13)); have n0_ := Aside0.mk (Kd.R_elder' (qz21 HO104.out) (Kd.R_base ho13) hb); have n1_ := Aside0.mk (Kd.R_elder' (qz21 HO107.out) (Kd.R_base ho13) hb); have n2_ := Aside0.mk (Kd.R_lower (Kd.R_new' (Kd.R_new' ho13 (Kd.R_lt (qz21 HO104.out))) (Kd.R_lt (qz21 HO107.out))) (keep_size (w := w) (g := g) (row := none) (qz417 GW101.out))); have n3_ := Aside0.mk (IsS213.below (qz289 HI0.out NB0_101.out) hb); have n4_ := Aside0.mk (blk_below (g := gb101) (o := .cells #[.int .i64 0, .slice none 0 0] 47 (0, 0)) (qz8 BK101.out) hb); have n5_ := Aside0.mk (KeepBut.trans (qz417 GW101.out) (KeepBut.of_below hb g none) (.inl rfl)); have n6_ := Aside0.mk (below_step (qz290 HI0.out GE101.out) hb); clear HO104; clear HO107; clear HI0; clear BK101; clear HK; clear HB; have HO104 := n0_; have HO107 := n1_; have HO110 := n2_; have HI0 := n3_; have BK101 := n4_; have HK := n5_; have HB := n6_; clear n0_ n1_ n2_ n3_ n4_ n5_ n6_; clear hb ho13) | ((with_reducible refine gate_dst (N := 18) rfl ?_); refine Kd.R_lit k151 _ 151 ?hg (N := 18) ?hd (xs := ([(⟨0, 1⟩ : S151), (⟨0, 2⟩ : S151), (⟨1, 3⟩ : S151), (⟨2, 3⟩ : S151)] : List (S151))) (inner := [.int .i64 0, .int .i64 1, .int .i64 0, .int .i64 2, .int .i64 1, .int .i64 3, .int .i64 2, .int .i64 3]) (ok := fun _ => True) (okp := fun _ => True) ?hr ?hp (fun _ hk => hk) trivial (Below.refl _ _) (Nat.le_refl _) (by simp) ?_; (case hd => rfl); (case hg => rfl); (case hr => exact qz5); (case hp => exact (Reps.c2 (show Kd.M k151 _ _ _ (⟨0, 1⟩ : S151) [.int .i64 0, .int .i64 1] from (k151_mkM _ _ _ (⟨0, 1⟩ : S151) )) (Reps.c2 (show Kd.M k151 _ _ _ (⟨0, 2⟩ : S151) [.int .i64 0, .int .i64 2] from (k151_mkM _ _ _ (⟨0, 2⟩ : S151) )) (Reps.c2 (show Kd.M k151 _ _ _ (⟨1, 3⟩ : S151) [.int .i64 1, .int .i64 3] from (k151_mkM _ _ _ (⟨1, 3⟩ : S151) )) (Reps.c2 (show Kd.M k151 _ _ _ (⟨2, 3⟩ : S151) [.int .i64 2, .int .i64 3] from (k151_mkM _ _ _ (⟨2, 3⟩ : S151) )) (Reps.none _ _)))))); intro v112 w14 ho15 hb hg_ hnew_; clear hg_ hnew_; (first | rw [← Ny111.out] at ho15 | (simp only [Int.reduceToNat] at ho15; rw [← Ny111.out] at ho15)); have n0_ := Aside0.mk (Kd.R_elder' (qz21 HO104.out) (Kd.R_base ho15) hb); have n1_ := Aside0.mk (Kd.R_elder' (qz21 HO107.out) (Kd.R_base ho15) hb); have n2_ := Aside0.mk (Kd.R_elder' (qz21 HO110.out) (Kd.R_base ho15) hb); have n3_ := Aside0.mk (Kd.R_lower (Kd.R_new' (Kd.R_new' (Kd.R_new' ho15 (Kd.R_lt (qz21 HO104.out))) (Kd.R_lt (qz21 HO107.out))) (Kd.R_lt (qz21 HO110.out))) (keep_size (w := w) (g := g) (row := none) (qz417 GW101.out))); have n4_ := Aside0.mk (IsS213.below (qz289 HI0.out NB0_101.out) hb); have n5_ := Aside0.mk (blk_below (g := gb101) (o := .cells #[.int .i64 0, .slice none 0 0] 47 (0, 0)) (qz8 BK101.out) hb); have n6_ := Aside0.mk (KeepBut.trans (qz417 GW101.out) (KeepBut.of_below hb g none) (.inl rfl)); have n7_ := Aside0.mk (below_step (qz290 HI0.out GE101.out) hb); clear HO104; clear HO107; clear HO110; clear HI0; clear BK101; clear HK; clear HB; have HO104 := n0_; have HO107 := n1_; have HO110 := n2_; have HO113 := n3_; have HI0 := n4_; have BK101 := n5_; have HK := n6_; have HB := n7_; clear n0_ n1_ n2_ n3_ n4_ n5_ n6_ n7_; clear hb ho15) | ((with_reducible refine gate_dst (N := 25) rfl ?_); refine Kd.R_lit k151 _ 151 ?hg (N := 25) ?hd (xs := ([(⟨4, 0⟩ : S151), (⟨4, 1⟩ : S151), (⟨4, 2⟩ : S151), (⟨0, 3⟩ : S151), (⟨1, 3⟩ : S151), (⟨2, 3⟩ : S151)] : List (S151))) (inner := [.int .i64 4, .int .i64 0, .int .i64 4, .int .i64 1, .int .i64 4, .int .i64 2, .int .i64 0, .int .i64 3, .int .i64 1, .int .i64 3, .int .i64 2, .int .i64 3]) (ok := fun _ => True) (okp := fun _ => True) ?hr ?hp (fun _ hk => hk) trivial (Below.refl _ _) (Nat.le_refl _) (by simp) ?_; (case hd => rfl); (case hg => rfl); (case hr => exact qz5); (case hp => exact (Reps.c2 (show Kd.M k151 _ _ _ (⟨4, 0⟩ : S151) [.int .i64 4, .int .i64 0] from (k151_mkM _ _ _ (⟨4, 0⟩ : S151) )) (Reps.c2 (show Kd.M k151 _ _ _ (⟨4, 1⟩ : S151) [.int .i64 4, .int .i64 1] from (k151_mkM _ _ _ (⟨4, 1⟩ : S151) )) (Reps.c2 (show Kd.M k151 _ _ _ (⟨4, 2⟩ : S151) [.int .i64 4, .int .i64 2] from (k151_mkM _ _ _ (⟨4, 2⟩ : S151) )) (Reps.c2 (show Kd.M k151 _ _ _ (⟨0, 3⟩ : S151) [.int .i64 0, .int .i64 3] from (k151_mkM _ _ _ (⟨0, 3⟩ : S151) )) (Reps.c2 (show Kd.M k151 _ _ _ (⟨1, 3⟩ : S151) [.int .i64 1, .int .i64 3] from (k151_mkM _ _ _ (⟨1, 3⟩ : S151) )) (Reps.c2 (show Kd.M k151 _ _ _ (⟨2, 3⟩ : S151) [.int .i64 2, .int .i64 3] from (k151_mkM _ _ _ (⟨2, 3⟩ : S151) )) (Reps.none _ _)))))))); intro v115 w16 ho17 hb hg_ hnew_; clear hg_ hnew_; (first | rw [← Ny114.out] at ho17 | (simp only [Int.reduceToNat] at ho17; rw [← Ny114.out] at ho17)); have n0_ := Aside0.mk (Kd.R_elder' (qz21 HO104.out) (Kd.R_base ho17) hb); have n1_ := Aside0.mk (Kd.R_elder' (qz21 HO107.out) (Kd.R_base ho17) hb); have n2_ := Aside0.mk (Kd.R_elder' (qz21 HO110.out) (Kd.R_base ho17) hb); have n3_ := Aside0.mk (Kd.R_elder' (qz21 HO113.out) (Kd.R_base ho17) hb); have n4_ := Aside0.mk (Kd.R_lower (Kd.R_new' (Kd.R_new' (Kd.R_new' (Kd.R_new' ho17 (Kd.R_lt (qz21 HO104.out))) (Kd.R_lt (qz21 HO107.out))) (Kd.R_lt (qz21 HO110.out))) (Kd.R_lt (qz21 HO113.out))) (keep_size (w := w) (g := g) (row := none) (qz417 GW101.out))); have n5_ := Aside0.mk (IsS213.below (qz289 HI0.out NB0_101.out) hb); have n6_ := Aside0.mk (blk_below (g := gb101) (o := .cells #[.int .i64 0, .slice none 0 0] 47 (0, 0)) (qz8 BK101.out) hb); have n7_ := Aside0.mk (KeepBut.trans (qz417 GW101.out) (KeepBut.of_below hb g none) (.inl rfl)); have n8_ := Aside0.mk (below_step (qz290 HI0.out GE101.out) hb); clear HO104; clear HO107; clear HO110; clear HO113; clear HI0; clear BK101; clear HK; clear HB; have HO104 := n0_; have HO107 := n1_; have HO110 := n2_; have HO113 := n3_; have HO116 := n4_; have HI0 := n5_; have BK101 := n6_; have HK := n7_; have HB := n8_; clear n0_ n1_ n2_ n3_ n4_ n5_ n6_ n7_ n8_; clear hb ho17) | ((with_reducible refine gate_dst (N := 38) rfl ?_); refine Kd.R_lit k151 _ 151 ?hg (N := 38) ?hd (xs := ([(⟨0, 1⟩ : S151), (⟨0, 2⟩ : S151), (⟨0, 3⟩ : S151), (⟨1, 4⟩ : S151), (⟨2, 4⟩ : S151), (⟨1, 5⟩ : S151), (⟨3, 5⟩ : S151), (⟨2, 6⟩ : S151), (⟨3, 6⟩ : S151), (⟨4, 7⟩ : S151), (⟨5, 7⟩ : S151), (⟨6, 7⟩ : S151)] : List (S151))) (inner := [.int .i64 0, .int .i64 1, .int .i64 0, .int .i64 2, .int .i64 0, .int .i64 3, .int .i64 1, .int .i64 4, .int .i64 2, .int .i64 4, .int .i64 1, .int .i64 5, .int .i64 3, .int .i64 5, .int .i64 2, .int .i64 6, .int .i64 3, .int .i64 6, .int .i64 4, .int .i64 7, .int .i64 5, .int .i64 7, .int .i64 6, .int .i64 7]) (ok := fun _ => True) (okp := fun _ => True) ?hr ?hp (fun _ hk => hk) trivial (Below.refl _ _) (Nat.le_refl _) (by simp) ?_; (case hd => rfl); (case hg => rfl); (case hr => exact qz5); (case hp => exact (Reps.c2 (show Kd.M k151 _ _ _ (⟨0, 1⟩ : S151) [.int .i64 0, .int .i64 1] from (k151_mkM _ _ _ (⟨0, 1⟩ : S151) )) (Reps.c2 (show Kd.M k151 _ _ _ (⟨0, 2⟩ : S151) [.int .i64 0, .int .i64 2] from (k151_mkM _ _ _ (⟨0, 2⟩ : S151) )) (Reps.c2 (show Kd.M k151 _ _ _ (⟨0, 3⟩ : S151) [.int .i64 0, .int .i64 3] from (k151_mkM _ _ _ (⟨0, 3⟩ : S151) )) (Reps.c2 (show Kd.M k151 _ _ _ (⟨1, 4⟩ : S151) [.int .i64 1, .int .i64 4] from (k151_mkM _ _ _ (⟨1, 4⟩ : S151) )) (Reps.c2 (show Kd.M k151 _ _ _ (⟨2, 4⟩ : S151) [.int .i64 2, .int .i64 4] from (k151_mkM _ _ _ (⟨2, 4⟩ : S151) )) (Reps.c2 (show Kd.M k151 _ _ _ (⟨1, 5⟩ : S151) [.int .i64 1, .int .i64 5] from (k151_mkM _ _ _ (⟨1, 5⟩ : S151) )) (Reps.c2 (show Kd.M k151 _ _ _ (⟨3, 5⟩ : S151) [.int .i64 3, .int .i64 5] from (k151_mkM _ _ _ (⟨3, 5⟩ : S151) )) (Reps.c2 (show Kd.M k151 _ _ _ (⟨2, 6⟩ : S151) [.int .i64 2, .int .i64 6] from (k151_mkM _ _ _ (⟨2, 6⟩ : S151) )) (Reps.c2 (show Kd.M k151 _ _ _ (⟨3, 6⟩ : S151) [.int .i64 3, .int .i64 6] from (k151_mkM _ _ _ (⟨3, 6⟩ : S151) )) (Reps.c2 (show Kd.M k151 _ _ _ (⟨4, 7⟩ : S151) [.int .i64 4, .int .i64 7] from (k151_mkM _ _ _ (⟨4, 7⟩ : S151) )) (Reps.c2 (show Kd.M k151 _ _ _ (⟨5, 7⟩ : S151) [.int .i64 5, .int .i64 7] from (k151_mkM _ _ _ (⟨5, 7⟩ : S151) )) (Reps.c2 (show Kd.M k151 _ _ _ (⟨6, 7⟩ : S151) [.int .i64 6, .int .i64 7] from (k151_mkM _ _ _ (⟨6, 7⟩ : S151) )) (Reps.none _ _)))))))))))))); intro v118 w18 ho19 hb hg_ hnew_; clear hg_ hnew_; (first | rw [← Ny117.out] at ho19 | (simp only [Int.reduceToNat] at ho19; rw [← Ny117.out] at ho19)); have n0_ := Aside0.mk (Kd.R_elder' (qz21 HO104.out) (Kd.R_base ho19) hb); have n1_ := Aside0.mk (Kd.R_elder' (qz21 HO107.out) (Kd.R_base ho19) hb); have n2_ := Aside0.mk (Kd.R_elder' (qz21 HO110.out) (Kd.R_base ho19) hb); have n3_ := Aside0.mk (Kd.R_elder' (qz21 HO113.out) (Kd.R_base ho19) hb); have n4_ := Aside0.mk (Kd.R_elder' (qz21 HO116.out) (Kd.R_base ho19) hb); have n5_ := Aside0.mk (Kd.R_lower (Kd.R_new' (Kd.R_new' (Kd.R_new' (Kd.R_new' (Kd.R_new' ho19 (Kd.R_lt (qz21 HO104.out))) (Kd.R_lt (qz21 HO107.out))) (Kd.R_lt (qz21 HO110.out))) (Kd.R_lt (qz21 HO113.out))) (Kd.R_lt (qz21 HO116.out))) (keep_size (w := w) (g := g) (row := none) (qz417 GW101.out))); have n6_ := Aside0.mk (IsS213.below (qz289 HI0.out NB0_101.out) hb); have n7_ := Aside0.mk (blk_below (g := gb101) (o := .cells #[.int .i64 0, .slice none 0 0] 47 (0, 0)) (qz8 BK101.out) hb); have n8_ := Aside0.mk (KeepBut.trans (qz417 GW101.out) (KeepBut.of_below hb g none) (.inl rfl)); have n9_ := Aside0.mk (below_step (qz290 HI0.out GE101.out) hb); clear HO104; clear HO107; clear HO110; clear HO113; clear HO116; clear HI0; clear BK101; clear HK; clear HB; have HO104 := n0_; have HO107 := n1_; have HO110 := n2_; have HO113 := n3_; have HO116 := n4_; have HO119 := n5_; have HI0 := n6_; have BK101 := n7_; have HK := n8_; have HB := n9_; clear n0_ n1_ n2_ n3_ n4_ n5_ n6_ n7_ n8_ n9_; clear hb ho19; obtain ⟨Ao20, co20, eo20⟩ := Kd.R_slice HO104.out; subst eo20; obtain ⟨Ao21, co21, eo21⟩ := Kd.R_slice HO107.out; subst eo21; obtain ⟨Ao22, co22, eo22⟩ := Kd.R_slice HO110.out; subst eo22; obtain ⟨Ao23, co23, eo23⟩ := Kd.R_slice HO113.out; subst eo23; obtain ⟨Ao24, co24, eo24⟩ := Kd.R_slice HO116.out; subst eo24; obtain ⟨Ao25, co25, eo25⟩ := Kd.R_slice HO119.out; subst eo25) | ((with_reducible refine gate_dst (N := 39) rfl ?_); refine Kd.N_lit (Kd.slice 151 k151) _ 49 ?hg (N' := 39) ?hd (xs := ([y102, y105, y108, y111, y114, y117] : List (List (S151)))) (inner := [.slice Ao20 y102.length co20, .slice Ao21 y105.length co21, .slice Ao22 y108.length co22, .slice Ao23 y111.length co23, .slice Ao24 y114.length co24, .slice Ao25 y117.length co25]) (ok := (fun k_ => k_ ≠ gb101 ∧ k_ ≠ g)) (okp := (fun k_ => k_ ≠ gb101 ∧ k_ ≠ g)) ?hr ?hp (fun _ hk => hk) ((show ∀ k_, w18.heap.size ≤ k_ → (fun k_ => k_ ≠ gb101 ∧ k_ ≠ g) k_ from fun k_ hk => ⟨Kd.freshB (g := gb101) (o := .cells #[.int .i64 0, .slice none 0 0] 47 (0, 0)) (qz8 BK101.out) k_ hk, IsS213.fresh (qz289 HI0.out NB0_101.out) k_ hk⟩) _ (Nat.le_refl _)) (Below.refl _ _) (Nat.le_refl _) (by simp) ?_; (case hd => rfl); (case hg => rfl); (case hr => exact qz5); (case hp => exact (Reps.one (show Kd.FK (Kd.slice 151 k151) _ _ y102 [.slice Ao20 y102.length co20] from (Kd.FK_slice_mk (Kd.R_reads' (Kd.R_mono (ok' := (fun k_ => k_ ≠ gb101 ∧ k_ ≠ g)) (IsS213.apart HI0.out (Kd.R_types (HO104.out) BK101.out (by decide)) (by decide)) (fun k_ hk => ⟨hk.1.2, hk.2⟩))).2.1 (Kd.R_F (Kd.R_mono (ok' := (fun k_ => k_ ≠ gb101 ∧ k_ ≠ g)) (IsS213.apart HI0.out (Kd.R_types (HO104.out) BK101.out (by decide)) (by decide)) (fun k_ hk => ⟨hk.1.2, hk.2⟩))))) (Reps.one (show Kd.FK (Kd.slice 151 k151) _ _ y105 [.slice Ao21 y105.length co21] from (Kd.FK_slice_mk (Kd.R_reads' (Kd.R_mono (ok' := (fun k_ => k_ ≠ gb101 ∧ k_ ≠ g)) (IsS213.apart HI0.out (Kd.R_types (HO107.out) BK101.out (by decide)) (by decide)) (fun k_ hk => ⟨hk.1.2, hk.2⟩))).2.1 (Kd.R_F (Kd.R_mono (ok' := (fun k_ => k_ ≠ gb101 ∧ k_ ≠ g)) (IsS213.apart HI0.out (Kd.R_types (HO107.out) BK101.out (by decide)) (by decide)) (fun k_ hk => ⟨hk.1.2, hk.2⟩))))) (Reps.one (show Kd.FK (Kd.slice 151 k151) _ _ y108 [.slice Ao22 y108.length co22] from (Kd.FK_slice_mk (Kd.R_reads' (Kd.R_mono (ok' := (fun k_ => k_ ≠ gb101 ∧ k_ ≠ g)) (IsS213.apart HI0.out (Kd.R_types (HO110.out) BK101.out (by decide)) (by decide)) (fun k_ hk => ⟨hk.1.2, hk.2⟩))).2.1 (Kd.R_F (Kd.R_mono (ok' := (fun k_ => k_ ≠ gb101 ∧ k_ ≠ g)) (IsS213.apart HI0.out (Kd.R_types (HO110.out) BK101.out (by decide)) (by decide)) (fun k_ hk => ⟨hk.1.2, hk.2⟩))))) (Reps.one (show Kd.FK (Kd.slice 151 k151) _ _ y111 [.slice Ao23 y111.length co23] from (Kd.FK_slice_mk (Kd.R_reads' (Kd.R_mono (ok' := (fun k_ => k_ ≠ gb101 ∧ k_ ≠ g)) (IsS213.apart HI0.out (Kd.R_types (HO113.out) BK101.out (by decide)) (by decide)) (fun k_ hk => ⟨hk.1.2, hk.2⟩))).2.1 (Kd.R_F (Kd.R_mono (ok' := (fun k_ => k_ ≠ gb101 ∧ k_ ≠ g)) (IsS213.apart HI0.out (Kd.R_types (HO113.out) BK101.out (by decide)) (by decide)) (fun k_ hk => ⟨hk.1.2, hk.2⟩))))) (Reps.one (show Kd.FK (Kd.slice 151 k151) _ _ y114 [.slice Ao24 y114.length co24] from (Kd.FK_slice_mk (Kd.R_reads' (Kd.R_mono (ok' := (fun k_ => k_ ≠ gb101 ∧ k_ ≠ g)) (IsS213.apart HI0.out (Kd.R_types (HO116.out) BK101.out (by decide)) (by decide)) (fun k_ hk => ⟨hk.1.2, hk.2⟩))).2.1 (Kd.R_F (Kd.R_mono (ok' := (fun k_ => k_ ≠ gb101 ∧ k_ ≠ g)) (IsS213.apart HI0.out (Kd.R_types (HO116.out) BK101.out (by decide)) (by decide)) (fun k_ hk => ⟨hk.1.2, hk.2⟩))))) (Reps.one (show Kd.FK (Kd.slice 151 k151) _ _ y117 [.slice Ao25 y117.length co25] from (Kd.FK_slice_mk (Kd.R_reads' (Kd.R_mono (ok' := (fun k_ => k_ ≠ gb101 ∧ k_ ≠ g)) (IsS213.apart HI0.out (Kd.R_types (HO119.out) BK101.out (by decide)) (by decide)) (fun k_ hk => ⟨hk.1.2, hk.2⟩))).2.1 (Kd.R_F (Kd.R_mono (ok' := (fun k_ => k_ ≠ gb101 ∧ k_ ≠ g)) (IsS213.apart HI0.out (Kd.R_types (HO119.out) BK101.out (by decide)) (by decide)) (fun k_ hk => ⟨hk.1.2, hk.2⟩))))) (Reps.none _ _)))))))); intro v121 w26 ho27 hb hg_ hnew_; clear hg_ hnew_; (first | rw [← Ny120.out] at ho27 | (simp only [Int.reduceToNat] at ho27; rw [← Ny120.out] at ho27)); have n0_ := Aside0.mk (Kd.N_lower ho27 (keep_size (w := w) (g := g) (row := none) (qz417 GW101.out))); have n1_ := Aside0.mk (IsS213.below (qz289 HI0.out NB0_101.out) hb); have n2_ := Aside0.mk (blk_below (g := gb101) (o := .cells #[.int .i64 0, .slice none 0 0] 47 (0, 0)) (qz8 BK101.out) hb); have n3_ := Aside0.mk (KeepBut.trans (qz417 GW101.out) (KeepBut.of_below hb g none) (.inl rfl)); have n4_ := Aside0.mk (below_step (qz290 HI0.out GE101.out) hb); clear HI0; clear BK101; clear HK; clear HB; clear HO104; clear HO107; clear HO110; clear HO113; clear HO116; clear HO119; have HO122 := n0_; have HI0 := n1_; have BK101 := n2_; have HK := n3_; have HB := n4_; clear n0_ n1_ n2_ n3_ n4_; clear hb ho27) | ((with_reducible refine gate_dst (N := 40) rfl ?_); refine Kd.R_lit (Kd.int .i64) _ 3 ?hg (N := 40) ?hd (xs := ([1, 2, 3, 4, 5, 8] : List Int)) (inner := [.int .i64 1, .int .i64 2, .int .i64 3, .int .i64 4, .int .i64 5, .int .i64 8]) (ok := fun _ => True) (okp := fun _ => True) ?hr ?hp (fun _ hk => hk) trivial (Below.refl _ _) (Nat.le_refl _) (by simp) ?_; (case hd => rfl); (case hg => rfl); (case hr => exact qz5); (case hp => exact (Reps.one (show Kd.M (Kd.int .i64) _ _ _ 1 [.int .i64 1] from rfl) (Reps.one (show Kd.M (Kd.int .i64) _ _ _ 2 [.int .i64 2] from rfl) (Reps.one (show Kd.M (Kd.int .i64) _ _ _ 3 [.int .i64 3] from rfl) (Reps.one (show Kd.M (Kd.int .i64) _ _ _ 4 [.int .i64 4] from rfl) (Reps.one (show Kd.M (Kd.int .i64) _ _ _ 5 [.int .i64 5] from rfl) (Reps.one (show Kd.M (Kd.int .i64) _ _ _ 8 [.int .i64 8] from rfl) (Reps.none _ _)))))))); intro v124 w28 ho29 hb hg_ hnew_; clear hg_ hnew_; (first | rw [← Ny123.out] at ho29 | (simp only [Int.reduceToNat] at ho29; rw [← Ny123.out] at ho29)); have n0_ := Aside0.mk (Kd.N_elder' (qz247 HO122.out) (Kd.R_base ho29) hb); have n1_ := Aside0.mk (Kd.R_lower ho29 (keep_size (w := w) (g := g) (row := none) (qz417 GW101.out))); have n2_ := Aside0.mk (IsS213.below (qz289 HI0.out NB0_101.out) hb); have n3_ := Aside0.mk (blk_below (g := gb101) (o := .cells #[.int .i64 0, .slice none 0 0] 47 (0, 0)) (qz8 BK101.out) hb); have n4_ := Aside0.mk (KeepBut.trans (qz417 GW101.out) (KeepBut.of_below hb g none) (.inl rfl)); have n5_ := Aside0.mk (below_step (qz290 HI0.out GE101.out) hb); clear HO122; clear HI0; clear BK101; clear HK; clear HB; have HO122 := n0_; have HO125 := n1_; have HI0 := n2_; have BK101 := n3_; have HK := n4_; have HB := n5_; clear n0_ n1_ n2_ n3_ n4_ n5_; clear hb ho29) | ((with_reducible refine gate_callee (f := 134) rfl ?_); refine goesL_ (some 42) rfl rfl Try.func134 (by kernel_rfl) rfl #[.pointer (some ⟨g, 0, none⟩), .int .i64 6] rfl qz1 ?_; (with_reducible refine (spec_l01Cur_pick.calls g s0_0 s0_1 s0_2 6 t126 t127 t128 w0 _ ?side1 ?side2 A2.out).mono ?_); (case side1 => exact qz289 HI0.out NB0_101.out); (case side2 => exact qz290 HI0.out GE101.out); rintro e w30 ⟨rfl, hi, hb, hk⟩; refine ⟨_, rfl, ?_⟩; have n0_ := Aside0.mk (KeepBut.blk hk (g' := gb101) (o := .cells #[.int .i64 0, .slice none 0 0] 47 (0, 0)) (qz8 BK101.out) NB101_0.out (by simp)); have n1_ := Aside0.mk (Kd.N_mono (Kd.N_keep (Kd.N_mono (ok := fun k_ => ((k_ ≠ gb101 ∧ k_ ≠ g) ∧ some k_ ≠ (v124 : Value).ownBlock)) (qz247 HO122.out) (fun k_ hk_ => (⟨hk_, hk_.1.2⟩ : _ ∧ k_ ≠ g))) hk (fun _ h => h.2)) (fun _ h => h.1)); have n2_ := Aside0.mk (Kd.R_mono (Kd.R_keep (IsS213.apart (show IsS213 w0 _ g s0_0 s0_1 s0_2 from by repeat (first | (with_reducible first | exact HI0.out | apply IsS213.alloc | apply IsS213.drewN | apply IsS213.drew | apply IsS213.set_1 | apply IsS213.set_2 | refine IsS213.far ?_ NB0_101.out _) | exact HI0.out)) (qz21 HO125.out) (by decide)) hk (fun _ h => h.2)) (fun _ h => h.1)); have n3_ := Aside0.mk (KeepBut.trans (qz417 GW101.out) hk (.inl rfl)); have n4_ := Aside0.mk (hb); have n5_ := Aside0.mk (hi); clear BK101; clear HO122; clear HO125; clear HK; clear HB; clear HI0; have BK101 := n0_; have HO122 := n1_; have HO125 := n2_; have HK := n3_; have HB := n4_; have HI0 := n5_; clear n0_ n1_ n2_ n3_ n4_ n5_; (try clear hb); (try clear hb2); (try clear hk); (try clear hi)))
    have n0_ := Aside0.mk (Kd.N_drew HO122.out)
    have n1_ := Aside0.mk (Kd.R_drew HO125.out)
    have n2_ := Aside0.mk (blk_drew BK101.out)
    have n3_ := Aside0.mk (IsS213.drew HI0.out)
    have n4_ := Aside0.mk (keep_drew HK.out)
    have n5_ := Aside0.mk (below_drew1 HB.out)
    clear HO122
    clear HO125
    clear BK101
    clear HI0
    clear HK
    clear HB
    have HO122 := n0_
    have HO125 := n1_
    have BK101 := n2_
    have HI0 := n3_
    have HK := n4_
    have HB := n5_
    clear n0_ n1_ n2_ n3_ n4_ n5_
    obtain ⟨Ao32, co32, eo32⟩ := Kd.R_slice HO125.out
    (first | subst eo32 | (injection eo32 with f1_ f2_ f3_; have f4_ := f1_.symm; have f5_ := f3_.symm; clear f1_ f2_ f3_; subst f4_; subst f5_))
    have p129 : 0 ≤ (t126 : Int) := of_decide_eq_true qz4
    have q129 : t126 < (y123.length : Int) := of_decide_eq_true qz4
    obtain ⟨ad129, e129, hx129_0⟩ := Kd.at_int (Kd.R_reads' HO125.out).2.2 t126 p129 q129
    cases e129
    replace p129 := eq_true p129
    replace q129 := eq_true q129
    obtain ⟨Ao33, co33, eo33⟩ := Kd.N_slice HO122.out
    (first | subst eo33 | (injection eo33 with f1_ f2_ f3_; have f4_ := f1_.symm; have f5_ := f3_.symm; clear f1_ f2_ f3_; subst f4_; subst f5_))
    have p130 : 0 ≤ (t126 : Int) := of_decide_eq_true qz4
    have q130 : t126 < (y120.length : Int) := of_decide_eq_true qz4
    obtain ⟨ad130, A130_0, c130_0, e130, hx130_0, hl130_0, hi130_0⟩ := at_L18 (Kd.N_reads' HO122.out).2.2 t126 p130 q130
    cases e130
    obtain ⟨ce130, hce130, hMe130, hcc130⟩ := Kd.N_get HO122.out [] t126 p130 (by first | exact q130 | exact of_decide_eq_true qz4 | (have e_ := (Kd.N_reads' HO122.out).1; omega))
    obtain ⟨ua130_0, uc130_0, rfl, ul130_0, ge130_0⟩ := Kd.FK_slice_open hMe130
    have hv130_0 := hcc130 0 _ rfl
    rw [Nat.add_zero, show ((Kd.slice 151 k151)).sz = 1 from rfl, Nat.mul_one] at hv130_0
    replace hv130_0 := Option.some.inj (hv130_0.symm.trans hx130_0)
    injection hv130_0 with hva_ hvn_ hvc_
    rw [hva_] at ge130_0
    rw [hvc_] at ul130_0
    have HL130_0 := Aside0.mk (show Kd.V k151 151 _ w.heap.size _ _ (rd_L18 y120 t126) from Kd.V_mk ul130_0 ge130_0)
    clear hva_ hvn_ hvc_ ge130_0 ul130_0
    clear hcc130 hce130
    have HR130_0 := Aside0.mk hi130_0
    have HC130_0 := Aside0.mk hl130_0
    clear hi130_0 hl130_0
    replace p130 := eq_true p130
    replace q130 := eq_true q130
    refine start_ (n := 15) (S := fun w' => w'.cell? (ad129.add (t126).toNat) = some (.int .i64 (rd y123 t126)) ∧ w'.cell? (ad130.add (t126).toNat) = some (.slice A130_0 (rd_L18 y120 t126).length c130_0)) (ds := []) #[false, false, false, false, false, false, false, false, false, false, false, false, false, false, false] (by kernel_rfl) rfl rfl ⟨hx129_0, hx130_0⟩ (fun hHeld => ?_); refine with_tabW spec_l01Cur_lat.tab4 spec_l01Cur_lat.bits4 (fun HT_ HW_ => ?_)
    generalize w30.drew = w31 at HO122 HO125 BK101 HI0 HK HB HL130_0 HR130_0 hx129_0 hx130_0 hHeld ⊢
    refine pure_ (i := 0) (N := some 44) (v := ?_) (a' := ?_) #[true, false, false, false, false, false, false, false, false, false, false, false, false, false, false] rfl rfl (any_of HT_.out (by kernel_rfl)) (fun _ _ _ h => h) (Or.inl ⟨by rfl, ?_⟩) ?_ ?_
    rotate_left
    ·intro w'
     go_simp
     with_reducible rfl
    rotate_left
    ·simp only [Act.put, List.setIfInBounds_toArray, List.set_cons_zero, List.set_cons_succ, i64_w, i32_w]
     rfl
    refine pure_ (i := 1) (N := some 45) (v := ?_) (a' := ?_) #[true, true, false, false, false, false, false, false, false, false, false, false, false, false, false] rfl rfl (any_of HT_.out (by kernel_rfl)) (fun _ _ _ h => h) (Or.inl ⟨by rfl, ?_⟩) ?_ ?_
    rotate_left
    ·intro w'
     go_simp
     with_reducible rfl
    rotate_left
    ·simp only [Act.put, List.setIfInBounds_toArray, List.set_cons_zero, List.set_cons_succ, i64_w, i32_w]
     rfl
    refine pure_ (i := 2) (N := some 46) (v := ?_) (a' := ?_) #[true, true, true, false, false, false, false, false, false, false, false, false, false, false, false] rfl rfl (any_of HT_.out (by kernel_rfl)) (fun _ _ _ h => h) (Or.inl ⟨by rfl, ?_⟩) ?_ ?_
    rotate_left
    ·intro w'
     go_simp
     with_reducible rfl
    rotate_left
    ·simp only [Act.put, List.setIfInBounds_toArray, List.set_cons_zero, List.set_cons_succ, i64_w, i32_w]
     rfl
    refine pure_ (i := 4) (N := some 48) (v := ?_) (a' := ?_) #[true, true, true, false, true, false, false, false, false, false, false, false, false, false, false] rfl rfl (any_of HT_.out (by kernel_rfl)) (fun _ _ _ h => h) (Or.inl ⟨by rfl, ?_⟩) ?_ ?_
    rotate_left
    ·intro w'
     go_simp
     with_reducible rfl
    rotate_left
    ·simp only [Act.put, List.setIfInBounds_toArray, List.set_cons_zero, List.set_cons_succ, i64_w, i32_w]
     rfl
    refine pure_ (i := 5) (N := some 49) (v := ?_) (a' := ?_) #[true, true, true, false, true, true, false, false, false, false, false, false, false, false, false] rfl rfl (any_of HT_.out (by kernel_rfl)) (fun _ _ _ h => h) (Or.inl ⟨by rfl, ?_⟩) ?_ ?_
    rotate_left
    ·intro w'
     go_simp
     with_reducible rfl
    rotate_left
    ·simp only [Act.put, List.setIfInBounds_toArray, List.set_cons_zero, List.set_cons_succ, i64_w, i32_w]
     rfl
    refine pure_ (i := 6) (N := some 50) (v := ?_) (a' := ?_) #[true, true, true, false, true, true, true, false, false, false, false, false, false, false, false] rfl rfl (any_of HT_.out (by kernel_rfl)) (fun _ _ _ h => h) (Or.inl ⟨by rfl, ?_⟩) ?_ ?_
    rotate_left
    ·intro w'
     go_simp
     with_reducible rfl
    rotate_left
    ·simp only [Act.put, List.setIfInBounds_toArray, List.set_cons_zero, List.set_cons_succ, i64_w, i32_w]
     rfl
    refine take_ (i := 3) (N := some 47) (v := ?_) (a' := ?_) #[true, true, true, true, true, true, true, false, false, false, false, false, false, false, false] rfl rfl (take_ofW HT_.out HW_.out (by kernel_rfl)) (fun _ _ _ h => h) (Or.inl ⟨by rfl, ?_⟩) hHeld ?_ ?_
    rotate_left
    ·rintro w' ⟨s0, s1⟩
     go_simp
     with_reducible rfl
    rotate_left
    ·simp only [Act.put, List.setIfInBounds_toArray, List.set_cons_zero, List.set_cons_succ, i64_w, i32_w]
     rfl
    refine take_ (i := 7) (N := some 51) (v := ?_) (a' := ?_) #[true, true, true, true, true, true, true, true, false, false, false, false, false, false, false] rfl rfl (take_ofW HT_.out HW_.out (by kernel_rfl)) (fun _ _ _ h => h) (Or.inl ⟨by rfl, ?_⟩) hHeld ?_ ?_
    rotate_left
    ·rintro w' ⟨s0, s1⟩
     go_simp
     with_reducible rfl
    rotate_left
    ·simp only [Act.put, List.setIfInBounds_toArray, List.set_cons_zero, List.set_cons_succ, i64_w, i32_w]
     rfl
    refine join_ (σ := Value × Nat) 2 #[true, true, true, true, true, true, true, true, true, true, true, true, true, false, false] (fun s_ => [(52, .tuple #[.agg #[.int .i64 t131, s_.1], .bool t135]), (6, .pointer (some ⟨s_.2, 0, none⟩)), (43, .tuple #[.agg #[.int .i64 t131, s_.1], .bool t135]), (53, .agg #[.int .i64 t131, s_.1]), (54, .bool t135)]) (fun s_ w' => (w'.cell? (ad129.add (t126).toNat) = some (.int .i64 (rd y123 t126)) ∧ w'.cell? (ad130.add (t126).toNat) = some (.slice A130_0 (rd_L18 y120 t126).length c130_0)) ∧ (Kd.V k151 151 w' w.heap.size (fun k_ => some k_ ≠ (.slice (some ad130) y120.length co33 : Value).ownBlock ∧ some k_ ≠ (.slice (some ad129) y123.length co32 : Value).ownBlock ∧ some k_ ≠ (s_.1 : Value).ownBlock ∧ k_ ≠ g ∧ k_ ≠ gb101 ∧ k_ ≠ s_.2) (.slice A130_0 (rd_L18 y120 t126).length c130_0) (rd_L18 y120 t126)) ∧ (Kd.N (Kd.slice 151 k151) 49 w' w.heap.size (fun k_ => some k_ ≠ (.slice (some ad129) y123.length co32 : Value).ownBlock ∧ some k_ ≠ (s_.1 : Value).ownBlock ∧ k_ ≠ g ∧ k_ ≠ gb101 ∧ k_ ≠ s_.2) (.slice (some ad130) y120.length co33) y120) ∧ (Kd.R (Kd.int .i64) 3 w' w.heap.size (fun _ => True) (.slice (some ad129) y123.length co32) y123) ∧ (Kd.R (Kd.int .u64) 153 w' w.heap.size (fun _ => True) s_.1 t132) ∧ (w'.heap[gb101]? = some (.cells #[.int .i64 0, .slice none 0 0] 47 (0, 0))) ∧ (w'.heap[s_.2]? = some (.cells #[.int .i64 0, .slice none 0 0] 47 (0, 0))) ∧ (w.heap.size ≤ s_.2) ∧ (w0.heap.size ≤ s_.2) ∧ (g ≠ s_.2) ∧ (s_.2 ≠ g) ∧ (gb101 ≠ s_.2) ∧ (s_.2 ≠ gb101) ∧ (IsS213 w0 w' g s0_0 t127 t128) ∧ (KeepBut w w' g none) ∧ (Below w0.heap.size w0 w')) ?_ ?_
    rotate_left
    ·intro hCont
     refine two_ (i := 8) (j := 12) (Ni := some 52) (Nj := some 6) #[true, true, true, true, true, true, true, true, true, false, false, false, false, false, false] #[true, true, true, true, true, true, true, true, false, false, false, false, true, false, false] rfl rfl rfl rfl (two_of HT_.out (by kernel_rfl)) (by decide) (by decide) (fun K hK => ?_) (fun K hK => ?_)
     ·skip
      refine goes_ Try.func272 (by kernel_rfl) rfl #[.int .i64 (rd y123 t126), .slice A130_0 (rd_L18 y120 t126).length c130_0] (by rfl) rfl rfl qz1 ?_
      with_reducible refine (spec_LatOf.calls k (rd y123 t126) _ _ (rd_L18 y120 t126) t131 t132 t135 _ ?side1 ?side2 A6.out).mono ?_
      (case side1 => exact qz383 HR130_0.out)
      (case side2 => exact HC130_0.out)
      rintro e w34 ⟨v133, rfl, ho0, hb⟩
      have HS0_ := (hb.cell (World.block_lt_of_cell? _ _ (hHeld.1))).trans (hHeld.1)
      have HS1_ := (hb.cell (World.block_lt_of_cell? _ _ (hHeld.2))).trans (hHeld.2)
      refine ⟨_, rfl, ?_⟩
      have n0_ := Aside0.mk (Kd.N_elder' (qz247 HO122.out) (Kd.R_base ho0) hb)
      have n1_ := Aside0.mk (Kd.R_below (qz21 HO125.out) hb)
      have n2_ := Aside0.mk (Kd.V_elder' (qz266 HL130_0.out) (Kd.R_base ho0) hb)
      have n3_ := Aside0.mk (Kd.R_lower ho0 (keep_size (w := w) (g := g) (row := none) (qz417 GW101.out)))
      have n4_ := Aside0.mk (IsS213.below (qz289 HI0.out NB0_101.out) hb)
      have n5_ := Aside0.mk (blk_below (g := gb101) (o := .cells #[.int .i64 0, .slice none 0 0] 47 (0, 0)) (qz8 BK101.out) hb)
      have n6_ := Aside0.mk (Kd.C_below (qz351 HR130_0.out) hb)
      have n7_ := Aside0.mk (KeepBut.trans (qz417 GW101.out) (KeepBut.of_below hb g none) (.inl rfl))
      have n8_ := Aside0.mk (below_step (qz290 HI0.out GE101.out) hb)
      clear HO122
      clear HO125
      clear HL130_0
      clear HI0
      clear BK101
      clear HR130_0
      clear HK
      clear HB
      have HO122 := n0_
      have HO125 := n1_
      have HL130_0 := n2_
      have HO134 := n3_
      have HI0 := n4_
      have BK101 := n5_
      have HR130_0 := n6_
      have HK := n7_
      have HB := n8_
      clear n0_ n1_ n2_ n3_ n4_ n5_ n6_ n7_ n8_
      (try clear hb)
      (try clear hb2)
      (try clear hk)
      (try clear hi)
      (try clear ho0)
      refine hK.out _ _ ⟨HS0_, HS1_⟩ (fun hHeld => ?_)
      clear hK K
      refine norm_ (a' := ?_) ?_ ?_
      rotate_left
      ·show Act.put _ (some 52) _ = _
       simp only [Act.put, List.setIfInBounds_toArray, List.set_cons_zero, List.set_cons_succ, i64_w, i32_w]
       rfl
      refine pure_ (i := 9) (N := some 43) (v := ?_) (a' := ?_) #[true, true, true, true, true, true, true, true, true, true, false, false, false, false, false] rfl rfl (any_of HT_.out (by kernel_rfl)) (fun _ _ _ h => h) (Or.inl ⟨by rfl, ?_⟩) ?_ ?_
      rotate_left
      ·intro w'
       go_simp
       with_reducible rfl
      rotate_left
      ·simp only [Act.put, List.setIfInBounds_toArray, List.set_cons_zero, List.set_cons_succ, i64_w, i32_w]
       rfl
      refine pure_ (i := 10) (N := some 53) (v := ?_) (a' := ?_) #[true, true, true, true, true, true, true, true, true, true, true, false, false, false, false] rfl rfl (any_of HT_.out (by kernel_rfl)) (fun _ _ _ h => h) (Or.inl ⟨by rfl, ?_⟩) ?_ ?_
      rotate_left
      ·intro w'
       go_simp
       with_reducible rfl
      rotate_left
      ·simp only [Act.put, List.setIfInBounds_toArray, List.set_cons_zero, List.set_cons_succ, i64_w, i32_w]
       rfl
      refine pure_ (i := 11) (N := some 54) (v := ?_) (a' := ?_) #[true, true, true, true, true, true, true, true, true, true, true, true, false, false, false] rfl rfl (any_of HT_.out (by kernel_rfl)) (fun _ _ _ h => h) (Or.inl ⟨by rfl, ?_⟩) ?_ ?_
      rotate_left
      ·intro w'
       go_simp
       with_reducible rfl
      rotate_left
      ·simp only [Act.put, List.setIfInBounds_toArray, List.set_cons_zero, List.set_cons_succ, i64_w, i32_w]
       rfl
      refine one_ (i := 12) (N := some 6) #[true, true, true, true, true, true, true, true, true, true, true, true, true, false, false] rfl rfl (one_of HT_.out (by kernel_rfl)) (by decide) (fun K hK => ?_)
      refine box_step ?hg (N := 6) ?hd (cs := #[.int .i64 0, .slice none 0 0]) (t := 47) ?hr ?_; (case hd => rfl); (case hg => rfl); (case hr => exact qz5)
      intro gb136 hg w35 hbox hb
      have HS0_ := (hb.cell (World.block_lt_of_cell? _ _ (hHeld.1))).trans (hHeld.1)
      have HS1_ := (hb.cell (World.block_lt_of_cell? _ _ (hHeld.2))).trans (hHeld.2)
      have n0_ := Aside0.mk (Kd.N_below (Kd.N_elderB (qz247 HO122.out) gb136 (Nat.le_of_eq hg.symm)) hb)
      have n1_ := Aside0.mk (Kd.R_below (qz21 HO125.out) hb)
      have n2_ := Aside0.mk (Kd.V_below (Kd.V_elderB (qz266 HL130_0.out) gb136 (Nat.le_of_eq hg.symm)) hb)
      have n3_ := Aside0.mk (Kd.R_below (qz21 HO134.out) hb)
      have n4_ := Aside0.mk (IsS213.below (qz289 HI0.out NB0_101.out) hb)
      have n5_ := Aside0.mk (blk_below (g := gb101) (o := .cells #[.int .i64 0, .slice none 0 0] 47 (0, 0)) (qz8 BK101.out) hb)
      have n6_ := Aside0.mk (Kd.C_below (qz351 HR130_0.out) hb)
      have n7_ := Aside0.mk (KeepBut.trans (qz417 GW101.out) (KeepBut.of_below hb g none) (.inl rfl))
      have n8_ := Aside0.mk (below_step (qz290 HI0.out GE101.out) hb)
      have n9_ := Aside0.mk (hbox)
      have n10_ := Aside0.mk ((qz418 GW101.out : w.heap.size ≤ gb136))
      have n11_ := Aside0.mk ((Nat.le_trans HW0.out (qz418 GW101.out : w.heap.size ≤ gb136) : w0.heap.size ≤ gb136))
      have n12_ := Aside0.mk ((qz39 BK101.out : gb101 ≠ gb136))
      have n13_ := Aside0.mk ((qz40 BK101.out : gb136 ≠ gb101))
      have n14_ := Aside0.mk ((qz531 HI0.out NB0_101.out : g ≠ gb136))
      have n15_ := Aside0.mk ((qz532 HI0.out NB0_101.out : gb136 ≠ g))
      clear HO122
      clear HO125
      clear HL130_0
      clear HO134
      clear HI0
      clear BK101
      clear HR130_0
      clear HK
      clear HB
      have HO122 := n0_
      have HO125 := n1_
      have HL130_0 := n2_
      have HO134 := n3_
      have HI0 := n4_
      have BK101 := n5_
      have HR130_0 := n6_
      have HK := n7_
      have HB := n8_
      have BK136 := n9_
      have GW136 := n10_
      have GE136 := n11_
      have NB101_136 := n12_
      have NB136_101 := n13_
      have NB0_136 := n14_
      have NB136_0 := n15_
      clear n0_ n1_ n2_ n3_ n4_ n5_ n6_ n7_ n8_ n9_ n10_ n11_ n12_ n13_ n14_ n15_
      clear hb hbox hg
      refine hK.out _ _ ⟨HS0_, HS1_⟩ (fun hHeld => ?_)
      clear hK K
      refine norm_ (a' := ?_) ?_ ?_
      rotate_left
      ·show Act.put _ (some 6) _ = _
       simp only [Act.put, List.setIfInBounds_toArray, List.set_cons_zero, List.set_cons_succ, i64_w, i32_w]
       rfl
      exact norm_ qz85 (hCont (v133, gb136) _ ⟨hHeld, (by (with_reducible repeat (first | apply Kd.V_alloc | apply Kd.V_drewN | apply Kd.V_drew)); exact Kd.V_mono HL130_0.out (fun _ hk => ⟨hk.1.1.2, ⟨hk.1.1.1.2, ⟨hk.1.2, ⟨hk.1.1.1.1.2, ⟨hk.1.1.1.1.1, hk.2⟩⟩⟩⟩⟩)), (by (with_reducible repeat (first | apply Kd.N_alloc | apply Kd.N_drewN | apply Kd.N_drew)); exact Kd.N_mono HO122.out (fun _ hk => ⟨hk.1.1.2, ⟨hk.1.2, ⟨hk.1.1.1.2, ⟨hk.1.1.1.1, hk.2⟩⟩⟩⟩)), (qz21 HO125.out), (qz21 HO134.out), (qz8 BK101.out), (qz8 BK136.out), GW136.out, GE136.out, NB0_136.out, NB136_0.out, NB101_136.out, NB136_101.out, (qz295 HI0.out NB0_101.out NB0_136.out), (qz421 GW101.out GW136.out), (qz296 HI0.out GE101.out GE136.out)⟩)
     ·skip
      refine box_step ?hg (N := 6) ?hd (cs := #[.int .i64 0, .slice none 0 0]) (t := 47) ?hr ?_; (case hd => rfl); (case hg => rfl); (case hr => exact qz5)
      intro gb136 hg w34 hbox hb
      have HS0_ := (hb.cell (World.block_lt_of_cell? _ _ (hHeld.1))).trans (hHeld.1)
      have HS1_ := (hb.cell (World.block_lt_of_cell? _ _ (hHeld.2))).trans (hHeld.2)
      have n0_ := Aside0.mk (Kd.N_below (Kd.N_elderB (qz247 HO122.out) gb136 (Nat.le_of_eq hg.symm)) hb)
      have n1_ := Aside0.mk (Kd.R_below (qz21 HO125.out) hb)
      have n2_ := Aside0.mk (Kd.V_below (Kd.V_elderB (qz266 HL130_0.out) gb136 (Nat.le_of_eq hg.symm)) hb)
      have n3_ := Aside0.mk (IsS213.below (qz289 HI0.out NB0_101.out) hb)
      have n4_ := Aside0.mk (blk_below (g := gb101) (o := .cells #[.int .i64 0, .slice none 0 0] 47 (0, 0)) (qz8 BK101.out) hb)
      have n5_ := Aside0.mk (Kd.C_below (qz351 HR130_0.out) hb)
      have n6_ := Aside0.mk (KeepBut.trans (qz417 GW101.out) (KeepBut.of_below hb g none) (.inl rfl))
      have n7_ := Aside0.mk (below_step (qz290 HI0.out GE101.out) hb)
      have n8_ := Aside0.mk (hbox)
      have n9_ := Aside0.mk ((qz418 GW101.out : w.heap.size ≤ gb136))
      have n10_ := Aside0.mk ((Nat.le_trans HW0.out (qz418 GW101.out : w.heap.size ≤ gb136) : w0.heap.size ≤ gb136))
      have n11_ := Aside0.mk ((qz39 BK101.out : gb101 ≠ gb136))
      have n12_ := Aside0.mk ((qz40 BK101.out : gb136 ≠ gb101))
      have n13_ := Aside0.mk ((qz531 HI0.out NB0_101.out : g ≠ gb136))
      have n14_ := Aside0.mk ((qz532 HI0.out NB0_101.out : gb136 ≠ g))
      clear HO122
      clear HO125
      clear HL130_0
      clear HI0
      clear BK101
      clear HR130_0
      clear HK
      clear HB
      have HO122 := n0_
      have HO125 := n1_
      have HL130_0 := n2_
      have HI0 := n3_
      have BK101 := n4_
      have HR130_0 := n5_
      have HK := n6_
      have HB := n7_
      have BK136 := n8_
      have GW136 := n9_
      have GE136 := n10_
      have NB101_136 := n11_
      have NB136_101 := n12_
      have NB0_136 := n13_
      have NB136_0 := n14_
      clear n0_ n1_ n2_ n3_ n4_ n5_ n6_ n7_ n8_ n9_ n10_ n11_ n12_ n13_ n14_
      clear hb hbox hg
      refine hK.out _ _ ⟨HS0_, HS1_⟩ (fun hHeld => ?_)
      clear hK K
      refine norm_ (a' := ?_) ?_ ?_
      rotate_left
      ·show Act.put _ (some 6) _ = _
       simp only [Act.put, List.setIfInBounds_toArray, List.set_cons_zero, List.set_cons_succ, i64_w, i32_w]
       rfl
      refine one_ (i := 8) (N := some 52) #[true, true, true, true, true, true, true, true, true, false, false, false, true, false, false] rfl rfl (one_of HT_.out (by kernel_rfl)) (by decide) (fun K hK => ?_)
      refine goes_ Try.func272 (by kernel_rfl) rfl #[.int .i64 (rd y123 t126), .slice A130_0 (rd_L18 y120 t126).length c130_0] (by rfl) rfl rfl qz1 ?_
      with_reducible refine (spec_LatOf.calls k (rd y123 t126) _ _ (rd_L18 y120 t126) t131 t132 t135 _ ?side1 ?side2 A6.out).mono ?_
      (case side1 => exact qz383 HR130_0.out)
      (case side2 => exact HC130_0.out)
      rintro e w35 ⟨v133, rfl, ho0, hb⟩
      have HS0_ := (hb.cell (World.block_lt_of_cell? _ _ (hHeld.1))).trans (hHeld.1)
      have HS1_ := (hb.cell (World.block_lt_of_cell? _ _ (hHeld.2))).trans (hHeld.2)
      refine ⟨_, rfl, ?_⟩
      have n0_ := Aside0.mk (Kd.N_elder' (qz247 HO122.out) (Kd.R_base ho0) hb)
      have n1_ := Aside0.mk (Kd.R_below (qz21 HO125.out) hb)
      have n2_ := Aside0.mk (Kd.V_elder' (qz266 HL130_0.out) (Kd.R_base ho0) hb)
      have n3_ := Aside0.mk (Kd.R_lower ho0 (keep_size (w := w) (g := g) (row := none) (qz421 GW101.out GW136.out)))
      have n4_ := Aside0.mk (IsS213.below (qz295 HI0.out NB0_101.out NB0_136.out) hb)
      have n5_ := Aside0.mk (blk_below (g := gb101) (o := .cells #[.int .i64 0, .slice none 0 0] 47 (0, 0)) (qz8 BK101.out) hb)
      have n6_ := Aside0.mk (Kd.C_below (qz351 HR130_0.out) hb)
      have n7_ := Aside0.mk (blk_below (g := gb136) (o := .cells #[.int .i64 0, .slice none 0 0] 47 (0, 0)) (qz8 BK136.out) hb)
      have n8_ := Aside0.mk (KeepBut.trans (qz421 GW101.out GW136.out) (KeepBut.of_below hb g none) (.inl rfl))
      have n9_ := Aside0.mk (below_step (qz296 HI0.out GE101.out GE136.out) hb)
      clear HO122
      clear HO125
      clear HL130_0
      clear HI0
      clear BK101
      clear HR130_0
      clear BK136
      clear HK
      clear HB
      have HO122 := n0_
      have HO125 := n1_
      have HL130_0 := n2_
      have HO134 := n3_
      have HI0 := n4_
      have BK101 := n5_
      have HR130_0 := n6_
      have BK136 := n7_
      have HK := n8_
      have HB := n9_
      clear n0_ n1_ n2_ n3_ n4_ n5_ n6_ n7_ n8_ n9_
      (try clear hb)
      (try clear hb2)
      (try clear hk)
      (try clear hi)
      (try clear ho0)
      refine hK.out _ _ ⟨HS0_, HS1_⟩ (fun hHeld => ?_)
      clear hK K
      refine norm_ (a' := ?_) ?_ ?_
      rotate_left
      ·show Act.put _ (some 52) _ = _
       simp only [Act.put, List.setIfInBounds_toArray, List.set_cons_zero, List.set_cons_succ, i64_w, i32_w]
       rfl
      refine pure_ (i := 9) (N := some 43) (v := ?_) (a' := ?_) #[true, true, true, true, true, true, true, true, true, true, false, false, true, false, false] rfl rfl (any_of HT_.out (by kernel_rfl)) (fun _ _ _ h => h) (Or.inl ⟨by rfl, ?_⟩) ?_ ?_
      rotate_left
      ·intro w'
       go_simp
       with_reducible rfl
      rotate_left
      ·simp only [Act.put, List.setIfInBounds_toArray, List.set_cons_zero, List.set_cons_succ, i64_w, i32_w]
       rfl
      refine pure_ (i := 10) (N := some 53) (v := ?_) (a' := ?_) #[true, true, true, true, true, true, true, true, true, true, true, false, true, false, false] rfl rfl (any_of HT_.out (by kernel_rfl)) (fun _ _ _ h => h) (Or.inl ⟨by rfl, ?_⟩) ?_ ?_
      rotate_left
      ·intro w'
       go_simp
       with_reducible rfl
      rotate_left
      ·simp only [Act.put, List.setIfInBounds_toArray, List.set_cons_zero, List.set_cons_succ, i64_w, i32_w]
       rfl
      refine pure_ (i := 11) (N := some 54) (v := ?_) (a' := ?_) #[true, true, true, true, true, true, true, true, true, true, true, true, true, false, false] rfl rfl (any_of HT_.out (by kernel_rfl)) (fun _ _ _ h => h) (Or.inl ⟨by rfl, ?_⟩) ?_ ?_
      rotate_left
      ·intro w'
       go_simp
       with_reducible rfl
      rotate_left
      ·simp only [Act.put, List.setIfInBounds_toArray, List.set_cons_zero, List.set_cons_succ, i64_w, i32_w]
       rfl
      exact norm_ qz85 (hCont (v133, gb136) _ ⟨hHeld, (by (with_reducible repeat (first | apply Kd.V_alloc | apply Kd.V_drewN | apply Kd.V_drew)); exact Kd.V_mono HL130_0.out (fun _ hk => ⟨hk.1.1.2, ⟨hk.1.1.1.2, ⟨hk.2, ⟨hk.1.1.1.1.2, ⟨hk.1.1.1.1.1, hk.1.2⟩⟩⟩⟩⟩)), (by (with_reducible repeat (first | apply Kd.N_alloc | apply Kd.N_drewN | apply Kd.N_drew)); exact Kd.N_mono HO122.out (fun _ hk => ⟨hk.1.1.2, ⟨hk.2, ⟨hk.1.1.1.2, ⟨hk.1.1.1.1, hk.1.2⟩⟩⟩⟩)), (qz21 HO125.out), (qz21 HO134.out), (qz8 BK101.out), (qz8 BK136.out), GW136.out, GE136.out, NB0_136.out, NB136_0.out, NB101_136.out, NB136_101.out, (qz295 HI0.out NB0_101.out NB0_136.out), (qz421 GW101.out GW136.out), (qz296 HI0.out GE101.out GE136.out)⟩)
    rintro ⟨v133, gb136⟩ w36 ⟨hS_, h0_, h1_, h2_, h3_, h4_, h5_, h6_, h7_, h8_, h9_, h10_, h11_, h12_, h13_, h14_⟩
    have n0_ : Aside0 (Kd.V k151 151 w36 w.heap.size (fun k_ => some k_ ≠ (.slice (some ad130) y120.length co33 : Value).ownBlock ∧ some k_ ≠ (.slice (some ad129) y123.length co32 : Value).ownBlock ∧ some k_ ≠ (v133 : Value).ownBlock ∧ k_ ≠ g ∧ k_ ≠ gb101 ∧ k_ ≠ gb136) (.slice A130_0 (rd_L18 y120 t126).length c130_0) (rd_L18 y120 t126)) := ⟨h0_⟩
    have n1_ : Aside0 (Kd.N (Kd.slice 151 k151) 49 w36 w.heap.size (fun k_ => some k_ ≠ (.slice (some ad129) y123.length co32 : Value).ownBlock ∧ some k_ ≠ (v133 : Value).ownBlock ∧ k_ ≠ g ∧ k_ ≠ gb101 ∧ k_ ≠ gb136) (.slice (some ad130) y120.length co33) y120) := ⟨h1_⟩
    have n2_ : Aside0 (Kd.R (Kd.int .i64) 3 w36 w.heap.size (fun _ => True) (.slice (some ad129) y123.length co32) y123) := ⟨h2_⟩
    have n3_ : Aside0 (Kd.R (Kd.int .u64) 153 w36 w.heap.size (fun _ => True) v133 t132) := ⟨h3_⟩
    have n4_ : Aside0 (w36.heap[gb101]? = some (.cells #[.int .i64 0, .slice none 0 0] 47 (0, 0))) := ⟨h4_⟩
    have n5_ : Aside0 (w36.heap[gb136]? = some (.cells #[.int .i64 0, .slice none 0 0] 47 (0, 0))) := ⟨h5_⟩
    have n6_ : Aside0 (w.heap.size ≤ gb136) := ⟨h6_⟩
    have n7_ : Aside0 (w0.heap.size ≤ gb136) := ⟨h7_⟩
    have n8_ : Aside0 (g ≠ gb136) := ⟨h8_⟩
    have n9_ : Aside0 (gb136 ≠ g) := ⟨h9_⟩
    have n10_ : Aside0 (gb101 ≠ gb136) := ⟨h10_⟩
    have n11_ : Aside0 (gb136 ≠ gb101) := ⟨h11_⟩
    have n12_ : Aside0 (IsS213 w0 w36 g s0_0 t127 t128) := ⟨h12_⟩
    have n13_ : Aside0 (KeepBut w w36 g none) := ⟨h13_⟩
    have n14_ : Aside0 (Below w0.heap.size w0 w36) := ⟨h14_⟩
    clear HO122
    clear HO125
    clear BK101
    clear HI0
    clear HK
    clear HB
    clear h0_ h1_ h2_ h3_ h4_ h5_ h6_ h7_ h8_ h9_ h10_ h11_ h12_ h13_ h14_
    have HL130_0 := n0_
    have HO122 := n1_
    have HO125 := n2_
    have HO134 := n3_
    have BK101 := n4_
    have BK136 := n5_
    have GW136 := n6_
    have GE136 := n7_
    have NB0_136 := n8_
    have NB136_0 := n9_
    have NB101_136 := n10_
    have NB136_101 := n11_
    have HI0 := n12_
    have HK := n13_
    have HB := n14_
    clear n0_ n1_ n2_ n3_ n4_ n5_ n6_ n7_ n8_ n9_ n10_ n11_ n12_ n13_ n14_
    have hHeld : w36.cell? (ad129.add (t126).toNat) = some (.int .i64 (rd y123 t126)) ∧ w36.cell? (ad130.add (t126).toNat) = some (.slice A130_0 (rd_L18 y120 t126).length c130_0) := hS_
    obtain ⟨Ao38, co38, eo38⟩ := Kd.R_slice HO134.out
    (first | subst eo38 | (injection eo38 with f1_ f2_ f3_; have f4_ := f1_.symm; have f5_ := f3_.symm; clear f1_ f2_ f3_; subst f4_; subst f5_))
    refine norm_ (a' := ?_) ?_ ?_
    rotate_left
    ·simp only [putAll, Act.put, List.setIfInBounds_toArray, List.set_cons_zero, List.set_cons_succ]
     rfl
    refine one_ (i := 13) (N := none) #[true, true, true, true, true, true, true, true, true, true, true, true, true, true, false] rfl rfl (one_of HT_.out (by kernel_rfl)) (by decide) (fun K hK => ?_)
    have hs37 : w36.cell? ⟨gb136, 0, none⟩ = some (.int .i64 0) := (blk_cell BK136.out 0).trans rfl
    have hfs37 := blk_frozen BK136.out 0
    have hns37_0 := NB101_136.out
    have hms37_0 := NB136_101.out
    have hs39 : w36.cell? ⟨gb136, 1, none⟩ = some (.slice none 0 0) := (blk_cell BK136.out 1).trans rfl
    have hfs39 := blk_frozen BK136.out 1
    have hns39_0 := NB101_136.out
    have hms39_0 := NB136_101.out
    refine skip_ (w1 := ?_) (by rfl) rfl ?_ ?_
    rotate_left
    ·go_simp
     rfl
    refine hK.out _ _ ⟨((cell_far (p := ⟨gb136, _, none⟩) (qz533 HO125.out BK136.out) _).trans (((cell_far (p := ⟨gb136, _, none⟩) (qz533 HO125.out BK136.out) _).trans (hHeld.1)))), ((cell_far (p := ⟨gb136, _, none⟩) (qz534 HO122.out) _).trans (((cell_far (p := ⟨gb136, _, none⟩) (qz534 HO122.out) _).trans (hHeld.2))))⟩ (fun hHeld => ?_)
    clear hK K
    refine pure_ (i := 14) (N := some 7) (v := ?_) (a' := ?_) #[true, true, true, true, true, true, true, true, true, true, true, true, true, true, true] rfl rfl (any_of HT_.out (by kernel_rfl)) (fun _ _ _ h => h) (Or.inl ⟨by rfl, ?_⟩) ?_ ?_
    rotate_left
    ·intro w'
     go_simp
     with_reducible rfl
    rotate_left
    ·simp only [Act.put, List.setIfInBounds_toArray, List.set_cons_zero, List.set_cons_succ, i64_w, i32_w]
     rfl
    refine done_ (done_of HT_.out (by kernel_rfl)) ?_
    have hnb40 := NB136_101.out
    have hnc40 := NB101_136.out
    have hnb41 := NB136_0.out
    have hnc41 := NB0_136.out
    have hcz42_0 : w36.cell? ⟨gb136, 0, none⟩ = some (.int .i64 0) := (blk_cell BK136.out 0).trans rfl
    have hcz42_1 : w36.cell? ⟨gb136, 1, none⟩ = some (.slice none 0 0) := (blk_cell BK136.out 1).trans rfl
    have hfz42_0 := blk_frozen BK136.out 0
    have hfz42_1 := blk_frozen BK136.out 1
    have hnb43 := NB101_0.out
    have hnc43 := NB0_101.out
    have hcz44_0 : w36.cell? ⟨gb101, 0, none⟩ = some (.int .i64 0) := (blk_cell BK101.out 0).trans rfl
    have hcz44_1 : w36.cell? ⟨gb101, 1, none⟩ = some (.slice none 0 0) := (blk_cell BK101.out 1).trans rfl
    have hfz44_0 := blk_frozen BK101.out 0
    have hfz44_1 := blk_frozen BK101.out 1
    try go_wp2
    refine bodyPost_ret (results_cell_row rfl _ _ gb101 47 #[.int .i64 t131, .slice Ao38 t132.length co38] (0, 0) _ rfl (by (with_reducible repeat (first | refine blk_drewN ?_ _ | refine blk_drew ?_ | refine blk_alloc ?_ _)); refine blk_put (cs := #[.int .i64 t131, .slice none 0 0]) ?_ 1 _ rfl; (with_reducible repeat (first | refine blk_drewN ?_ _ | refine blk_drew ?_ | refine blk_alloc ?_ _)); refine blk_put (cs := #[.int .i64 0, .slice none 0 0]) ?_ 0 _ rfl; (with_reducible repeat (first | refine blk_drewN ?_ _ | refine blk_drew ?_ | refine blk_alloc ?_ _)); refine blk_far ?_ NB101_136.out _; (with_reducible repeat (first | refine blk_drewN ?_ _ | refine blk_drew ?_ | refine blk_alloc ?_ _)); refine blk_far ?_ NB101_136.out _; (with_reducible repeat (first | refine blk_drewN ?_ _ | refine blk_drew ?_ | refine blk_alloc ?_ _)); exact BK101.out) Try.underlying47 rfl (by kernel_rfl)) rfl ?_
    exact ⟨_, qz13, by (with_reducible repeat (first | apply Kd.R_alloc | apply Kd.R_drewN | apply Kd.R_drew)); exact Kd.R_mono (Kd.R_far (p := ⟨gb101, 1, none⟩) (Kd.R_far (p := ⟨gb101, 0, none⟩) (Kd.R_far (p := ⟨gb136, 1, none⟩) (Kd.R_far (p := ⟨gb136, 0, none⟩) (Kd.R_types (Kd.R_types HO134.out BK136.out (by decide)) BK101.out (by decide)) (fun _ hk => hk.1.2) (.int .i64 t131)) (fun _ hk => hk.1.2) (.slice Ao38 t132.length co38)) (fun _ hk => hk.2) (.int .i64 t131)) (fun _ hk => hk.2) (.slice Ao38 t132.length co38)) (fun _ hk => trivial), qz295 HI0.out NB0_101.out NB0_136.out, qz296 HI0.out GE101.out GE136.out, qz421 GW101.out GW136.out⟩
   ·rw [if_neg c5] at H
    exact absurd H (by simp)
  ·rw [if_neg c4] at H
   exact absurd H (by simp)
 ·rw [if_neg c3] at H
  exact absurd H (by simp)

end Go.Proofs.Ytjhfjnknajhanaa.P

namespace Go.Proofs.Ytjhfjnknajhanaa.P
open Go.RowKit Go.Proofs.YtjhfjnknajhanaaW.PrintWords Go.Proofs.YtjhfjnknajhanaaW.PrintLast Go.Proofs.YtjhfjnknajhanaaW.PrintMore
attribute [local go_sem] max2_int min2_int max_two min_two max_three min_three max_four min_four   -- for this text's walks alone
set_option linter.unusedVariables false
set_option linter.unusedSimpArgs false

/-! ### spec_l01Cur_raw: function 135 -/
set_option maxHeartbeats 8000000 in
set_option maxRecDepth 100000 in
theorem spec_l01Cur_raw.calls (g : Nat) (s0_0 : List Int) (s0_1 : Int) (s0_2 : Int) (r1 : Int) (r2 : Int) (r3 : Int) (w0 w : World) (hI : IsS213 w0 w g s0_0 s0_1 s0_2) (hB : Below w0.heap.size w0 w) (h : spec_l01Cur_raw.f s0_0 s0_1 s0_2 = some (r1, r2, r3)) :
  Calls Try.prog 135 #[.pointer (some ⟨g, 0, none⟩)] w fun e w' => e = .returned (.int .i64 r1) ∧ IsS213 w0 w' g s0_0 r2 r3 ∧ Below w0.heap.size w0 w' ∧ KeepBut w w' g none := by
 have HI0 := Aside0.mk hI
 have HK := Aside0.mk (KeepBut.refl w g none)
 have HL := Aside0.mk hB.size
 clear hI
 have HW0 := Aside0.mk hB.size
 have HB := Aside0.mk hB
 clear hB
 have H : ((spec_l01Cur_pick.f s0_0 s0_1 s0_2 8).bind fun bt101 => (if bt101.1 = 0 then ((spec_l01Cur_pick.f s0_0 bt101.2.1 bt101.2.2 256).bind fun bt104 => (some (wrap64 (bt104.1 - 128), bt104.2.1, bt104.2.2))) else (if bt101.1 = 1 then ((some (([9223372036854775807, (-9223372036854775808), 4611686018427387904, 9223372036854775806, 4294967296, (-1000), 1000, 16] : List Int) : List Int)).bind fun y107 => ((spec_l01Cur_pick.f s0_0 bt101.2.1 bt101.2.2 8).bind fun bt110 => (if 0 ≤ bt110.1 then (if bt110.1 < (y107.length : Int) then (some (rd y107 bt110.1, bt110.2.1, bt110.2.2)) else (none)) else (none)))) else ((spec_l01Cur_pick.f s0_0 bt101.2.1 bt101.2.2 14).bind fun bt114 => (some (wrap64 (bt114.1 - 3), bt114.2.1, bt114.2.2)))))) = some (r1, r2, r3) := h
 clear h
 replace H := Option.bind_eq_some_iff.mp H
 obtain ⟨⟨t101, t102, t103⟩, A20, H⟩ := H
 replace H : (if t101 = 0 then ((spec_l01Cur_pick.f s0_0 t102 t103 256).bind fun bt104 => (some (wrap64 (bt104.1 - 128), bt104.2.1, bt104.2.2))) else (if t101 = 1 then ((some (([9223372036854775807, (-9223372036854775808), 4611686018427387904, 9223372036854775806, 4294967296, (-1000), 1000, 16] : List Int) : List Int)).bind fun y107 => ((spec_l01Cur_pick.f s0_0 t102 t103 8).bind fun bt110 => (if 0 ≤ bt110.1 then (if bt110.1 < (y107.length : Int) then (some (rd y107 bt110.1, bt110.2.1, bt110.2.2)) else (none)) else (none)))) else ((spec_l01Cur_pick.f s0_0 t102 t103 14).bind fun bt114 => (some (wrap64 (bt114.1 - 3), bt114.2.1, bt114.2.2))))) = some (r1, r2, r3) := H
 have A2 := Aside0.mk A20
 clear A20
 by_cases c3 : t101 = 0
 ·rw [if_pos c3] at H
  have c3b0 : (t101 == 0) = true := beq_iff_eq.mpr c3
  have c3b1 : (t101 != 0) = false := bne_eq_false_iff_eq.mpr c3
  clear c3
  replace H := Option.bind_eq_some_iff.mp H
  obtain ⟨⟨t104, t105, t106⟩, A40, H⟩ := H
  replace H : (some (wrap64 (t104 - 128), t105, t106)) = some (r1, r2, r3) := H
  have A4 := Aside0.mk A40
  clear A40
  simp only [Option.some.injEq, Prod.mk.injEq] at H
  obtain ⟨rfl, rfl, rfl⟩ := H
  go_enter Try.func135, Try.ntmps135
  go_wp2_with (first | ((with_reducible refine gate_callee (f := 134) rfl ?_); refine goesL_ (some 4) rfl rfl Try.func134 (by kernel_rfl) rfl #[.pointer (some ⟨g, 0, none⟩), .int .i64 8] rfl qz1 ?_; (with_reducible refine (spec_l01Cur_pick.calls g s0_0 s0_1 s0_2 8 t101 t102 t103 w0 _ ?side1 ?side2 A2.out).mono ?_); (case side1 => exact qz313 HI0.out); (case side2 => exact qz314 HI0.out); rintro e w5 ⟨rfl, hi, hb, hk⟩; refine ⟨_, rfl, ?_⟩; have n0_ := Aside0.mk (KeepBut.trans qz408 hk (.inl rfl)); have n1_ := Aside0.mk (hb); have n2_ := Aside0.mk (hi); clear HK; clear HB; clear HI0; have HK := n0_; have HB := n1_; have HI0 := n2_; clear n0_ n1_ n2_; (try clear hb); (try clear hb2); (try clear hk); (try clear hi)) | ((with_reducible refine gate_callee (f := 134) rfl ?_); refine goesL_ (some 8) rfl rfl Try.func134 (by kernel_rfl) rfl #[.pointer (some ⟨g, 0, none⟩), .int .i64 256] rfl qz1 ?_; (with_reducible refine (spec_l01Cur_pick.calls g s0_0 t102 t103 256 t104 t105 t106 w0 _ ?side1 ?side2 A4.out).mono ?_); (case side1 => exact qz313 HI0.out); (case side2 => exact qz314 HI0.out); rintro e w6 ⟨rfl, hi, hb, hk⟩; refine ⟨_, rfl, ?_⟩; have n0_ := Aside0.mk (KeepBut.trans qz408 hk (.inl rfl)); have n1_ := Aside0.mk (hb); have n2_ := Aside0.mk (hi); clear HK; clear HB; clear HI0; have HK := n0_; have HB := n1_; have HI0 := n2_; clear n0_ n1_ n2_; (try clear hb); (try clear hb2); (try clear hk); (try clear hi)))
  go_ret
  exact ⟨qz13, qz313 HI0.out, qz314 HI0.out, qz408⟩
 ·rw [if_neg c3] at H
  have c3b0 : (t101 == 0) = false := beq_eq_false_iff_ne.mpr c3
  have c3b1 : (t101 != 0) = true := bne_iff_ne.mpr c3
  by_cases c7 : t101 = 1
  ·rw [if_pos c7] at H
   have c7b0 : (t101 == 1) = true := beq_iff_eq.mpr c7
   have c7b1 : (t101 != 1) = false := bne_eq_false_iff_eq.mpr c7
   clear c7
   obtain ⟨y107, hy107⟩ : ∃ y_ : List Int, y_ = (([9223372036854775807, (-9223372036854775808), 4611686018427387904, 9223372036854775806, 4294967296, (-1000), 1000, 16] : List Int)) := ⟨_, rfl⟩
   replace H : ((spec_l01Cur_pick.f s0_0 t102 t103 8).bind fun bt110 => (if 0 ≤ bt110.1 then (if bt110.1 < (y107.length : Int) then (some (rd y107 bt110.1, bt110.2.1, bt110.2.2)) else (none)) else (none))) = some (r1, r2, r3) := by first | (rw [hy107]; with_reducible exact H) | (have H2_ := (Option.bind_some _ _).symm.trans H; rw [hy107]; with_reducible exact H2_) | (have H2_ := (Option.bind_some _ _).symm.trans H; with_reducible exact H2_) | with_reducible exact H | (rw [hy107]; exact H) | exact H
   have Ny107 := Aside0.mk hy107
   clear hy107
   replace H := Option.bind_eq_some_iff.mp H
   obtain ⟨⟨t110, t111, t112⟩, A80, H⟩ := H
   replace H : (if 0 ≤ t110 then (if t110 < (y107.length : Int) then (some (rd y107 t110, t111, t112)) else (none)) else (none)) = some (r1, r2, r3) := H
   have A8 := Aside0.mk A80
   clear A80
   by_cases c9 : 0 ≤ t110
   ·rw [if_pos c9] at H
    have c9b0 : decide (0 ≤ t110) = true := decide_eq_true c9
    clear c9
    by_cases c10 : t110 < (y107.length : Int)
    ·rw [if_pos c10] at H
     have c10b0 : decide (t110 < (y107.length : Int)) = true := decide_eq_true c10
     clear c10
     simp only [Option.some.injEq, Prod.mk.injEq] at H
     obtain ⟨rfl, rfl, rfl⟩ := H
     go_enter Try.func135, Try.ntmps135
     go_wp2_with (first | ((with_reducible refine gate_callee (f := 134) rfl ?_); refine goesL_ (some 4) rfl rfl Try.func134 (by kernel_rfl) rfl #[.pointer (some ⟨g, 0, none⟩), .int .i64 8] rfl qz1 ?_; (with_reducible refine (spec_l01Cur_pick.calls g s0_0 s0_1 s0_2 8 t101 t102 t103 w0 _ ?side1 ?side2 A2.out).mono ?_); (case side1 => exact qz313 HI0.out); (case side2 => exact qz314 HI0.out); rintro e w11 ⟨rfl, hi, hb, hk⟩; refine ⟨_, rfl, ?_⟩; have n0_ := Aside0.mk (KeepBut.trans qz408 hk (.inl rfl)); have n1_ := Aside0.mk (hb); have n2_ := Aside0.mk (hi); clear HK; clear HB; clear HI0; have HK := n0_; have HB := n1_; have HI0 := n2_; clear n0_ n1_ n2_; (try clear hb); (try clear hb2); (try clear hk); (try clear hi)) | ((with_reducible refine gate_dst (N := 12) rfl ?_); refine Kd.R_lit (Kd.int .i64) _ 3 ?hg (N := 12) ?hd (xs := ([9223372036854775807, (-9223372036854775808), 4611686018427387904, 9223372036854775806, 4294967296, (-1000), 1000, 16] : List Int)) (inner := [.int .i64 9223372036854775807, .int .i64 (-9223372036854775808), .int .i64 4611686018427387904, .int .i64 9223372036854775806, .int .i64 4294967296, .int .i64 (-1000), .int .i64 1000, .int .i64 16]) (ok := fun _ => True) (okp := fun _ => True) ?hr ?hp (fun _ hk => hk) trivial (Below.refl _ _) (Nat.le_refl _) (by simp) ?_; (case hd => rfl); (case hg => rfl); (case hr => exact qz5); (case hp => exact (Reps.one (show Kd.M (Kd.int .i64) _ _ _ 9223372036854775807 [.int .i64 9223372036854775807] from rfl) (Reps.one (show Kd.M (Kd.int .i64) _ _ _ (-9223372036854775808) [.int .i64 (-9223372036854775808)] from rfl) (Reps.one (show Kd.M (Kd.int .i64) _ _ _ 4611686018427387904 [.int .i64 4611686018427387904] from rfl) (Reps.one (show Kd.M (Kd.int .i64) _ _ _ 9223372036854775806 [.int .i64 9223372036854775806] from rfl) (Reps.one (show Kd.M (Kd.int .i64) _ _ _ 4294967296 [.int .i64 4294967296] from rfl) (Reps.one (show Kd.M (Kd.int .i64) _ _ _ (-1000) [.int .i64 (-1000)] from rfl) (Reps.one (show Kd.M (Kd.int .i64) _ _ _ 1000 [.int .i64 1000] from rfl) (Reps.one (show Kd.M (Kd.int .i64) _ _ _ 16 [.int .i64 16] from rfl) (Reps.none _ _)))))))))); intro v108 w12 ho13 hb hg_ hnew_; clear hg_ hnew_; (first | rw [← Ny107.out] at ho13 | (simp only [Int.reduceToNat] at ho13; rw [← Ny107.out] at ho13)); have n0_ := Aside0.mk (Kd.R_lower ho13 (keep_size (w := w) (g := g) (row := none) qz408)); have n1_ := Aside0.mk (IsS213.below (qz313 HI0.out) hb); have n2_ := Aside0.mk (KeepBut.trans qz408 (KeepBut.of_below hb g none) (.inl rfl)); have n3_ := Aside0.mk (below_step (qz314 HI0.out) hb); clear HI0; clear HK; clear HB; have HO109 := n0_; have HI0 := n1_; have HK := n2_; have HB := n3_; clear n0_ n1_ n2_ n3_; clear hb ho13) | ((with_reducible refine gate_callee (f := 134) rfl ?_); refine goesL_ (some 14) rfl rfl Try.func134 (by kernel_rfl) rfl #[.pointer (some ⟨g, 0, none⟩), .int .i64 8] rfl qz1 ?_; (with_reducible refine (spec_l01Cur_pick.calls g s0_0 t102 t103 8 t110 t111 t112 w0 _ ?side1 ?side2 A8.out).mono ?_); (case side1 => exact qz313 HI0.out); (case side2 => exact qz314 HI0.out); rintro e w14 ⟨rfl, hi, hb, hk⟩; refine ⟨_, rfl, ?_⟩; have n0_ := Aside0.mk (Kd.R_mono (Kd.R_keep (IsS213.apart (show IsS213 w0 _ g s0_0 t102 t103 from by repeat (first | (with_reducible first | exact HI0.out | apply IsS213.alloc | apply IsS213.drewN | apply IsS213.drew | apply IsS213.set_1 | apply IsS213.set_2) | exact HI0.out)) (qz21 HO109.out) (by decide)) hk (fun _ h => h.2)) (fun _ h => h.1)); have n1_ := Aside0.mk (KeepBut.trans qz408 hk (.inl rfl)); have n2_ := Aside0.mk (hb); have n3_ := Aside0.mk (hi); clear HO109; clear HK; clear HB; clear HI0; have HO109 := n0_; have HK := n1_; have HB := n2_; have HI0 := n3_; clear n0_ n1_ n2_ n3_; (try clear hb); (try clear hb2); (try clear hk); (try clear hi); obtain ⟨Ao15, co15, eo15⟩ := Kd.R_slice HO109.out; subst eo15; have p113 : 0 ≤ (t110 : Int) := of_decide_eq_true qz4; have q113 : t110 < (y107.length : Int) := of_decide_eq_true qz4; obtain ⟨ad113, e113, hx113_0⟩ := Kd.at_int (Kd.R_reads' HO109.out).2.2 t110 p113 q113; cases e113; replace p113 := eq_true p113; replace q113 := eq_true q113))
     go_ret
     exact ⟨qz13, qz313 HI0.out, qz314 HI0.out, qz408⟩
    ·rw [if_neg c10] at H
     exact absurd H (by simp)
   ·rw [if_neg c9] at H
    exact absurd H (by simp)
  ·rw [if_neg c7] at H
   have c7b0 : (t101 == 1) = false := beq_eq_false_iff_ne.mpr c7
   have c7b1 : (t101 != 1) = true := bne_iff_ne.mpr c7
   replace H := Option.bind_eq_some_iff.mp H
   obtain ⟨⟨t114, t115, t116⟩, A160, H⟩ := H
   replace H : (some (wrap64 (t114 - 3), t115, t116)) = some (r1, r2, r3) := H
   have A16 := Aside0.mk A160
   clear A160
   simp only [Option.some.injEq, Prod.mk.injEq] at H
   obtain ⟨rfl, rfl, rfl⟩ := H
   go_enter Try.func135, Try.ntmps135
   go_wp2_with (first | ((with_reducible refine gate_callee (f := 134) rfl ?_); refine goesL_ (some 4) rfl rfl Try.func134 (by kernel_rfl) rfl #[.pointer (some ⟨g, 0, none⟩), .int .i64 8] rfl qz1 ?_; (with_reducible refine (spec_l01Cur_pick.calls g s0_0 s0_1 s0_2 8 t101 t102 t103 w0 _ ?side1 ?side2 A2.out).mono ?_); (case side1 => exact qz313 HI0.out); (case side2 => exact qz314 HI0.out); rintro e w17 ⟨rfl, hi, hb, hk⟩; refine ⟨_, rfl, ?_⟩; have n0_ := Aside0.mk (KeepBut.trans qz408 hk (.inl rfl)); have n1_ := Aside0.mk (hb); have n2_ := Aside0.mk (hi); clear HK; clear HB; clear HI0; have HK := n0_; have HB := n1_; have HI0 := n2_; clear n0_ n1_ n2_; (try clear hb); (try clear hb2); (try clear hk); (try clear hi)) | ((with_reducible refine gate_callee (f := 134) rfl ?_); refine goesL_ (some 18) rfl rfl Try.func134 (by kernel_rfl) rfl #[.pointer (some ⟨g, 0, none⟩), .int .i64 14] rfl qz1 ?_; (with_reducible refine (spec_l01Cur_pick.calls g s0_0 t102 t103 14 t114 t115 t116 w0 _ ?side1 ?side2 A16.out).mono ?_); (case side1 => exact qz313 HI0.out); (case side2 => exact qz314 HI0.out); rintro e w18 ⟨rfl, hi, hb, hk⟩; refine ⟨_, rfl, ?_⟩; have n0_ := Aside0.mk (KeepBut.trans qz408 hk (.inl rfl)); have n1_ := Aside0.mk (hb); have n2_ := Aside0.mk (hi); clear HK; clear HB; clear HI0; have HK := n0_; have HB := n1_; have HI0 := n2_; clear n0_ n1_ n2_; (try clear hb); (try clear hb2); (try clear hk); (try clear hi)))
   go_ret
   exact ⟨qz13, qz313 HI0.out, qz314 HI0.out, qz408⟩

end Go.Proofs.Ytjhfjnknajhanaa.P

namespace Go.Proofs.Ytjhfjnknajhanaa.P
open Go.RowKit Go.Proofs.YtjhfjnknajhanaaW.PrintWords Go.Proofs.YtjhfjnknajhanaaW.PrintLast Go.Proofs.YtjhfjnknajhanaaW.PrintMore
attribute [local go_sem] max2_int min2_int max_two min_two max_three min_three max_four min_four   -- for this text's walks alone
set_option linter.unusedVariables false
set_option linter.unusedSimpArgs false

/-! ### spec_l01Cur_badLat: function 117 -/
def spec_l01Cur_badLat.T4 : Bool × List (List Nat × List Nat) := (true, [([], []), ([0], [0]), ([], []), ([2], [2]), ([3], [3]), ([], []), ([5], [5]), ([6], [6]), ([1, 4, 7], [1, 4, 7]), ([], []), ([9, 1], [9]), ([8, 10], [8, 10]), ([11], [11]), ([0, 1, 2, 3, 4, 5, 6, 7, 8, 9, 10, 11, 12], []), ([13, 12, 10, 0, 1, 2, 3, 4, 5, 6, 7, 8, 9, 10, 11, 12], [12, 13])])
def spec_l01Cur_badLat.B4 : List Nat := [0, 1, 0, 4, 12, 0, 32, 96, 255, 0, 515, 2047, 4095, 8191, 16383]
theorem spec_l01Cur_badLat.tab4 : rtab .any (opsOf Try.f117 4) = spec_l01Cur_badLat.T4 := by kernel_rfl
theorem spec_l01Cur_badLat.bits4 : waitsOk spec_l01Cur_badLat.T4.2 spec_l01Cur_badLat.B4 = true := by kernel_rfl
def spec_l01Cur_badLat.T6 : Bool × List (List Nat × List Nat) := (true, [([], []), ([0], [0]), ([], []), ([], []), ([3], [3]), ([4], [4]), ([2, 5], [2, 5]), ([], []), ([7, 6], [7]), ([8], [8]), ([1, 6, 0, 1, 2, 3, 4, 5, 6, 7, 8, 9], [1, 6]), ([10, 9, 8, 0, 1, 2, 3, 4, 5, 6, 7, 8, 9], [9, 10])])
def spec_l01Cur_badLat.B6 : List Nat := [0, 1, 0, 0, 8, 24, 60, 0, 252, 508, 1023, 2047]
theorem spec_l01Cur_badLat.tab6 : rtab .any (opsOf Try.f117 6) = spec_l01Cur_badLat.T6 := by kernel_rfl
theorem spec_l01Cur_badLat.bits6 : waitsOk spec_l01Cur_badLat.T6.2 spec_l01Cur_badLat.B6 = true := by kernel_rfl
set_option maxHeartbeats 8000000 in
set_option maxRecDepth 100000 in
theorem spec_l01Cur_badLat.calls (k : Nat) (g : Nat) (s0_0 : List Int) (s0_1 : Int) (s0_2 : Int) (r1 : Int) (r2 : List Int) (r3 : Int) (r4 : Int) (w0 w : World) (hI : IsS213 w0 w g s0_0 s0_1 s0_2) (hB : Below w0.heap.size w0 w) (h : spec_l01Cur_badLat.f k s0_0 s0_1 s0_2 = some (r1, r2, r3, r4)) :
  Calls Try.prog 117 #[.pointer (some ⟨g, 0, none⟩)] w fun e w' => ∃ v1_ : Value, e = .returned (.agg #[.int .i64 r1, v1_]) ∧ Kd.R (Kd.int .u64) 153 w' w.heap.size (fun _ => True) v1_ r2 ∧ IsS213 w0 w' g s0_0 r3 r4 ∧ Below w0.heap.size w0 w' ∧ KeepBut w w' g none := by
 have hu47 := Try.underlying47
 have HI0 := Aside0.mk hI
 have HK := Aside0.mk (KeepBut.refl w g none)
 have HL := Aside0.mk hB.size
 clear hI
 have HW0 := Aside0.mk hB.size
 have HB := Aside0.mk hB
 clear hB
 have H : ((spec_l01Cur_lat.f k s0_0 s0_1 s0_2).bind fun bt102 => ((spec_l01Cur_pick.f s0_0 bt102.2.2.1 bt102.2.2.2 12).bind fun bt109 => (if bt109.1 = 0 then ((spec_l01Cur_raw.f s0_0 bt109.2.1 bt109.2.2).bind fun bt112 => ((some (([bt112.1, wrap64 (bt102.1 + 1), wrap64 (bt102.1 - 1)] : List Int) : List Int)).bind fun y115 => ((spec_l01Cur_pick.f s0_0 bt112.2.1 bt112.2.2 3).bind fun bt118 => (if 0 ≤ bt118.1 then (if bt118.1 < (y115.length : Int) then (some (rd y115 bt118.1, bt102.2.1, bt118.2.1, bt118.2.2)) else (none)) else (none))))) else (if bt109.1 = 1 then ((spec_l01Cur_pick.f s0_0 bt109.2.1 bt109.2.2 (bt102.2.1.length : Int)).bind fun bt122 => ((spec_l01Cur_pick.f s0_0 bt122.2.1 bt122.2.2 256).bind fun bt125 => (if 0 ≤ bt122.1 then (if bt122.1 < (bt102.2.1.length : Int) then (some (bt102.1, (bt102.2.1.set (bt122.1 : Int).toNat (IntKind.u64.wrap (bt125.1))), bt125.2.1, bt125.2.2)) else (none)) else (none)))) else (if bt109.1 = 2 then (if bt102.2.1.length < 17592186044416 then (some (bt102.1, (bt102.2.1 ++ [1]), bt109.2.1, bt109.2.2)) else (none)) else (some (bt102.1, bt102.2.1, bt109.2.1, bt109.2.2))))))) = some (r1, r2, r3, r4) := h
 clear h
 replace H := Option.bind_eq_some_iff.mp H
 obtain ⟨⟨t102, t103, t106, t107⟩, A20, H⟩ := H
 replace H : ((spec_l01Cur_pick.f s0_0 t106 t107 12).bind fun bt109 => (if bt109.1 = 0 then ((spec_l01Cur_raw.f s0_0 bt109.2.1 bt109.2.2).bind fun bt112 => ((some (([bt112.1, wrap64 (t102 + 1), wrap64 (t102 - 1)] : List Int) : List Int)).bind fun y115 => ((spec_l01Cur_pick.f s0_0 bt112.2.1 bt112.2.2 3).bind fun bt118 => (if 0 ≤ bt118.1 then (if bt118.1 < (y115.length : Int) then (some (rd y115 bt118.1, t103, bt118.2.1, bt118.2.2)) else (none)) else (none))))) else (if bt109.1 = 1 then ((spec_l01Cur_pick.f s0_0 bt109.2.1 bt109.2.2 (t103.length : Int)).bind fun bt122 => ((spec_l01Cur_pick.f s0_0 bt122.2.1 bt122.2.2 256).bind fun bt125 => (if 0 ≤ bt122.1 then (if bt122.1 < (t103.length : Int) then (some (t102, (t103.set (bt122.1 : Int).toNat (IntKind.u64.wrap (bt125.1))), bt125.2.1, bt125.2.2)) else (none)) else (none)))) else (if bt109.1 = 2 then (if t103.length < 17592186044416 then (some (t102, (t103 ++ [1]), bt109.2.1, bt109.2.2)) else (none)) else (some (t102, t103, bt109.2.1, bt109.2.2)))))) = some (r1, r2, r3, r4) := H
 have A2 := Aside0.mk A20
 clear A20
 replace H := Option.bind_eq_some_iff.mp H
 obtain ⟨⟨t109, t110, t111⟩, A30, H⟩ := H
 replace H : (if t109 = 0 then ((spec_l01Cur_raw.f s0_0 t110 t111).bind fun bt112 => ((some (([bt112.1, wrap64 (t102 + 1), wrap64 (t102 - 1)] : List Int) : List Int)).bind fun y115 => ((spec_l01Cur_pick.f s0_0 bt112.2.1 bt112.2.2 3).bind fun bt118 => (if 0 ≤ bt118.1 then (if bt118.1 < (y115.length : Int) then (some (rd y115 bt118.1, t103, bt118.2.1, bt118.2.2)) else (none)) else (none))))) else (if t109 = 1 then ((spec_l01Cur_pick.f s0_0 t110 t111 (t103.length : Int)).bind fun bt122 => ((spec_l01Cur_pick.f s0_0 bt122.2.1 bt122.2.2 256).bind fun bt125 => (if 0 ≤ bt122.1 then (if bt122.1 < (t103.length : Int) then (some (t102, (t103.set (bt122.1 : Int).toNat (IntKind.u64.wrap (bt125.1))), bt125.2.1, bt125.2.2)) else (none)) else (none)))) else (if t109 = 2 then (if t103.length < 17592186044416 then (some (t102, (t103 ++ [1]), t110, t111)) else (none)) else (some (t102, t103, t110, t111))))) = some (r1, r2, r3, r4) := H
 have A3 := Aside0.mk A30
 clear A30
 by_cases c4 : t109 = 0
 ·rw [if_pos c4] at H
  have c4b0 : (t109 == 0) = true := beq_iff_eq.mpr c4
  have c4b1 : (t109 != 0) = false := bne_eq_false_iff_eq.mpr c4
  clear c4
  replace H := Option.bind_eq_some_iff.mp H
  obtain ⟨⟨t112, t113, t114⟩, A50, H⟩ := H
  replace H : ((some (([t112, wrap64 (t102 + 1), wrap64 (t102 - 1)] : List Int) : List Int)).bind fun y115 => ((spec_l01Cur_pick.f s0_0 t113 t114 3).bind fun bt118 => (if 0 ≤ bt118.1 then (if bt118.1 < (y115.length : Int) then (some (rd y115 bt118.1, t103, bt118.2.1, bt118.2.2)) else (none)) else (none)))) = some (r1, r2, r3, r4) := H
  have A5 := Aside0.mk A50
  clear A50
  obtain ⟨y115, hy115⟩ : ∃ y_ : List Int, y_ = (([t112, wrap64 (t102 + 1), wrap64 (t102 - 1)] : List Int)) := ⟨_, rfl⟩
  replace H : ((spec_l01Cur_pick.f s0_0 t113 t114 3).bind fun bt118 => (if 0 ≤ bt118.1 then (if bt118.1 < (y115.length : Int) then (some (rd y115 bt118.1, t103, bt118.2.1, bt118.2.2)) else (none)) else (none))) = some (r1, r2, r3, r4) := by first | (rw [hy115]; with_reducible exact H) | (have H2_ := (Option.bind_some _ _).symm.trans H; rw [hy115]; with_reducible exact H2_) | (have H2_ := (Option.bind_some _ _).symm.trans H; with_reducible exact H2_) | with_reducible exact H | (rw [hy115]; exact H) | exact H
  have Ny115 := Aside0.mk hy115
  clear hy115
  replace H := Option.bind_eq_some_iff.mp H
  obtain ⟨⟨t118, t119, t120⟩, A60, H⟩ := H
  replace H : (if 0 ≤ t118 then (if t118 < (y115.length : Int) then (some (rd y115 t118, t103, t119, t120)) else (none)) else (none)) = some (r1, r2, r3, r4) := H
  have A6 := Aside0.mk A60
  clear A60
  by_cases c7 : 0 ≤ t118
  ·rw [if_pos c7] at H
   have c7b0 : decide (0 ≤ t118) = true := decide_eq_true c7
   clear c7
   by_cases c8 : t118 < (y115.length : Int)
   ·rw [if_pos c8] at H
    have c8b0 : decide (t118 < (y115.length : Int)) = true := decide_eq_true c8
    clear c8
    simp only [Option.some.injEq, Prod.mk.injEq] at H
    obtain ⟨rfl, rfl, rfl, rfl⟩ := H
    go_enter Try.func117, Try.ntmps117
    try go_wp2_with (first | ((with_reducible refine gate_dst (N := 2) rfl ?_); refine box_event ?hg (N := 2) ?hd (cs := #[.int .i64 0, .slice none 0 0]) (t := 47) ?hr ?_; (case hd => rfl); (case hg => rfl); (case hr => exact qz5); intro gb101 hg w9 hbox hb; have n0_ := Aside0.mk (IsS213.below (qz313 HI0.out) hb); have n1_ := Aside0.mk (KeepBut.trans qz408 (KeepBut.of_below hb g none) (.inl rfl)); have n2_ := Aside0.mk (below_step (qz314 HI0.out) hb); have n3_ := Aside0.mk (hbox); have n4_ := Aside0.mk ((qz414 : w.heap.size ≤ gb101)); have n5_ := Aside0.mk ((Nat.le_trans HW0.out (qz414 : w.heap.size ≤ gb101) : w0.heap.size ≤ gb101)); have n6_ := Aside0.mk ((qz415 HI0.out : g ≠ gb101)); have n7_ := Aside0.mk ((qz416 HI0.out : gb101 ≠ g)); clear HI0; clear HK; clear HB; have HI0 := n0_; have HK := n1_; have HB := n2_; have BK101 := n3_; have GW101 := n4_; have GE101 := n5_; have NB0_101 := n6_; have NB101_0 := n7_; clear n0_ n1_ n2_ n3_ n4_ n5_ n6_ n7_; clear hb hbox hg) | ((with_reducible refine gate_callee (f := 210) rfl ?_); refine goesL_ (some 5) rfl rfl Try.func210 (by kernel_rfl) rfl #[.pointer (some ⟨g, 0, none⟩)] rfl qz1 ?_; (with_reducible refine (spec_l01Cur_lat.calls k g s0_0 s0_1 s0_2 t102 t103 t106 t107 w0 _ ?side1 ?side2 A2.out).mono ?_); (case side1 => exact qz289 HI0.out NB0_101.out); (case side2 => exact qz290 HI0.out GE101.out); rintro e w10 ⟨v104, rfl, ho0, hi, hb, hk⟩; refine ⟨_, rfl, ?_⟩; have n0_ := Aside0.mk (KeepBut.blk hk (g' := gb101) (o := .cells #[.int .i64 0, .slice none 0 0] 47 (0, 0)) (qz8 BK101.out) NB101_0.out (by simp)); have n1_ := Aside0.mk (Kd.R_lower ho0 (keep_size (w := w) (g := g) (row := none) (qz417 GW101.out))); have n2_ := Aside0.mk (KeepBut.trans (qz417 GW101.out) hk (.inl rfl)); have n3_ := Aside0.mk (hb); have n4_ := Aside0.mk (hi); clear BK101; clear HK; clear HB; clear HI0; have BK101 := n0_; have HO105 := n1_; have HK := n2_; have HB := n3_; have HI0 := n4_; clear n0_ n1_ n2_ n3_ n4_; (try clear hb); (try clear hb2); (try clear hk); (try clear hi); (try clear ho0)) | ((with_reducible refine gate_dst (N := 3) rfl ?_); refine box_event ?hg (N := 3) ?hd (cs := #[.int .i64 0, .slice none 0 0]) (t := 47) ?hr ?_; (case hd => rfl); (case hg => rfl); (case hr => exact qz5); intro gb108 hg w11 hbox hb; have n0_ := Aside0.mk (Kd.R_below (qz21 HO105.out) hb); have n1_ := Aside0.mk (IsS213.below (qz289 HI0.out NB0_101.out) hb); have n2_ := Aside0.mk (blk_below (g := gb101) (o := .cells #[.int .i64 0, .slice none 0 0] 47 (0, 0)) (qz8 BK101.out) hb); have n3_ := Aside0.mk (KeepBut.trans (qz417 GW101.out) (KeepBut.of_below hb g none) (.inl rfl)); have n4_ := Aside0.mk (below_step (qz290 HI0.out GE101.out) hb); have n5_ := Aside0.mk (hbox); have n6_ := Aside0.mk ((qz418 GW101.out : w.heap.size ≤ gb108)); have n7_ := Aside0.mk ((Nat.le_trans HW0.out (qz418 GW101.out : w.heap.size ≤ gb108) : w0.heap.size ≤ gb108)); have n8_ := Aside0.mk ((qz39 BK101.out : gb101 ≠ gb108)); have n9_ := Aside0.mk ((qz40 BK101.out : gb108 ≠ gb101)); have n10_ := Aside0.mk ((qz435 HI0.out NB0_101.out : g ≠ gb108)); have n11_ := Aside0.mk ((qz436 HI0.out NB0_101.out : gb108 ≠ g)); clear HO105; clear HI0; clear BK101; clear HK; clear HB; have HO105 := n0_; have HI0 := n1_; have BK101 := n2_; have HK := n3_; have HB := n4_; have BK108 := n5_; have GW108 := n6_; have GE108 := n7_; have NB101_108 := n8_; have NB108_101 := n9_; have NB0_108 := n10_; have NB108_0 := n11_; clear n0_ n1_ n2_ n3_ n4_ n5_ n6_ n7_ n8_ n9_ n10_ n11_; clear hb hbox hg; have hnb12 := NB108_101.out; have hnc12 := NB101_108.out; have hnb13 := NB108_0.out; have hnc13 := NB0_108.out; have hcz14_0 : w11.cell? ⟨gb108, 0, none⟩ = some (.int .i64 0) := (blk_cell BK108.out 0).trans rfl; have hcz14_1 : w11.cell? ⟨gb108, 1, none⟩ = some (.slice none 0 0) := (blk_cell BK108.out 1).trans rfl; have hfz14_0 := blk_frozen BK108.out 0; have hfz14_1 := blk_frozen BK108.out 1; obtain ⟨Ao15, co15, eo15⟩ := Kd.R_slice HO105.out; subst eo15) | ((with_reducible refine gate_callee (f := 134) rfl ?_); refine goesL_ (some 7) rfl rfl Try.func134 (by kernel_rfl) rfl #[.pointer (some ⟨g, 0, none⟩), .int .i64 12] rfl qz1 ?_; (with_reducible refine (spec_l01Cur_pick.calls g s0_0 t106 t107 12 t109 t110 t111 w0 _ ?side1 ?side2 A3.out).mono ?_); (case side1 => exact qz295 HI0.out NB0_101.out NB0_108.out); (case side2 => exact qz296 HI0.out GE101.out GE108.out); rintro e w16 ⟨rfl, hi, hb, hk⟩; refine ⟨_, rfl, ?_⟩; have n0_ := Aside0.mk (KeepBut.blk hk (g' := gb101) (o := .cells #[.int .i64 0, .slice none 0 0] 47 (0, 0)) (qz41 NB101_108.out BK101.out) NB101_0.out (by simp)); have n1_ := Aside0.mk (Kd.R_mono (Kd.R_keep (IsS213.apart (show IsS213 w0 _ g s0_0 t106 t107 from by repeat (first | (with_reducible first | exact HI0.out | apply IsS213.alloc | apply IsS213.drewN | apply IsS213.drew | apply IsS213.set_1 | apply IsS213.set_2 | refine IsS213.far ?_ NB0_101.out _ | refine IsS213.far ?_ NB0_108.out _) | exact HI0.out)) (by (with_reducible repeat (first | apply Kd.R_alloc | apply Kd.R_drewN | apply Kd.R_drew)); exact (Kd.R_mono (Kd.R_far (p := ⟨gb108, 1, none⟩) (Kd.R_far (p := ⟨gb108, 0, none⟩) (Kd.R_types HO105.out BK108.out (by decide)) (fun _ hk => hk.2) (.int .i64 t102)) (fun _ hk => hk.2) (.slice Ao15 t103.length co15)) (fun _ h_ => h_.1))) (by decide)) hk (fun _ h => h.2)) (fun _ h => h.1)); have n2_ := Aside0.mk (KeepBut.blk hk (g' := gb108) (o := .cells #[.int .i64 t102, .slice Ao15 t103.length co15] 47 (0, 0)) (qz167 BK108.out) NB108_0.out (by simp)); have n3_ := Aside0.mk (KeepBut.trans (qz421 GW101.out GW108.out) hk (.inl rfl)); have n4_ := Aside0.mk (hb); have n5_ := Aside0.mk (hi); clear BK101; clear HO105; clear BK108; clear HK; clear HB; clear HI0; have BK101 := n0_; have HO105 := n1_; have BK108 := n2_; have HK := n3_; have HB := n4_; have HI0 := n5_; clear n0_ n1_ n2_ n3_ n4_ n5_; (try clear hb); (try clear hb2); (try clear hk); (try clear hi)))
    have pi121 : (0 ≤ (t118 : Int)) = True := eq_true (of_decide_eq_true qz4)
    have qi121 : (t118 < (y115.length : Int)) = True := eq_true (of_decide_eq_true qz4)
    have n0_ := Aside0.mk (Kd.R_drew HO105.out)
    have n1_ := Aside0.mk (blk_drew BK101.out)
    have n2_ := Aside0.mk (blk_drew BK108.out)
    have n3_ := Aside0.mk (IsS213.drew HI0.out)
    have n4_ := Aside0.mk (keep_drew HK.out)
    have n5_ := Aside0.mk (below_drew1 HB.out)
    clear HO105
    clear BK101
    clear BK108
    clear HI0
    clear HK
    clear HB
    have HO105 := n0_
    have BK101 := n1_
    have BK108 := n2_
    have HI0 := n3_
    have HK := n4_
    have HB := n5_
    clear n0_ n1_ n2_ n3_ n4_ n5_
    refine start_ (n := 15) (S := fun w' => w'.cell? ⟨gb108, 0, none⟩ = some (.int .i64 t102) ∧ w'.cell? ⟨gb108, 1, none⟩ = some (.slice Ao15 t103.length co15)) (ds := [14]) #[false, false, false, false, false, false, false, false, false, false, false, false, false, false, false] (by kernel_rfl) rfl rfl ⟨(blk_cell BK108.out 0).trans rfl, (blk_cell BK108.out 1).trans rfl⟩ (fun hHeld => ?_); refine with_tabW spec_l01Cur_badLat.tab4 spec_l01Cur_badLat.bits4 (fun HT_ HW_ => ?_)
    generalize w16.drew = w17 at HO105 BK101 BK108 HI0 HK HB hHeld ⊢
    refine pure_ (i := 0) (N := some 10) (v := ?_) (a' := ?_) #[true, false, false, false, false, false, false, false, false, false, false, false, false, false, false] rfl rfl (any_of HT_.out (by kernel_rfl)) (fun _ _ _ h => h) (Or.inl ⟨by rfl, ?_⟩) ?_ ?_
    rotate_left
    ·intro w'
     go_simp
     with_reducible rfl
    rotate_left
    ·simp only [Act.put, List.setIfInBounds_toArray, List.set_cons_zero, List.set_cons_succ, i64_w, i32_w]
     rfl
    refine pure_ (i := 2) (N := some 12) (v := ?_) (a' := ?_) #[true, false, true, false, false, false, false, false, false, false, false, false, false, false, false] rfl rfl (any_of HT_.out (by kernel_rfl)) (fun _ _ _ h => h) (Or.inl ⟨by rfl, ?_⟩) ?_ ?_
    rotate_left
    ·intro w'
     go_simp
     with_reducible rfl
    rotate_left
    ·simp only [Act.put, List.setIfInBounds_toArray, List.set_cons_zero, List.set_cons_succ, i64_w, i32_w]
     rfl
    refine pure_ (i := 5) (N := some 15) (v := ?_) (a' := ?_) #[true, false, true, false, false, true, false, false, false, false, false, false, false, false, false] rfl rfl (any_of HT_.out (by kernel_rfl)) (fun _ _ _ h => h) (Or.inl ⟨by rfl, ?_⟩) ?_ ?_
    rotate_left
    ·intro w'
     go_simp
     with_reducible rfl
    rotate_left
    ·simp only [Act.put, List.setIfInBounds_toArray, List.set_cons_zero, List.set_cons_succ, i64_w, i32_w]
     rfl
    refine pure_ (i := 9) (N := some 19) (v := ?_) (a' := ?_) #[true, false, true, false, false, true, false, false, false, true, false, false, false, false, false] rfl rfl (any_of HT_.out (by kernel_rfl)) (fun _ _ _ h => h) (Or.inl ⟨by rfl, ?_⟩) ?_ ?_
    rotate_left
    ·intro w'
     go_simp
     with_reducible rfl
    rotate_left
    ·simp only [Act.put, List.setIfInBounds_toArray, List.set_cons_zero, List.set_cons_succ, i64_w, i32_w]
     rfl
    refine take_ (i := 3) (N := some 13) (v := ?_) (a' := ?_) #[true, false, true, true, false, true, false, false, false, true, false, false, false, false, false] rfl rfl (take_ofW HT_.out HW_.out (by kernel_rfl)) (fun _ _ _ h => h) (Or.inl ⟨by rfl, ?_⟩) hHeld ?_ ?_
    rotate_left
    ·rintro w' ⟨s0, s1⟩
     go_simp
     with_reducible rfl
    rotate_left
    ·simp only [Act.put, List.setIfInBounds_toArray, List.set_cons_zero, List.set_cons_succ, i64_w, i32_w]
     rfl
    refine pure_ (i := 4) (N := some 14) (v := ?_) (a' := ?_) #[true, false, true, true, true, true, false, false, false, true, false, false, false, false, false] rfl rfl (any_of HT_.out (by kernel_rfl)) (fun _ _ _ h => h) (Or.inl ⟨by rfl, ?_⟩) ?_ ?_
    rotate_left
    ·intro w'
     go_simp
     with_reducible rfl
    rotate_left
    ·simp only [Act.put, List.setIfInBounds_toArray, List.set_cons_zero, List.set_cons_succ, i64_w, i32_w]
     rfl
    refine take_ (i := 6) (N := some 16) (v := ?_) (a' := ?_) #[true, false, true, true, true, true, true, false, false, true, false, false, false, false, false] rfl rfl (take_ofW HT_.out HW_.out (by kernel_rfl)) (fun _ _ _ h => h) (Or.inl ⟨by rfl, ?_⟩) hHeld ?_ ?_
    rotate_left
    ·rintro w' ⟨s0, s1⟩
     go_simp
     with_reducible rfl
    rotate_left
    ·simp only [Act.put, List.setIfInBounds_toArray, List.set_cons_zero, List.set_cons_succ, i64_w, i32_w]
     rfl
    refine pure_ (i := 7) (N := some 17) (v := ?_) (a' := ?_) #[true, false, true, true, true, true, true, true, false, true, false, false, false, false, false] rfl rfl (any_of HT_.out (by kernel_rfl)) (fun _ _ _ h => h) (Or.inl ⟨by rfl, ?_⟩) ?_ ?_
    rotate_left
    ·intro w'
     go_simp
     with_reducible rfl
    rotate_left
    ·simp only [Act.put, List.setIfInBounds_toArray, List.set_cons_zero, List.set_cons_succ, i64_w, i32_w]
     rfl
    refine one_ (i := 1) (N := some 11) #[true, true, true, true, true, true, true, true, false, true, false, false, false, false, false] rfl rfl (one_of HT_.out (by kernel_rfl)) (by decide) (fun K hK => ?_)
    refine goes_ Try.func135 (by kernel_rfl) rfl #[.pointer (some ⟨g, 0, none⟩)] (by rfl) rfl rfl qz1 ?_
    with_reducible refine (spec_l01Cur_raw.calls g s0_0 t110 t111 t112 t113 t114 w0 _ ?side1 ?side2 A5.out).mono ?_
    (case side1 => exact qz295 HI0.out NB0_101.out NB0_108.out)
    (case side2 => exact qz296 HI0.out GE101.out GE108.out)
    rintro e w18 ⟨rfl, hi, hb, hk⟩
    refine ⟨_, rfl, ?_⟩
    have n0_ := Aside0.mk (KeepBut.blk hk (g' := gb101) (o := .cells #[.int .i64 0, .slice none 0 0] 47 (0, 0)) (qz8 BK101.out) NB101_0.out (by simp))
    have n1_ := Aside0.mk (Kd.R_mono (Kd.R_keep (IsS213.apart (show IsS213 w0 _ g s0_0 t110 t111 from by repeat (first | (with_reducible first | exact HI0.out | apply IsS213.alloc | apply IsS213.drewN | apply IsS213.drew | apply IsS213.set_1 | apply IsS213.set_2 | refine IsS213.far ?_ NB0_101.out _ | refine IsS213.far ?_ NB0_108.out _) | exact HI0.out)) (qz21 HO105.out) (by decide)) hk (fun _ h => h.2)) (fun _ h => h.1))
    have n2_ := Aside0.mk (KeepBut.blk hk (g' := gb108) (o := .cells #[.int .i64 t102, .slice Ao15 t103.length co15] 47 (0, 0)) (qz8 BK108.out) NB108_0.out (by simp))
    have n3_ := Aside0.mk (KeepBut.trans (qz421 GW101.out GW108.out) hk (.inl rfl))
    have n4_ := Aside0.mk (hb)
    have n5_ := Aside0.mk (hi)
    clear BK101
    clear HO105
    clear BK108
    clear HK
    clear HB
    clear HI0
    have BK101 := n0_
    have HO105 := n1_
    have BK108 := n2_
    have HK := n3_
    have HB := n4_
    have HI0 := n5_
    clear n0_ n1_ n2_ n3_ n4_ n5_
    (try clear hb)
    (try clear hb2)
    (try clear hk)
    (try clear hi)
    refine hK.out _ _ ⟨(blk_cell BK108.out 0).trans rfl, (blk_cell BK108.out 1).trans rfl⟩ (fun hHeld => ?_)
    clear hK K
    refine norm_ (a' := ?_) ?_ ?_
    rotate_left
    ·show Act.put _ (some 11) _ = _
     simp only [Act.put, List.setIfInBounds_toArray, List.set_cons_zero, List.set_cons_succ, i64_w, i32_w]
     rfl
    refine join_ (σ := Value × Addr) 4 #[true, true, true, true, true, true, true, true, true, true, true, false, false, false, false] (fun s_ => [(18, s_.1), (20, .int .i64 t118)]) (fun s_ w' => (w'.cell? ⟨gb108, 0, none⟩ = some (.int .i64 t102) ∧ w'.cell? ⟨gb108, 1, none⟩ = some (.slice Ao15 t103.length co15)) ∧ (Kd.R (Kd.int .u64) 153 w' w.heap.size (fun _ => True) (.slice Ao15 t103.length co15) t103) ∧ (Kd.R (Kd.int .i64) 3 w' w.heap.size (fun _ => True) s_.1 y115) ∧ (∃ c_, (s_.1 : Value) = .slice (some s_.2) y115.length c_) ∧ (w'.heap[gb101]? = some (.cells #[.int .i64 0, .slice none 0 0] 47 (0, 0))) ∧ (w'.heap[gb108]? = some (.cells #[.int .i64 t102, .slice Ao15 t103.length co15] 47 (0, 0))) ∧ (IsS213 w0 w' g s0_0 t119 t120) ∧ (KeepBut w w' g none) ∧ (Below w0.heap.size w0 w')) ?_ ?_
    rotate_left
    ·intro hCont
     refine two_ (i := 8) (j := 10) (Ni := some 18) (Nj := some 20) #[true, true, true, true, true, true, true, true, true, true, false, false, false, false, false] #[true, true, true, true, true, true, true, true, false, true, true, false, false, false, false] rfl rfl rfl rfl (two_of HT_.out (by kernel_rfl)) (by decide) (by decide) (fun K hK => ?_) (fun K hK => ?_)
     ·skip
      refine Kd.R_lit_step (Kd.int .i64) _ 3 ?hg (N := 18) ?hd (xs := ([t112, wrap64 (t102 + 1), wrap64 (t102 - 1)] : List Int)) (inner := [.int .i64 t112, .int .i64 (wrap64 (t102 + 1)), .int .i64 (wrap64 (t102 - 1))]) (ok := fun _ => True) (okp := fun _ => True) ?hr ?hp (fun _ hk => hk) trivial (Below.refl _ _) (Nat.le_refl _) (by simp) ?_; (case hd => rfl); (case hg => rfl); (case hr => exact qz5); (case hp => exact qz442)
      intro v116 w19 ho20 hb hg_ hnew_
      clear hg_ hnew_
      (first | rw [← Ny115.out] at ho20 | (simp only [Int.reduceToNat] at ho20; rw [← Ny115.out] at ho20))
      have n0_ := Aside0.mk (Kd.R_below (qz21 HO105.out) hb)
      have n1_ := Aside0.mk (Kd.R_lower ho20 (keep_size (w := w) (g := g) (row := none) (qz421 GW101.out GW108.out)))
      have n2_ := Aside0.mk (IsS213.below (qz295 HI0.out NB0_101.out NB0_108.out) hb)
      have n3_ := Aside0.mk (blk_below (g := gb101) (o := .cells #[.int .i64 0, .slice none 0 0] 47 (0, 0)) (qz8 BK101.out) hb)
      have n4_ := Aside0.mk (blk_below (g := gb108) (o := .cells #[.int .i64 t102, .slice Ao15 t103.length co15] 47 (0, 0)) (qz8 BK108.out) hb)
      have n5_ := Aside0.mk (KeepBut.trans (qz421 GW101.out GW108.out) (KeepBut.of_below hb g none) (.inl rfl))
      have n6_ := Aside0.mk (below_step (qz296 HI0.out GE101.out GE108.out) hb)
      clear HO105
      clear HI0
      clear BK101
      clear BK108
      clear HK
      clear HB
      have HO105 := n0_
      have HO117 := n1_
      have HI0 := n2_
      have BK101 := n3_
      have BK108 := n4_
      have HK := n5_
      have HB := n6_
      clear n0_ n1_ n2_ n3_ n4_ n5_ n6_
      clear hb ho20
      obtain ⟨Ao21, co21, eo21⟩ := Kd.R_slice HO117.out
      subst eo21
      obtain ⟨ado21, fo21, _⟩ := Kd.at_int (Kd.R_reads' HO117.out).2.2 0 (by decide) (by rw [Ny115.out]; simp)
      cases fo21
      refine hK.out _ _ ⟨(blk_cell BK108.out 0).trans rfl, (blk_cell BK108.out 1).trans rfl⟩ (fun hHeld => ?_)
      clear hK K
      refine norm_ (a' := ?_) ?_ ?_
      rotate_left
      ·show Act.put _ (some 18) _ = _
       simp only [Act.put, List.setIfInBounds_toArray, List.set_cons_zero, List.set_cons_succ, i64_w, i32_w]
       rfl
      refine one_ (i := 10) (N := some 20) #[true, true, true, true, true, true, true, true, true, true, true, false, false, false, false] rfl rfl (one_of HT_.out (by kernel_rfl)) (by decide) (fun K hK => ?_)
      refine goes_ Try.func134 (by kernel_rfl) rfl #[.pointer (some ⟨g, 0, none⟩), .int .i64 3] (by rfl) rfl rfl qz1 ?_
      with_reducible refine (spec_l01Cur_pick.calls g s0_0 t113 t114 3 t118 t119 t120 w0 _ ?side1 ?side2 A6.out).mono ?_
      (case side1 => exact qz295 HI0.out NB0_101.out NB0_108.out)
      (case side2 => exact qz296 HI0.out GE101.out GE108.out)
      rintro e w22 ⟨rfl, hi, hb, hk⟩
      refine ⟨_, rfl, ?_⟩
      have n0_ := Aside0.mk (KeepBut.blk hk (g' := gb101) (o := .cells #[.int .i64 0, .slice none 0 0] 47 (0, 0)) (qz8 BK101.out) NB101_0.out (by simp))
      have n1_ := Aside0.mk (Kd.R_mono (Kd.R_keep (IsS213.apart (show IsS213 w0 _ g s0_0 t113 t114 from by repeat (first | (with_reducible first | exact HI0.out | apply IsS213.alloc | apply IsS213.drewN | apply IsS213.drew | apply IsS213.set_1 | apply IsS213.set_2 | refine IsS213.far ?_ NB0_101.out _ | refine IsS213.far ?_ NB0_108.out _) | exact HI0.out)) (qz21 HO105.out) (by decide)) hk (fun _ h => h.2)) (fun _ h => h.1))
      have n2_ := Aside0.mk (KeepBut.blk hk (g' := gb108) (o := .cells #[.int .i64 t102, .slice Ao15 t103.length co15] 47 (0, 0)) (qz8 BK108.out) NB108_0.out (by simp))
      have n3_ := Aside0.mk (Kd.R_mono (Kd.R_keep (IsS213.apart (show IsS213 w0 _ g s0_0 t113 t114 from by repeat (first | (with_reducible first | exact HI0.out | apply IsS213.alloc | apply IsS213.drewN | apply IsS213.drew | apply IsS213.set_1 | apply IsS213.set_2 | refine IsS213.far ?_ NB0_101.out _ | refine IsS213.far ?_ NB0_108.out _) | exact HI0.out)) (qz21 HO117.out) (by decide)) hk (fun _ h => h.2)) (fun _ h => h.1))
      have n4_ := Aside0.mk (KeepBut.trans (qz421 GW101.out GW108.out) hk (.inl rfl))
      have n5_ := Aside0.mk (hb)
      have n6_ := Aside0.mk (hi)
      clear BK101
      clear HO105
      clear BK108
      clear HO117
      clear HK
      clear HB
      clear HI0
      have BK101 := n0_
      have HO105 := n1_
      have BK108 := n2_
      have HO117 := n3_
      have HK := n4_
      have HB := n5_
      have HI0 := n6_
      clear n0_ n1_ n2_ n3_ n4_ n5_ n6_
      (try clear hb)
      (try clear hb2)
      (try clear hk)
      (try clear hi)
      refine hK.out _ _ ⟨(blk_cell BK108.out 0).trans rfl, (blk_cell BK108.out 1).trans rfl⟩ (fun hHeld => ?_)
      clear hK K
      refine norm_ (a' := ?_) ?_ ?_
      rotate_left
      ·show Act.put _ (some 20) _ = _
       simp only [Act.put, List.setIfInBounds_toArray, List.set_cons_zero, List.set_cons_succ, i64_w, i32_w]
       rfl
      exact norm_ qz85 (hCont (.slice (some ado21) y115.length co21, ado21) _ ⟨hHeld, (qz21 HO105.out), (qz21 HO117.out), ⟨_, rfl⟩, (qz8 BK101.out), (qz8 BK108.out), (qz295 HI0.out NB0_101.out NB0_108.out), (qz421 GW101.out GW108.out), (qz296 HI0.out GE101.out GE108.out)⟩)
     ·skip
      refine goes_ Try.func134 (by kernel_rfl) rfl #[.pointer (some ⟨g, 0, none⟩), .int .i64 3] (by rfl) rfl rfl qz1 ?_
      with_reducible refine (spec_l01Cur_pick.calls g s0_0 t113 t114 3 t118 t119 t120 w0 _ ?side1 ?side2 A6.out).mono ?_
      (case side1 => exact qz295 HI0.out NB0_101.out NB0_108.out)
      (case side2 => exact qz296 HI0.out GE101.out GE108.out)
      rintro e w19 ⟨rfl, hi, hb, hk⟩
      refine ⟨_, rfl, ?_⟩
      have n0_ := Aside0.mk (KeepBut.blk hk (g' := gb101) (o := .cells #[.int .i64 0, .slice none 0 0] 47 (0, 0)) (qz8 BK101.out) NB101_0.out (by simp))
      have n1_ := Aside0.mk (Kd.R_mono (Kd.R_keep (IsS213.apart (show IsS213 w0 _ g s0_0 t113 t114 from by repeat (first | (with_reducible first | exact HI0.out | apply IsS213.alloc | apply IsS213.drewN | apply IsS213.drew | apply IsS213.set_1 | apply IsS213.set_2 | refine IsS213.far ?_ NB0_101.out _ | refine IsS213.far ?_ NB0_108.out _) | exact HI0.out)) (qz21 HO105.out) (by decide)) hk (fun _ h => h.2)) (fun _ h => h.1))
      have n2_ := Aside0.mk (KeepBut.blk hk (g' := gb108) (o := .cells #[.int .i64 t102, .slice Ao15 t103.length co15] 47 (0, 0)) (qz8 BK108.out) NB108_0.out (by simp))
      have n3_ := Aside0.mk (KeepBut.trans (qz421 GW101.out GW108.out) hk (.inl rfl))
      have n4_ := Aside0.mk (hb)
      have n5_ := Aside0.mk (hi)
      clear BK101
      clear HO105
      clear BK108
      clear HK
      clear HB
      clear HI0
      have BK101 := n0_
      have HO105 := n1_
      have BK108 := n2_
      have HK := n3_
      have HB := n4_
      have HI0 := n5_
      clear n0_ n1_ n2_ n3_ n4_ n5_
      (try clear hb)
      (try clear hb2)
      (try clear hk)
      (try clear hi)
      refine hK.out _ _ ⟨(blk_cell BK108.out 0).trans rfl, (blk_cell BK108.out 1).trans rfl⟩ (fun hHeld => ?_)
      clear hK K
      refine norm_ (a' := ?_) ?_ ?_
      rotate_left
      ·show Act.put _ (some 20) _ = _
       simp only [Act.put, List.setIfInBounds_toArray, List.set_cons_zero, List.set_cons_succ, i64_w, i32_w]
       rfl
      refine one_ (i := 8) (N := some 18) #[true, true, true, true, true, true, true, true, true, true, true, false, false, false, false] rfl rfl (one_of HT_.out (by kernel_rfl)) (by decide) (fun K hK => ?_)
      refine Kd.R_lit_step (Kd.int .i64) _ 3 ?hg (N := 18) ?hd (xs := ([t112, wrap64 (t102 + 1), wrap64 (t102 - 1)] : List Int)) (inner := [.int .i64 t112, .int .i64 (wrap64 (t102 + 1)), .int .i64 (wrap64 (t102 - 1))]) (ok := fun _ => True) (okp := fun _ => True) ?hr ?hp (fun _ hk => hk) trivial (Below.refl _ _) (Nat.le_refl _) (by simp) ?_; (case hd => rfl); (case hg => rfl); (case hr => exact qz5); (case hp => exact qz442)
      intro v116 w20 ho21 hb hg_ hnew_
      clear hg_ hnew_
      (first | rw [← Ny115.out] at ho21 | (simp only [Int.reduceToNat] at ho21; rw [← Ny115.out] at ho21))
      have n0_ := Aside0.mk (Kd.R_below (qz21 HO105.out) hb)
      have n1_ := Aside0.mk (Kd.R_lower ho21 (keep_size (w := w) (g := g) (row := none) (qz421 GW101.out GW108.out)))
      have n2_ := Aside0.mk (IsS213.below (qz295 HI0.out NB0_101.out NB0_108.out) hb)
      have n3_ := Aside0.mk (blk_below (g := gb101) (o := .cells #[.int .i64 0, .slice none 0 0] 47 (0, 0)) (qz8 BK101.out) hb)
      have n4_ := Aside0.mk (blk_below (g := gb108) (o := .cells #[.int .i64 t102, .slice Ao15 t103.length co15] 47 (0, 0)) (qz8 BK108.out) hb)
      have n5_ := Aside0.mk (KeepBut.trans (qz421 GW101.out GW108.out) (KeepBut.of_below hb g none) (.inl rfl))
      have n6_ := Aside0.mk (below_step (qz296 HI0.out GE101.out GE108.out) hb)
      clear HO105
      clear HI0
      clear BK101
      clear BK108
      clear HK
      clear HB
      have HO105 := n0_
      have HO117 := n1_
      have HI0 := n2_
      have BK101 := n3_
      have BK108 := n4_
      have HK := n5_
      have HB := n6_
      clear n0_ n1_ n2_ n3_ n4_ n5_ n6_
      clear hb ho21
      obtain ⟨Ao22, co22, eo22⟩ := Kd.R_slice HO117.out
      subst eo22
      obtain ⟨ado22, fo22, _⟩ := Kd.at_int (Kd.R_reads' HO117.out).2.2 0 (by decide) (by rw [Ny115.out]; simp)
      cases fo22
      refine hK.out _ _ ⟨(blk_cell BK108.out 0).trans rfl, (blk_cell BK108.out 1).trans rfl⟩ (fun hHeld => ?_)
      clear hK K
      refine norm_ (a' := ?_) ?_ ?_
      rotate_left
      ·show Act.put _ (some 18) _ = _
       simp only [Act.put, List.setIfInBounds_toArray, List.set_cons_zero, List.set_cons_succ, i64_w, i32_w]
       rfl
      exact norm_ qz85 (hCont (.slice (some ado22) y115.length co22, ado22) _ ⟨hHeld, (qz21 HO105.out), (qz21 HO117.out), ⟨_, rfl⟩, (qz8 BK101.out), (qz8 BK108.out), (qz295 HI0.out NB0_101.out NB0_108.out), (qz421 GW101.out GW108.out), (qz296 HI0.out GE101.out GE108.out)⟩)
    rintro ⟨v116, adz_v116⟩ w23 ⟨hS_, h0_, h1_, h2_, h3_, h4_, h5_, h6_, h7_⟩
    have n0_ : Aside0 (Kd.R (Kd.int .u64) 153 w23 w.heap.size (fun _ => True) (.slice Ao15 t103.length co15) t103) := ⟨h0_⟩
    have n1_ : Aside0 (Kd.R (Kd.int .i64) 3 w23 w.heap.size (fun _ => True) v116 y115) := ⟨h1_⟩
    have n2_ : Aside0 (∃ c_, (v116 : Value) = .slice (some adz_v116) y115.length c_) := ⟨h2_⟩
    have n3_ : Aside0 (w23.heap[gb101]? = some (.cells #[.int .i64 0, .slice none 0 0] 47 (0, 0))) := ⟨h3_⟩
    have n4_ : Aside0 (w23.heap[gb108]? = some (.cells #[.int .i64 t102, .slice Ao15 t103.length co15] 47 (0, 0))) := ⟨h4_⟩
    have n5_ : Aside0 (IsS213 w0 w23 g s0_0 t119 t120) := ⟨h5_⟩
    have n6_ : Aside0 (KeepBut w w23 g none) := ⟨h6_⟩
    have n7_ : Aside0 (Below w0.heap.size w0 w23) := ⟨h7_⟩
    clear HO105
    clear BK101
    clear BK108
    clear HI0
    clear HK
    clear HB
    clear h0_ h1_ h2_ h3_ h4_ h5_ h6_ h7_
    have HO105 := n0_
    have HO117 := n1_
    have HA_HO117 := n2_
    have BK101 := n3_
    have BK108 := n4_
    have HI0 := n5_
    have HK := n6_
    have HB := n7_
    clear n0_ n1_ n2_ n3_ n4_ n5_ n6_ n7_
    have hHeld : w23.cell? ⟨gb108, 0, none⟩ = some (.int .i64 t102) ∧ w23.cell? ⟨gb108, 1, none⟩ = some (.slice Ao15 t103.length co15) := hS_
    obtain ⟨co24, eo24⟩ := HA_HO117.out
    clear HA_HO117
    subst eo24
    refine norm_ (a' := ?_) ?_ ?_
    rotate_left
    ·simp only [putAll, Act.put, List.setIfInBounds_toArray, List.set_cons_zero, List.set_cons_succ]
     rfl
    refine pure_ (i := 11) (N := some 21) (v := ?_) (a' := ?_) #[true, true, true, true, true, true, true, true, true, true, true, true, false, false, false] rfl rfl (any_of HT_.out (by kernel_rfl)) (fun _ _ _ h => h) (Or.inl ⟨by rfl, ?_⟩) ?_ ?_
    rotate_left
    ·intro w'
     go_simp
     with_reducible rfl
    rotate_left
    ·simp only [Act.put, List.setIfInBounds_toArray, List.set_cons_zero, List.set_cons_succ, i64_w, i32_w]
     rfl
    refine one_ (i := 12) (N := some 22) #[true, true, true, true, true, true, true, true, true, true, true, true, true, false, false] rfl rfl (one_of HT_.out (by kernel_rfl)) (by decide) (fun K hK => ?_)
    (have p121 : 0 ≤ (t118 : Int) := of_decide_eq_true qz4; have q121 : t118 < (y115.length : Int) := of_decide_eq_true qz4; obtain ⟨ad121, e121, hx121_0⟩ := Kd.at_int (Kd.R_reads' HO117.out).2.2 t118 p121 q121; obtain rfl : adz_v116 = ad121 := (by injection e121))
    refine value_ (w1 := ?_) (v := ?_) (by rfl) rfl ?_ ?_
    rotate_left 2
    ·go_simp
     constructor
     ·rfl
     ·rfl
    clear hx121_0
    refine hK.out _ _ ⟨(blk_cell BK108.out 0).trans rfl, (blk_cell BK108.out 1).trans rfl⟩ (fun hHeld => ?_)
    clear hK K
    refine norm_ (a' := ?_) ?_ ?_
    rotate_left
    ·show Act.put _ (some 22) _ = _
     simp only [Act.put, List.setIfInBounds_toArray, List.set_cons_zero, List.set_cons_succ, i64_w, i32_w]
     rfl
    refine pure_ (i := 13) (N := some 23) (v := ?_) (a' := ?_) #[true, true, true, true, true, true, true, true, true, true, true, true, true, true, false] rfl rfl (any_of HT_.out (by kernel_rfl)) (fun _ _ _ h => h) (Or.inl ⟨by rfl, ?_⟩) ?_ ?_
    rotate_left
    ·intro w'
     go_simp
     with_reducible rfl
    rotate_left
    ·simp only [Act.put, List.setIfInBounds_toArray, List.set_cons_zero, List.set_cons_succ, i64_w, i32_w]
     rfl
    refine last_ (i := 14) (N := none) #[true, true, true, true, true, true, true, true, true, true, true, true, true, true, true] rfl rfl (one_of HT_.out (by kernel_rfl)) (by decide) (fun K hK => ?_)
    have hs25 : w23.cell? ⟨gb108, 0, none⟩ = some (.int .i64 t102) := (blk_cell BK108.out 0).trans rfl
    have hfs25 := blk_frozen BK108.out 0
    have hns25_0 := NB101_108.out
    have hms25_0 := NB108_101.out
    refine skip_ (w1 := ?_) (by rfl) rfl ?_ ?_
    rotate_left
    ·go_simp
     rfl
    refine hK.out _ _ ?_
    clear hK K
    refine done_ (done_of HT_.out (by kernel_rfl)) ?_
    have hcz26_0 : w23.cell? ⟨gb108, 0, none⟩ = some (.int .i64 t102) := (blk_cell BK108.out 0).trans rfl
    have hcz26_1 : w23.cell? ⟨gb108, 1, none⟩ = some (.slice Ao15 t103.length co15) := (blk_cell BK108.out 1).trans rfl
    have hfz26_0 := blk_frozen BK108.out 0
    have hfz26_1 := blk_frozen BK108.out 1
    have hnb27 := NB101_0.out
    have hnc27 := NB0_101.out
    have hcz28_0 : w23.cell? ⟨gb101, 0, none⟩ = some (.int .i64 0) := (blk_cell BK101.out 0).trans rfl
    have hcz28_1 : w23.cell? ⟨gb101, 1, none⟩ = some (.slice none 0 0) := (blk_cell BK101.out 1).trans rfl
    have hfz28_0 := blk_frozen BK101.out 0
    have hfz28_1 := blk_frozen BK101.out 1
    try go_wp2
    refine bodyPost_ret (results_cell_row rfl _ _ gb101 47 #[.int .i64 (rd y115 t118), .slice Ao15 t103.length co15] (0, 0) _ rfl (by (with_reducible repeat (first | refine blk_drewN ?_ _ | refine blk_drew ?_ | refine blk_alloc ?_ _)); refine blk_put (cs := #[.int .i64 (rd y115 t118), .slice none 0 0]) ?_ 1 _ rfl; (with_reducible repeat (first | refine blk_drewN ?_ _ | refine blk_drew ?_ | refine blk_alloc ?_ _)); refine blk_put (cs := #[.int .i64 0, .slice none 0 0]) ?_ 0 _ rfl; (with_reducible repeat (first | refine blk_drewN ?_ _ | refine blk_drew ?_ | refine blk_alloc ?_ _)); refine blk_far ?_ NB101_108.out _; (with_reducible repeat (first | refine blk_drewN ?_ _ | refine blk_drew ?_ | refine blk_alloc ?_ _)); exact BK101.out) Try.underlying47 rfl (by kernel_rfl)) rfl ?_
    exact ⟨_, qz13, by (with_reducible repeat (first | apply Kd.R_alloc | apply Kd.R_drewN | apply Kd.R_drew)); exact Kd.R_mono (Kd.R_far (p := ⟨gb101, 1, none⟩) (Kd.R_far (p := ⟨gb101, 0, none⟩) (Kd.R_far (p := ⟨gb108, 0, none⟩) (Kd.R_types (Kd.R_types HO105.out BK108.out (by decide)) BK101.out (by decide)) (fun _ hk => hk.1.2) (.int .i64 (rd y115 t118))) (fun _ hk => hk.2) (.int .i64 (rd y115 t118))) (fun _ hk => hk.2) (.slice Ao15 t103.length co15)) (fun _ hk => trivial), qz295 HI0.out NB0_101.out NB0_108.out, qz296 HI0.out GE101.out GE108.out, qz421 GW101.out GW108.out⟩
   ·rw [if_neg c8] at H
    exact absurd H (by simp)
  ·rw [if_neg c7] at H
   exact absurd H (by simp)
 ·rw [if_neg c4] at H
  have c4b0 : (t109 == 0) = false := beq_eq_false_iff_ne.mpr c4
  have c4b1 : (t109 != 0) = true := bne_iff_ne.mpr c4
  by_cases c29 : t109 = 1
  ·rw [if_pos c29] at H
   have c29b0 : (t109 == 1) = true := beq_iff_eq.mpr c29
   have c29b1 : (t109 != 1) = false := bne_eq_false_iff_eq.mpr c29
   clear c29
   replace H := Option.bind_eq_some_iff.mp H
   obtain ⟨⟨t122, t123, t124⟩, A300, H⟩ := H
   replace H : ((spec_l01Cur_pick.f s0_0 t123 t124 256).bind fun bt125 => (if 0 ≤ t122 then (if t122 < (t103.length : Int) then (some (t102, (t103.set (t122 : Int).toNat (IntKind.u64.wrap (bt125.1))), bt125.2.1, bt125.2.2)) else (none)) else (none))) = some (r1, r2, r3, r4) := H
   have A30 := Aside0.mk A300
   clear A300
   replace H := Option.bind_eq_some_iff.mp H
   obtain ⟨⟨t125, t126, t127⟩, A310, H⟩ := H
   replace H : (if 0 ≤ t122 then (if t122 < (t103.length : Int) then (some (t102, (t103.set (t122 : Int).toNat (IntKind.u64.wrap (t125))), t126, t127)) else (none)) else (none)) = some (r1, r2, r3, r4) := H
   have A31 := Aside0.mk A310
   clear A310
   by_cases c32 : 0 ≤ t122
   ·rw [if_pos c32] at H
    have c32b0 : decide (0 ≤ t122) = true := decide_eq_true c32
    clear c32
    by_cases c33 : t122 < (t103.length : Int)
    ·rw [if_pos c33] at H
     have c33b0 : decide (t122 < (t103.length : Int)) = true := decide_eq_true c33
     clear c33
     obtain ⟨y128, hy128⟩ : ∃ y_ : List Int, y_ = (t103.set (t122 : Int).toNat (IntKind.u64.wrap (t125))) := ⟨_, rfl⟩
     replace H : (some (t102, y128, t126, t127)) = some (r1, r2, r3, r4) := by first | (rw [hy128]; with_reducible exact H) | (have H2_ := (Option.bind_some _ _).symm.trans H; rw [hy128]; with_reducible exact H2_) | (have H2_ := (Option.bind_some _ _).symm.trans H; with_reducible exact H2_) | with_reducible exact H | (rw [hy128]; exact H) | exact H
     have Ny128 := Aside0.mk hy128
     clear hy128
     simp only [Option.some.injEq, Prod.mk.injEq] at H
     obtain ⟨rfl, rfl, rfl, rfl⟩ := H
     go_enter Try.func117, Try.ntmps117
     try go_wp2_with (first | ((with_reducible refine gate_dst (N := 2) rfl ?_); refine box_event ?hg (N := 2) ?hd (cs := #[.int .i64 0, .slice none 0 0]) (t := 47) ?hr ?_; (case hd => rfl); (case hg => rfl); (case hr => exact qz5); intro gb101 hg w35 hbox hb; have n0_ := Aside0.mk (IsS213.below (qz313 HI0.out) hb); have n1_ := Aside0.mk (KeepBut.trans qz408 (KeepBut.of_below hb g none) (.inl rfl)); have n2_ := Aside0.mk (below_step (qz314 HI0.out) hb); have n3_ := Aside0.mk (hbox); have n4_ := Aside0.mk ((qz414 : w.heap.size ≤ gb101)); have n5_ := Aside0.mk ((Nat.le_trans HW0.out (qz414 : w.heap.size ≤ gb101) : w0.heap.size ≤ gb101)); have n6_ := Aside0.mk ((qz415 HI0.out : g ≠ gb101)); have n7_ := Aside0.mk ((qz416 HI0.out : gb101 ≠ g)); clear HI0; clear HK; clear HB; have HI0 := n0_; have HK := n1_; have HB := n2_; have BK101 := n3_; have GW101 := n4_; have GE101 := n5_; have NB0_101 := n6_; have NB101_0 := n7_; clear n0_ n1_ n2_ n3_ n4_ n5_ n6_ n7_; clear hb hbox hg) | ((with_reducible refine gate_callee (f := 210) rfl ?_); refine goesL_ (some 5) rfl rfl Try.func210 (by kernel_rfl) rfl #[.pointer (some ⟨g, 0, none⟩)] rfl qz1 ?_; (with_reducible refine (spec_l01Cur_lat.calls k g s0_0 s0_1 s0_2 t102 t103 t106 t107 w0 _ ?side1 ?side2 A2.out).mono ?_); (case side1 => exact qz289 HI0.out NB0_101.out); (case side2 => exact qz290 HI0.out GE101.out); rintro e w36 ⟨v104, rfl, ho0, hi, hb, hk⟩; refine ⟨_, rfl, ?_⟩; have n0_ := Aside0.mk (KeepBut.blk hk (g' := gb101) (o := .cells #[.int .i64 0, .slice none 0 0] 47 (0, 0)) (qz8 BK101.out) NB101_0.out (by simp)); have n1_ := Aside0.mk (Kd.R_lower ho0 (keep_size (w := w) (g := g) (row := none) (qz417 GW101.out))); have n2_ := Aside0.mk (KeepBut.trans (qz417 GW101.out) hk (.inl rfl)); have n3_ := Aside0.mk (hb); have n4_ := Aside0.mk (hi); clear BK101; clear HK; clear HB; clear HI0; have BK101 := n0_; have HO105 := n1_; have HK := n2_; have HB := n3_; have HI0 := n4_; clear n0_ n1_ n2_ n3_ n4_; (try clear hb); (try clear hb2); (try clear hk); (try clear hi); (try clear ho0)) | ((with_reducible refine gate_dst (N := 3) rfl ?_); refine box_event ?hg (N := 3) ?hd (cs := #[.int .i64 0, .slice none 0 0]) (t := 47) ?hr ?_; (case hd => rfl); (case hg => rfl); (case hr => exact qz5); intro gb108 hg w37 hbox hb; have n0_ := Aside0.mk (Kd.R_below (qz21 HO105.out) hb); have n1_ := Aside0.mk (IsS213.below (qz289 HI0.out NB0_101.out) hb); have n2_ := Aside0.mk (blk_below (g := gb101) (o := .cells #[.int .i64 0, .slice none 0 0] 47 (0, 0)) (qz8 BK101.out) hb); have n3_ := Aside0.mk (KeepBut.trans (qz417 GW101.out) (KeepBut.of_below hb g none) (.inl rfl)); have n4_ := Aside0.mk (below_step (qz290 HI0.out GE101.out) hb); have n5_ := Aside0.mk (hbox); have n6_ := Aside0.mk ((qz418 GW101.out : w.heap.size ≤ gb108)); have n7_ := Aside0.mk ((Nat.le_trans HW0.out (qz418 GW101.out : w.heap.size ≤ gb108) : w0.heap.size ≤ gb108)); have n8_ := Aside0.mk ((qz39 BK101.out : gb101 ≠ gb108)); have n9_ := Aside0.mk ((qz40 BK101.out : gb108 ≠ gb101)); have n10_ := Aside0.mk ((qz435 HI0.out NB0_101.out : g ≠ gb108)); have n11_ := Aside0.mk ((qz436 HI0.out NB0_101.out : gb108 ≠ g)); clear HO105; clear HI0; clear BK101; clear HK; clear HB; have HO105 := n0_; have HI0 := n1_; have BK101 := n2_; have HK := n3_; have HB := n4_; have BK108 := n5_; have GW108 := n6_; have GE108 := n7_; have NB101_108 := n8_; have NB108_101 := n9_; have NB0_108 := n10_; have NB108_0 := n11_; clear n0_ n1_ n2_ n3_ n4_ n5_ n6_ n7_ n8_ n9_ n10_ n11_; clear hb hbox hg; have hnb38 := NB108_101.out; have hnc38 := NB101_108.out; have hnb39 := NB108_0.out; have hnc39 := NB0_108.out; have hcz40_0 : w37.cell? ⟨gb108, 0, none⟩ = some (.int .i64 0) := (blk_cell BK108.out 0).trans rfl; have hcz40_1 : w37.cell? ⟨gb108, 1, none⟩ = some (.slice none 0 0) := (blk_cell BK108.out 1).trans rfl; have hfz40_0 := blk_frozen BK108.out 0; have hfz40_1 := blk_frozen BK108.out 1; obtain ⟨Ao41, co41, eo41⟩ := Kd.R_slice HO105.out; subst eo41) | ((with_reducible refine gate_callee (f := 134) rfl ?_); refine goesL_ (some 7) rfl rfl Try.func134 (by kernel_rfl) rfl #[.pointer (some ⟨g, 0, none⟩), .int .i64 12] rfl qz1 ?_; (with_reducible refine (spec_l01Cur_pick.calls g s0_0 t106 t107 12 t109 t110 t111 w0 _ ?side1 ?side2 A3.out).mono ?_); (case side1 => exact qz295 HI0.out NB0_101.out NB0_108.out); (case side2 => exact qz296 HI0.out GE101.out GE108.out); rintro e w42 ⟨rfl, hi, hb, hk⟩; refine ⟨_, rfl, ?_⟩; have n0_ := Aside0.mk (KeepBut.blk hk (g' := gb101) (o := .cells #[.int .i64 0, .slice none 0 0] 47 (0, 0)) (qz41 NB101_108.out BK101.out) NB101_0.out (by simp)); have n1_ := Aside0.mk (Kd.R_mono (Kd.R_keep (IsS213.apart (show IsS213 w0 _ g s0_0 t106 t107 from by repeat (first | (with_reducible first | exact HI0.out | apply IsS213.alloc | apply IsS213.drewN | apply IsS213.drew | apply IsS213.set_1 | apply IsS213.set_2 | refine IsS213.far ?_ NB0_101.out _ | refine IsS213.far ?_ NB0_108.out _) | exact HI0.out)) (by (with_reducible repeat (first | apply Kd.R_alloc | apply Kd.R_drewN | apply Kd.R_drew)); exact (Kd.R_mono (Kd.R_far (p := ⟨gb108, 1, none⟩) (Kd.R_far (p := ⟨gb108, 0, none⟩) (Kd.R_types HO105.out BK108.out (by decide)) (fun _ hk => hk.2) (.int .i64 t102)) (fun _ hk => hk.2) (.slice Ao41 t103.length co41)) (fun _ h_ => h_.1))) (by decide)) hk (fun _ h => h.2)) (fun _ h => h.1)); have n2_ := Aside0.mk (KeepBut.blk hk (g' := gb108) (o := .cells #[.int .i64 t102, .slice Ao41 t103.length co41] 47 (0, 0)) (qz167 BK108.out) NB108_0.out (by simp)); have n3_ := Aside0.mk (KeepBut.trans (qz421 GW101.out GW108.out) hk (.inl rfl)); have n4_ := Aside0.mk (hb); have n5_ := Aside0.mk (hi); clear BK101; clear HO105; clear BK108; clear HK; clear HB; clear HI0; have BK101 := n0_; have HO105 := n1_; have BK108 := n2_; have HK := n3_; have HB := n4_; have HI0 := n5_; clear n0_ n1_ n2_ n3_ n4_ n5_; (try clear hb); (try clear hb2); (try clear hk); (try clear hi)))
     have n0_ := Aside0.mk (Kd.R_drew HO105.out)
     have n1_ := Aside0.mk (blk_drew BK101.out)
     have n2_ := Aside0.mk (blk_drew BK108.out)
     have n3_ := Aside0.mk (IsS213.drew HI0.out)
     have n4_ := Aside0.mk (keep_drew HK.out)
     have n5_ := Aside0.mk (below_drew1 HB.out)
     clear HO105
     clear BK101
     clear BK108
     clear HI0
     clear HK
     clear HB
     have HO105 := n0_
     have BK101 := n1_
     have BK108 := n2_
     have HI0 := n3_
     have HK := n4_
     have HB := n5_
     clear n0_ n1_ n2_ n3_ n4_ n5_
     refine start_ (n := 12) (S := fun w' => w'.cell? ⟨gb108, 0, none⟩ = some (.int .i64 t102) ∧ w'.cell? ⟨gb108, 1, none⟩ = some (.slice Ao41 t103.length co41)) (ds := [11]) #[false, false, false, false, false, false, false, false, false, false, false, false] (by kernel_rfl) rfl rfl ⟨(blk_cell BK108.out 0).trans rfl, (blk_cell BK108.out 1).trans rfl⟩ (fun hHeld => ?_); refine with_tabW spec_l01Cur_badLat.tab6 spec_l01Cur_badLat.bits6 (fun HT_ HW_ => ?_)
     generalize w42.drew = w43 at HO105 BK101 BK108 HI0 HK HB hHeld ⊢
     refine pure_ (i := 0) (N := some 26) (v := ?_) (a' := ?_) #[true, false, false, false, false, false, false, false, false, false, false, false] rfl rfl (any_of HT_.out (by kernel_rfl)) (fun _ _ _ h => h) (Or.inl ⟨by rfl, ?_⟩) ?_ ?_
     rotate_left
     ·intro w'
      go_simp
      with_reducible rfl
     rotate_left
     ·simp only [Act.put, List.setIfInBounds_toArray, List.set_cons_zero, List.set_cons_succ, i64_w, i32_w]
      rfl
     refine pure_ (i := 2) (N := some 28) (v := ?_) (a' := ?_) #[true, false, true, false, false, false, false, false, false, false, false, false] rfl rfl (any_of HT_.out (by kernel_rfl)) (fun _ _ _ h => h) (Or.inl ⟨by rfl, ?_⟩) ?_ ?_
     rotate_left
     ·intro w'
      go_simp
      with_reducible rfl
     rotate_left
     ·simp only [Act.put, List.setIfInBounds_toArray, List.set_cons_zero, List.set_cons_succ, i64_w, i32_w]
      rfl
     refine pure_ (i := 3) (N := some 29) (v := ?_) (a' := ?_) #[true, false, true, true, false, false, false, false, false, false, false, false] rfl rfl (any_of HT_.out (by kernel_rfl)) (fun _ _ _ h => h) (Or.inl ⟨by rfl, ?_⟩) ?_ ?_
     rotate_left
     ·intro w'
      go_simp
      with_reducible rfl
     rotate_left
     ·simp only [Act.put, List.setIfInBounds_toArray, List.set_cons_zero, List.set_cons_succ, i64_w, i32_w]
      rfl
     refine pure_ (i := 7) (N := some 33) (v := ?_) (a' := ?_) #[true, false, true, true, false, false, false, true, false, false, false, false] rfl rfl (any_of HT_.out (by kernel_rfl)) (fun _ _ _ h => h) (Or.inl ⟨by rfl, ?_⟩) ?_ ?_
     rotate_left
     ·intro w'
      go_simp
      with_reducible rfl
     rotate_left
     ·simp only [Act.put, List.setIfInBounds_toArray, List.set_cons_zero, List.set_cons_succ, i64_w, i32_w]
      rfl
     refine take_ (i := 1) (N := some 27) (v := ?_) (a' := ?_) #[true, true, true, true, false, false, false, true, false, false, false, false] rfl rfl (take_ofW HT_.out HW_.out (by kernel_rfl)) (fun _ _ _ h => h) (Or.inl ⟨by rfl, ?_⟩) hHeld ?_ ?_
     rotate_left
     ·rintro w' ⟨s0, s1⟩
      go_simp
      with_reducible rfl
     rotate_left
     ·simp only [Act.put, List.setIfInBounds_toArray, List.set_cons_zero, List.set_cons_succ, i64_w, i32_w]
      rfl
     refine take_ (i := 4) (N := some 30) (v := ?_) (a' := ?_) #[true, true, true, true, true, false, false, true, false, false, false, false] rfl rfl (take_ofW HT_.out HW_.out (by kernel_rfl)) (fun _ _ _ h => h) (Or.inl ⟨by rfl, ?_⟩) hHeld ?_ ?_
     rotate_left
     ·rintro w' ⟨s0, s1⟩
      go_simp
      with_reducible rfl
     rotate_left
     ·simp only [Act.put, List.setIfInBounds_toArray, List.set_cons_zero, List.set_cons_succ, i64_w, i32_w]
      rfl
     refine pure_ (i := 5) (N := some 31) (v := ?_) (a' := ?_) #[true, true, true, true, true, true, false, true, false, false, false, false] rfl rfl (any_of HT_.out (by kernel_rfl)) (fun _ _ _ h => h) (Or.inl ⟨by rfl, ?_⟩) ?_ ?_
     rotate_left
     ·intro w'
      go_simp
      with_reducible rfl
     rotate_left
     ·simp only [Act.put, List.setIfInBounds_toArray, List.set_cons_zero, List.set_cons_succ, i64_w, i32_w]
      rfl
     refine one_ (i := 6) (N := some 32) #[true, true, true, true, true, true, true, true, false, false, false, false] rfl rfl (one_of HT_.out (by kernel_rfl)) (by decide) (fun K hK => ?_)
     refine goes_ Try.func134 (by kernel_rfl) rfl #[.pointer (some ⟨g, 0, none⟩), .int .i64 (t103.length : Int)] (by rfl) rfl rfl qz1 ?_
     with_reducible refine (spec_l01Cur_pick.calls g s0_0 t110 t111 (t103.length : Int) t122 t123 t124 w0 _ ?side1 ?side2 A30.out).mono ?_
     (case side1 => exact qz295 HI0.out NB0_101.out NB0_108.out)
     (case side2 => exact qz296 HI0.out GE101.out GE108.out)
     rintro e w44 ⟨rfl, hi, hb, hk⟩
     refine ⟨_, rfl, ?_⟩
     have n0_ := Aside0.mk (KeepBut.blk hk (g' := gb101) (o := .cells #[.int .i64 0, .slice none 0 0] 47 (0, 0)) (qz8 BK101.out) NB101_0.out (by simp))
     have n1_ := Aside0.mk (Kd.R_mono (Kd.R_keep (IsS213.apart (show IsS213 w0 _ g s0_0 t110 t111 from by repeat (first | (with_reducible first | exact HI0.out | apply IsS213.alloc | apply IsS213.drewN | apply IsS213.drew | apply IsS213.set_1 | apply IsS213.set_2 | refine IsS213.far ?_ NB0_101.out _ | refine IsS213.far ?_ NB0_108.out _) | exact HI0.out)) (qz21 HO105.out) (by decide)) hk (fun _ h => h.2)) (fun _ h => h.1))
     have n2_ := Aside0.mk (KeepBut.blk hk (g' := gb108) (o := .cells #[.int .i64 t102, .slice Ao41 t103.length co41] 47 (0, 0)) (qz8 BK108.out) NB108_0.out (by simp))
     have n3_ := Aside0.mk (KeepBut.trans (qz421 GW101.out GW108.out) hk (.inl rfl))
     have n4_ := Aside0.mk (hb)
     have n5_ := Aside0.mk (hi)
     clear BK101
     clear HO105
     clear BK108
     clear HK
     clear HB
     clear HI0
     have BK101 := n0_
     have HO105 := n1_
     have BK108 := n2_
     have HK := n3_
     have HB := n4_
     have HI0 := n5_
     clear n0_ n1_ n2_ n3_ n4_ n5_
     (try clear hb)
     (try clear hb2)
     (try clear hk)
     (try clear hi)
     refine hK.out _ _ ⟨(blk_cell BK108.out 0).trans rfl, (blk_cell BK108.out 1).trans rfl⟩ (fun hHeld => ?_)
     clear hK K
     refine norm_ (a' := ?_) ?_ ?_
     rotate_left
     ·show Act.put _ (some 32) _ = _
      simp only [Act.put, List.setIfInBounds_toArray, List.set_cons_zero, List.set_cons_succ, i64_w, i32_w]
      rfl
     refine one_ (i := 8) (N := some 34) #[true, true, true, true, true, true, true, true, true, false, false, false] rfl rfl (one_of HT_.out (by kernel_rfl)) (by decide) (fun K hK => ?_)
     refine goes_ Try.func134 (by kernel_rfl) rfl #[.pointer (some ⟨g, 0, none⟩), .int .i64 256] (by rfl) rfl rfl qz1 ?_
     with_reducible refine (spec_l01Cur_pick.calls g s0_0 t123 t124 256 t125 t126 t127 w0 _ ?side1 ?side2 A31.out).mono ?_
     (case side1 => exact qz295 HI0.out NB0_101.out NB0_108.out)
     (case side2 => exact qz296 HI0.out GE101.out GE108.out)
     rintro e w45 ⟨rfl, hi, hb, hk⟩
     refine ⟨_, rfl, ?_⟩
     have n0_ := Aside0.mk (KeepBut.blk hk (g' := gb101) (o := .cells #[.int .i64 0, .slice none 0 0] 47 (0, 0)) (qz8 BK101.out) NB101_0.out (by simp))
     have n1_ := Aside0.mk (Kd.R_mono (Kd.R_keep (IsS213.apart (show IsS213 w0 _ g s0_0 t123 t124 from by repeat (first | (with_reducible first | exact HI0.out | apply IsS213.alloc | apply IsS213.drewN | apply IsS213.drew | apply IsS213.set_1 | apply IsS213.set_2 | refine IsS213.far ?_ NB0_101.out _ | refine IsS213.far ?_ NB0_108.out _) | exact HI0.out)) (qz21 HO105.out) (by decide)) hk (fun _ h => h.2)) (fun _ h => h.1))
     have n2_ := Aside0.mk (KeepBut.blk hk (g' := gb108) (o := .cells #[.int .i64 t102, .slice Ao41 t103.length co41] 47 (0, 0)) (qz8 BK108.out) NB108_0.out (by simp))
     have n3_ := Aside0.mk (KeepBut.trans (qz421 GW101.out GW108.out) hk (.inl rfl))
     have n4_ := Aside0.mk (hb)
     have n5_ := Aside0.mk (hi)
     clear BK101
     clear HO105
     clear BK108
     clear HK
     clear HB
     clear HI0
     have BK101 := n0_
     have HO105 := n1_
     have BK108 := n2_
     have HK := n3_
     have HB := n4_
     have HI0 := n5_
     clear n0_ n1_ n2_ n3_ n4_ n5_
     (try clear hb)
     (try clear hb2)
     (try clear hk)
     (try clear hi)
     have p34 : 0 ≤ (t122 : Int) := of_decide_eq_true qz4
     have q34 : (t122 : Int) < ((t103.length : Int) : Int) := of_decide_eq_true qz4
     obtain ⟨go34, co34, eo34, gb34, gl34, cl34, HG34⟩ := Kd.R_form HO105.out (by omega)
     (first | cases eo34 | (injection eo34 with ea_ en_ ec_; (first | subst ea_ | (injection ea_ with ea_; subst ea_)); subst ec_; clear en_))
     have GB34 := Aside0.mk gb34
     have GG34 := Aside0.mk HG34
     clear gb34 gl34 HG34
     obtain ⟨hx34_0, hf34_0⟩ := Kd.R_celln 0 HO105.out (t122 : Int) p34 q34
     replace p34 := eq_true p34
     replace q34 := eq_true q34
     have HN0_go34 := Aside0.mk (show g ≠ go34 from by have h_ := IsS213.own_ne HI0.out HO105.out (by decide); intro e_; exact h_ (by rw [e_]; rfl))
     have HP46 := Kd.R_putn HO105.out (t122 : Int) (IntKind.u64.wrap (t125))
     rw [← Ny128.out] at HP46
     have HQ46 := Aside0.mk HP46
     clear HP46
     refine hK.out _ _ ⟨(blk_cell BK108.out 0).trans rfl, (blk_cell BK108.out 1).trans rfl⟩ (fun hHeld => ?_)
     clear hK K
     refine norm_ (a' := ?_) ?_ ?_
     rotate_left
     ·show Act.put _ (some 34) _ = _
      simp only [Act.put, List.setIfInBounds_toArray, List.set_cons_zero, List.set_cons_succ, i64_w, i32_w]
      rfl
     refine pure_ (i := 9) (N := some 35) (v := ?_) (a' := ?_) #[true, true, true, true, true, true, true, true, true, true, false, false] rfl rfl (any_of HT_.out (by kernel_rfl)) (fun _ _ _ h => h) (Or.inl ⟨by rfl, ?_⟩) ?_ ?_
     rotate_left
     ·intro w'
      go_simp
      with_reducible rfl
     rotate_left
     ·simp only [Act.put, List.setIfInBounds_toArray, List.set_cons_zero, List.set_cons_succ, i64_w, i32_w]
      rfl
     refine pure_ (i := 10) (N := some 36) (v := ?_) (a' := ?_) #[true, true, true, true, true, true, true, true, true, true, true, false] rfl rfl (any_of HT_.out (by kernel_rfl)) (fun _ _ _ h => h) (Or.inl ⟨by rfl, ?_⟩) ?_ ?_
     rotate_left
     ·intro w'
      go_simp
      with_reducible rfl
     rotate_left
     ·simp only [Act.put, List.setIfInBounds_toArray, List.set_cons_zero, List.set_cons_succ, i64_w, i32_w]
      rfl
     refine last_ (i := 11) (N := none) #[true, true, true, true, true, true, true, true, true, true, true, true] rfl rfl (one_of HT_.out (by kernel_rfl)) (by decide) (fun K hK => ?_)
     refine skip_ (w1 := ?_) (by rfl) rfl ?_ ?_
     rotate_left
     ·go_simp
      rfl
     refine hK.out _ _ ?_
     clear hK K
     refine done_ (done_of HT_.out (by kernel_rfl)) ?_
     have n0_ : Aside0 (Kd.R (Kd.int .u64) 153 (w45.setCell ⟨go34, (t122 : Int).toNat, none⟩ (.int .u64 (IntKind.u64.wrap (t125)))) w.heap.size (fun _ => True) (.slice (some ⟨go34, 0, none⟩) t103.length co41) y128) := ⟨qz21 HQ46.out⟩
     have n1_ : Aside0 ((w45.setCell ⟨go34, (t122 : Int).toNat, none⟩ (.int .u64 (IntKind.u64.wrap (t125)))).heap[gb101]? = some (.cells #[.int .i64 0, .slice none 0 0] 47 (0, 0))) := ⟨qz193 HO105.out BK101.out⟩
     have n2_ : Aside0 ((w45.setCell ⟨go34, (t122 : Int).toNat, none⟩ (.int .u64 (IntKind.u64.wrap (t125)))).heap[gb108]? = some (.cells #[.int .i64 t102, .slice (some ⟨go34, 0, none⟩) t103.length co41] 47 (0, 0))) := ⟨qz193 HO105.out BK108.out⟩
     have n3_ : Aside0 (IsS213 w0 (w45.setCell ⟨go34, (t122 : Int).toNat, none⟩ (.int .u64 (IntKind.u64.wrap (t125)))) g s0_0 t126 t127) := ⟨by repeat (first | (with_reducible first | exact HI0.out | apply IsS213.alloc | apply IsS213.drewN | apply IsS213.drew | apply IsS213.set_1 | apply IsS213.set_2 | refine IsS213.far ?_ HN0_go34.out _ | refine IsS213.far ?_ NB0_101.out _ | refine IsS213.far ?_ NB0_108.out _) | exact HI0.out)⟩
     have n4_ : Aside0 (KeepBut w (w45.setCell ⟨go34, (t122 : Int).toNat, none⟩ (.int .u64 (IntKind.u64.wrap (t125)))) g none) := ⟨qz443 GB34.out GW101.out GW108.out⟩
     have n5_ : Aside0 (Below w0.heap.size w0 (w45.setCell ⟨go34, (t122 : Int).toNat, none⟩ (.int .u64 (IntKind.u64.wrap (t125))))) := ⟨qz444 GB34.out HI0.out GE101.out GE108.out⟩
     (try clear HO105)
     (try clear BK101)
     (try clear BK108)
     (try clear HI0)
     (try clear HK)
     (try clear HB)
     generalize (w45.setCell ⟨go34, (t122 : Int).toNat, none⟩ (.int .u64 (IntKind.u64.wrap (t125)))) = w47 at n0_ n1_ n2_ n3_ n4_ n5_ ⊢
     have HO105 := n0_
     have BK101 := n1_
     have BK108 := n2_
     have HI0 := n3_
     have HK := n4_
     have HB := n5_
     clear n0_ n1_ n2_ n3_ n4_ n5_
     have hcz48_0 : w47.cell? ⟨gb108, 0, none⟩ = some (.int .i64 t102) := (blk_cell BK108.out 0).trans rfl
     have hcz48_1 : w47.cell? ⟨gb108, 1, none⟩ = some (.slice (some ⟨go34, 0, none⟩) t103.length co41) := (blk_cell BK108.out 1).trans rfl
     have hfz48_0 := blk_frozen BK108.out 0
     have hfz48_1 := blk_frozen BK108.out 1
     have hnb49 := NB101_0.out
     have hnc49 := NB0_101.out
     have hcz50_0 : w47.cell? ⟨gb101, 0, none⟩ = some (.int .i64 0) := (blk_cell BK101.out 0).trans rfl
     have hcz50_1 : w47.cell? ⟨gb101, 1, none⟩ = some (.slice none 0 0) := (blk_cell BK101.out 1).trans rfl
     have hfz50_0 := blk_frozen BK101.out 0
     have hfz50_1 := blk_frozen BK101.out 1
     try go_wp2
     refine bodyPost_ret (results_cell_row rfl _ _ gb101 47 #[.int .i64 t102, .slice (some ⟨go34, 0, none⟩) t103.length co41] (0, 0) _ rfl (qz167 BK101.out) Try.underlying47 rfl (by kernel_rfl)) rfl ?_
     exact ⟨_, qz13, by (with_reducible repeat (first | apply Kd.R_alloc | apply Kd.R_drewN | apply Kd.R_drew)); exact Kd.R_mono (Kd.R_far (p := ⟨gb101, 1, none⟩) (Kd.R_far (p := ⟨gb101, 0, none⟩) (Kd.R_types HO105.out BK101.out (by decide)) (fun _ hk => hk.2) (.int .i64 t102)) (fun _ hk => hk.2) (.slice (some ⟨go34, 0, none⟩) t103.length co41)) (fun _ hk => trivial), qz295 HI0.out NB0_101.out NB0_108.out, qz296 HI0.out GE101.out GE108.out, qz421 GW101.out GW108.out⟩
    ·rw [if_neg c33] at H
     exact absurd H (by simp)
   ·rw [if_neg c32] at H
    exact absurd H (by simp)
  ·rw [if_neg c29] at H
   have c29b0 : (t109 == 1) = false := beq_eq_false_iff_ne.mpr c29
   have c29b1 : (t109 != 1) = true := bne_iff_ne.mpr c29
   by_cases c51 : t109 = 2
   ·rw [if_pos c51] at H
    have c51b0 : (t109 == 2) = true := beq_iff_eq.mpr c51
    have c51b1 : (t109 != 2) = false := bne_eq_false_iff_eq.mpr c51
    clear c51
    by_cases c52 : t103.length < 17592186044416
    ·rw [if_pos c52] at H
     have LMc52 := Aside0.mk c52
     clear c52
     obtain ⟨y129, hy129⟩ : ∃ y_ : List Int, y_ = (t103 ++ [1]) := ⟨_, rfl⟩
     replace H : (some (t102, y129, t110, t111)) = some (r1, r2, r3, r4) := by first | (rw [hy129]; with_reducible exact H) | (have H2_ := (Option.bind_some _ _).symm.trans H; rw [hy129]; with_reducible exact H2_) | (have H2_ := (Option.bind_some _ _).symm.trans H; with_reducible exact H2_) | with_reducible exact H | (rw [hy129]; exact H) | exact H
     have Ny129 := Aside0.mk hy129
     clear hy129
     simp only [Option.some.injEq, Prod.mk.injEq] at H
     obtain ⟨rfl, rfl, rfl, rfl⟩ := H
     go_enter Try.func117, Try.ntmps117
     go_wp2_with (first | ((with_reducible refine gate_dst (N := 2) rfl ?_); refine box_event ?hg (N := 2) ?hd (cs := #[.int .i64 0, .slice none 0 0]) (t := 47) ?hr ?_; (case hd => rfl); (case hg => rfl); (case hr => exact qz5); intro gb101 hg w53 hbox hb; have n0_ := Aside0.mk (IsS213.below (qz313 HI0.out) hb); have n1_ := Aside0.mk (KeepBut.trans qz408 (KeepBut.of_below hb g none) (.inl rfl)); have n2_ := Aside0.mk (below_step (qz314 HI0.out) hb); have n3_ := Aside0.mk (hbox); have n4_ := Aside0.mk ((qz414 : w.heap.size ≤ gb101)); have n5_ := Aside0.mk ((Nat.le_trans HW0.out (qz414 : w.heap.size ≤ gb101) : w0.heap.size ≤ gb101)); have n6_ := Aside0.mk ((qz415 HI0.out : g ≠ gb101)); have n7_ := Aside0.mk ((qz416 HI0.out : gb101 ≠ g)); clear HI0; clear HK; clear HB; have HI0 := n0_; have HK := n1_; have HB := n2_; have BK101 := n3_; have GW101 := n4_; have GE101 := n5_; have NB0_101 := n6_; have NB101_0 := n7_; clear n0_ n1_ n2_ n3_ n4_ n5_ n6_ n7_; clear hb hbox hg) | ((with_reducible refine gate_callee (f := 210) rfl ?_); refine goesL_ (some 5) rfl rfl Try.func210 (by kernel_rfl) rfl #[.pointer (some ⟨g, 0, none⟩)] rfl qz1 ?_; (with_reducible refine (spec_l01Cur_lat.calls k g s0_0 s0_1 s0_2 t102 t103 t106 t107 w0 _ ?side1 ?side2 A2.out).mono ?_); (case side1 => exact qz289 HI0.out NB0_101.out); (case side2 => exact qz290 HI0.out GE101.out); rintro e w54 ⟨v104, rfl, ho0, hi, hb, hk⟩; refine ⟨_, rfl, ?_⟩; have n0_ := Aside0.mk (KeepBut.blk hk (g' := gb101) (o := .cells #[.int .i64 0, .slice none 0 0] 47 (0, 0)) (qz8 BK101.out) NB101_0.out (by simp)); have n1_ := Aside0.mk (Kd.R_lower ho0 (keep_size (w := w) (g := g) (row := none) (qz417 GW101.out))); have n2_ := Aside0.mk (KeepBut.trans (qz417 GW101.out) hk (.inl rfl)); have n3_ := Aside0.mk (hb); have n4_ := Aside0.mk (hi); clear BK101; clear HK; clear HB; clear HI0; have BK101 := n0_; have HO105 := n1_; have HK := n2_; have HB := n3_; have HI0 := n4_; clear n0_ n1_ n2_ n3_ n4_; (try clear hb); (try clear hb2); (try clear hk); (try clear hi); (try clear ho0)) | ((with_reducible refine gate_dst (N := 3) rfl ?_); refine box_event ?hg (N := 3) ?hd (cs := #[.int .i64 0, .slice none 0 0]) (t := 47) ?hr ?_; (case hd => rfl); (case hg => rfl); (case hr => exact qz5); intro gb108 hg w55 hbox hb; have n0_ := Aside0.mk (Kd.R_below (qz21 HO105.out) hb); have n1_ := Aside0.mk (IsS213.below (qz289 HI0.out NB0_101.out) hb); have n2_ := Aside0.mk (blk_below (g := gb101) (o := .cells #[.int .i64 0, .slice none 0 0] 47 (0, 0)) (qz8 BK101.out) hb); have n3_ := Aside0.mk (KeepBut.trans (qz417 GW101.out) (KeepBut.of_below hb g none) (.inl rfl)); have n4_ := Aside0.mk (below_step (qz290 HI0.out GE101.out) hb); have n5_ := Aside0.mk (hbox); have n6_ := Aside0.mk ((qz418 GW101.out : w.heap.size ≤ gb108)); have n7_ := Aside0.mk ((Nat.le_trans HW0.out (qz418 GW101.out : w.heap.size ≤ gb108) : w0.heap.size ≤ gb108)); have n8_ := Aside0.mk ((qz39 BK101.out : gb101 ≠ gb108)); have n9_ := Aside0.mk ((qz40 BK101.out : gb108 ≠ gb101)); have n10_ := Aside0.mk ((qz435 HI0.out NB0_101.out : g ≠ gb108)); have n11_ := Aside0.mk ((qz436 HI0.out NB0_101.out : gb108 ≠ g)); clear HO105; clear HI0; clear BK101; clear HK; clear HB; have HO105 := n0_; have HI0 := n1_; have BK101 := n2_; have HK := n3_; have HB := n4_; have BK108 := n5_; have GW108 := n6_; have GE108 := n7_; have NB101_108 := n8_; have NB108_101 := n9_; have NB0_108 := n10_; have NB108_0 := n11_; clear n0_ n1_ n2_ n3_ n4_ n5_ n6_ n7_ n8_ n9_ n10_ n11_; clear hb hbox hg; have hnb56 := NB108_101.out; have hnc56 := NB101_108.out; have hnb57 := NB108_0.out; have hnc57 := NB0_108.out; have hcz58_0 : w55.cell? ⟨gb108, 0, none⟩ = some (.int .i64 0) := (blk_cell BK108.out 0).trans rfl; have hcz58_1 : w55.cell? ⟨gb108, 1, none⟩ = some (.slice none 0 0) := (blk_cell BK108.out 1).trans rfl; have hfz58_0 := blk_frozen BK108.out 0; have hfz58_1 := blk_frozen BK108.out 1; obtain ⟨Ao59, co59, eo59⟩ := Kd.R_slice HO105.out; subst eo59) | ((with_reducible refine gate_callee (f := 134) rfl ?_); refine goesL_ (some 7) rfl rfl Try.func134 (by kernel_rfl) rfl #[.pointer (some ⟨g, 0, none⟩), .int .i64 12] rfl qz1 ?_; (with_reducible refine (spec_l01Cur_pick.calls g s0_0 t106 t107 12 t109 t110 t111 w0 _ ?side1 ?side2 A3.out).mono ?_); (case side1 => exact qz295 HI0.out NB0_101.out NB0_108.out); (case side2 => exact qz296 HI0.out GE101.out GE108.out); rintro e w60 ⟨rfl, hi, hb, hk⟩; refine ⟨_, rfl, ?_⟩; have n0_ := Aside0.mk (KeepBut.blk hk (g' := gb101) (o := .cells #[.int .i64 0, .slice none 0 0] 47 (0, 0)) (qz41 NB101_108.out BK101.out) NB101_0.out (by simp)); have n1_ := Aside0.mk (Kd.R_mono (Kd.R_keep (IsS213.apart (show IsS213 w0 _ g s0_0 t106 t107 from by repeat (first | (with_reducible first | exact HI0.out | apply IsS213.alloc | apply IsS213.drewN | apply IsS213.drew | apply IsS213.set_1 | apply IsS213.set_2 | refine IsS213.far ?_ NB0_101.out _ | refine IsS213.far ?_ NB0_108.out _) | exact HI0.out)) (by (with_reducible repeat (first | apply Kd.R_alloc | apply Kd.R_drewN | apply Kd.R_drew)); exact (Kd.R_mono (Kd.R_far (p := ⟨gb108, 1, none⟩) (Kd.R_far (p := ⟨gb108, 0, none⟩) (Kd.R_types HO105.out BK108.out (by decide)) (fun _ hk => hk.2) (.int .i64 t102)) (fun _ hk => hk.2) (.slice Ao59 t103.length co59)) (fun _ h_ => h_.1))) (by decide)) hk (fun _ h => h.2)) (fun _ h => h.1)); have n2_ := Aside0.mk (KeepBut.blk hk (g' := gb108) (o := .cells #[.int .i64 t102, .slice Ao59 t103.length co59] 47 (0, 0)) (qz167 BK108.out) NB108_0.out (by simp)); have n3_ := Aside0.mk (KeepBut.trans (qz421 GW101.out GW108.out) hk (.inl rfl)); have n4_ := Aside0.mk (hb); have n5_ := Aside0.mk (hi); clear BK101; clear HO105; clear BK108; clear HK; clear HB; clear HI0; have BK101 := n0_; have HO105 := n1_; have BK108 := n2_; have HK := n3_; have HB := n4_; have HI0 := n5_; clear n0_ n1_ n2_ n3_ n4_ n5_; (try clear hb); (try clear hb2); (try clear hk); (try clear hi); have hcz61_0 : w60.cell? ⟨gb108, 0, none⟩ = some (.int .i64 t102) := (blk_cell BK108.out 0).trans rfl; have hcz61_1 : w60.cell? ⟨gb108, 1, none⟩ = some (.slice Ao59 t103.length co59) := (blk_cell BK108.out 1).trans rfl; have hfz61_0 := blk_frozen BK108.out 0; have hfz61_1 := blk_frozen BK108.out 1) | ((with_reducible refine gate_builtin (b := .append) (xs := #[.tmp 40, .tmp 41]) rfl ?_); at_builtin; refine Kd.R_append (Kd.int .u64) w.heap.size rfl (.tmp 40) (.tmp 41) 45 153 (.int .u64 0) 8 rfl Try.underlying45 info153 rfl (by decide) (by omega) (.slice Ao59 t103.length co59) t103 1 [.int .u64 1] (fun _ => True) (fun _ => False) rfl rfl ?aP (fun _ hk => hk.elim) ?aF ?aO (Below.refl _ _) ?aS ?aL ?_; (case aP => exact rfl); (case aF => exact qz26); (case aO => exact qz80 HO105.out); (case aS => exact qz445 GW101.out GW108.out); (case aL => have := LMc52.out; omega); intro v130 w62 ho hb hg hat; rw [← Ny129.out] at ho; have n0_ := Aside0.mk (IsS213.grown (qz295 HI0.out NB0_101.out NB0_108.out) hg (IsS213.own_ne HI0.out HO105.out (by decide))); have n1_ := Aside0.mk (blk_grown (g := gb101) (o := .cells #[.int .i64 0, .slice none 0 0] 47 (0, 0)) (qz8 BK101.out) hg (Kd.R_ne HO105.out BK101.out (by decide))); have n2_ := Aside0.mk (blk_grown (g := gb108) (o := .cells #[.int .i64 t102, .slice Ao59 t103.length co59] 47 (0, 0)) (qz8 BK108.out) hg (Kd.R_ne HO105.out BK108.out (by decide))); have n3_ := Aside0.mk (below_weaken (qz296 HI0.out GE101.out GE108.out) HL.out hb); have n4_ := Aside0.mk (KeepBut.trans (qz421 GW101.out GW108.out) (KeepBut.of_grown hg g) (Kd.R_base2 HO105.out)); have n5_ := Aside0.mk (ho); clear HI0; clear BK101; clear BK108; clear HB; clear HK; clear HO105; have HI0 := n0_; have BK101 := n1_; have BK108 := n2_; have HB := n3_; have HK := n4_; have HO131 := n5_; clear n0_ n1_ n2_ n3_ n4_ n5_; clear ho hb hg hat; obtain ⟨Ao63, co63, eo63⟩ := Kd.R_slice HO131.out; subst eo63; have hcz64_0 : w62.cell? ⟨gb108, 0, none⟩ = some (.int .i64 t102) := (blk_cell BK108.out 0).trans rfl; have hcz64_1 : w62.cell? ⟨gb108, 1, none⟩ = some (.slice Ao59 t103.length co59) := (blk_cell BK108.out 1).trans rfl; have hfz64_0 := blk_frozen BK108.out 0; have hfz64_1 := blk_frozen BK108.out 1; have hnb65 := NB101_0.out; have hnc65 := NB0_101.out; have hcz66_0 : w62.cell? ⟨gb101, 0, none⟩ = some (.int .i64 0) := (blk_cell BK101.out 0).trans rfl; have hcz66_1 : w62.cell? ⟨gb101, 1, none⟩ = some (.slice none 0 0) := (blk_cell BK101.out 1).trans rfl; have hfz66_0 := blk_frozen BK101.out 0; have hfz66_1 := blk_frozen BK101.out 1))
     refine bodyPost_ret (results_cell_row rfl _ _ gb101 47 #[.int .i64 t102, .slice Ao63 y129.length co63] (0, 0) _ rfl (by (with_reducible repeat (first | refine blk_drewN ?_ _ | refine blk_drew ?_ | refine blk_alloc ?_ _)); refine blk_put (cs := #[.int .i64 t102, .slice none 0 0]) ?_ 1 _ rfl; (with_reducible repeat (first | refine blk_drewN ?_ _ | refine blk_drew ?_ | refine blk_alloc ?_ _)); refine blk_put (cs := #[.int .i64 0, .slice none 0 0]) ?_ 0 _ rfl; (with_reducible repeat (first | refine blk_drewN ?_ _ | refine blk_drew ?_ | refine blk_alloc ?_ _)); refine blk_far ?_ NB101_108.out _; (with_reducible repeat (first | refine blk_drewN ?_ _ | refine blk_drew ?_ | refine blk_alloc ?_ _)); exact BK101.out) Try.underlying47 rfl (by kernel_rfl)) rfl ?_
     exact ⟨_, qz13, by (with_reducible repeat (first | apply Kd.R_alloc | apply Kd.R_drewN | apply Kd.R_drew)); exact Kd.R_mono (Kd.R_far (p := ⟨gb101, 1, none⟩) (Kd.R_far (p := ⟨gb101, 0, none⟩) (Kd.R_far (p := ⟨gb108, 1, none⟩) (Kd.R_types (Kd.R_types HO131.out BK108.out (by decide)) BK101.out (by decide)) (fun _ hk => hk.1.2) (.slice Ao63 y129.length co63)) (fun _ hk => hk.2) (.int .i64 t102)) (fun _ hk => hk.2) (.slice Ao63 y129.length co63)) (fun _ hk => trivial), qz295 HI0.out NB0_101.out NB0_108.out, qz296 HI0.out GE101.out GE108.out, qz421 GW101.out GW108.out⟩
    ·rw [if_neg c52] at H
     exact absurd H (by simp)
   ·rw [if_neg c51] at H
    have c51b0 : (t109 == 2) = false := beq_eq_false_iff_ne.mpr c51
    have c51b1 : (t109 != 2) = true := bne_iff_ne.mpr c51
    simp only [Option.some.injEq, Prod.mk.injEq] at H
    obtain ⟨rfl, rfl, rfl, rfl⟩ := H
    go_enter Try.func117, Try.ntmps117
    go_wp2_with (first | ((with_reducible refine gate_dst (N := 2) rfl ?_); refine box_event ?hg (N := 2) ?hd (cs := #[.int .i64 0, .slice none 0 0]) (t := 47) ?hr ?_; (case hd => rfl); (case hg => rfl); (case hr => exact qz5); intro gb101 hg w67 hbox hb; have n0_ := Aside0.mk (IsS213.below (qz313 HI0.out) hb); have n1_ := Aside0.mk (KeepBut.trans qz408 (KeepBut.of_below hb g none) (.inl rfl)); have n2_ := Aside0.mk (below_step (qz314 HI0.out) hb); have n3_ := Aside0.mk (hbox); have n4_ := Aside0.mk ((qz414 : w.heap.size ≤ gb101)); have n5_ := Aside0.mk ((Nat.le_trans HW0.out (qz414 : w.heap.size ≤ gb101) : w0.heap.size ≤ gb101)); have n6_ := Aside0.mk ((qz415 HI0.out : g ≠ gb101)); have n7_ := Aside0.mk ((qz416 HI0.out : gb101 ≠ g)); clear HI0; clear HK; clear HB; have HI0 := n0_; have HK := n1_; have HB := n2_; have BK101 := n3_; have GW101 := n4_; have GE101 := n5_; have NB0_101 := n6_; have NB101_0 := n7_; clear n0_ n1_ n2_ n3_ n4_ n5_ n6_ n7_; clear hb hbox hg) | ((with_reducible refine gate_callee (f := 210) rfl ?_); refine goesL_ (some 5) rfl rfl Try.func210 (by kernel_rfl) rfl #[.pointer (some ⟨g, 0, none⟩)] rfl qz1 ?_; (with_reducible refine (spec_l01Cur_lat.calls k g s0_0 s0_1 s0_2 t102 t103 t106 t107 w0 _ ?side1 ?side2 A2.out).mono ?_); (case side1 => exact qz289 HI0.out NB0_101.out); (case side2 => exact qz290 HI0.out GE101.out); rintro e w68 ⟨v104, rfl, ho0, hi, hb, hk⟩; refine ⟨_, rfl, ?_⟩; have n0_ := Aside0.mk (KeepBut.blk hk (g' := gb101) (o := .cells #[.int .i64 0, .slice none 0 0] 47 (0, 0)) (qz8 BK101.out) NB101_0.out (by simp)); have n1_ := Aside0.mk (Kd.R_lower ho0 (keep_size (w := w) (g := g) (row := none) (qz417 GW101.out))); have n2_ := Aside0.mk (KeepBut.trans (qz417 GW101.out) hk (.inl rfl)); have n3_ := Aside0.mk (hb); have n4_ := Aside0.mk (hi); clear BK101; clear HK; clear HB; clear HI0; have BK101 := n0_; have HO105 := n1_; have HK := n2_; have HB := n3_; have HI0 := n4_; clear n0_ n1_ n2_ n3_ n4_; (try clear hb); (try clear hb2); (try clear hk); (try clear hi); (try clear ho0)) | ((with_reducible refine gate_dst (N := 3) rfl ?_); refine box_event ?hg (N := 3) ?hd (cs := #[.int .i64 0, .slice none 0 0]) (t := 47) ?hr ?_; (case hd => rfl); (case hg => rfl); (case hr => exact qz5); intro gb108 hg w69 hbox hb; have n0_ := Aside0.mk (Kd.R_below (qz21 HO105.out) hb); have n1_ := Aside0.mk (IsS213.below (qz289 HI0.out NB0_101.out) hb); have n2_ := Aside0.mk (blk_below (g := gb101) (o := .cells #[.int .i64 0, .slice none 0 0] 47 (0, 0)) (qz8 BK101.out) hb); have n3_ := Aside0.mk (KeepBut.trans (qz417 GW101.out) (KeepBut.of_below hb g none) (.inl rfl)); have n4_ := Aside0.mk (below_step (qz290 HI0.out GE101.out) hb); have n5_ := Aside0.mk (hbox); have n6_ := Aside0.mk ((qz418 GW101.out : w.heap.size ≤ gb108)); have n7_ := Aside0.mk ((Nat.le_trans HW0.out (qz418 GW101.out : w.heap.size ≤ gb108) : w0.heap.size ≤ gb108)); have n8_ := Aside0.mk ((qz39 BK101.out : gb101 ≠ gb108)); have n9_ := Aside0.mk ((qz40 BK101.out : gb108 ≠ gb101)); have n10_ := Aside0.mk ((qz435 HI0.out NB0_101.out : g ≠ gb108)); have n11_ := Aside0.mk ((qz436 HI0.out NB0_101.out : gb108 ≠ g)); clear HO105; clear HI0; clear BK101; clear HK; clear HB; have HO105 := n0_; have HI0 := n1_; have BK101 := n2_; have HK := n3_; have HB := n4_; have BK108 := n5_; have GW108 := n6_; have GE108 := n7_; have NB101_108 := n8_; have NB108_101 := n9_; have NB0_108 := n10_; have NB108_0 := n11_; clear n0_ n1_ n2_ n3_ n4_ n5_ n6_ n7_ n8_ n9_ n10_ n11_; clear hb hbox hg; have hnb70 := NB108_101.out; have hnc70 := NB101_108.out; have hnb71 := NB108_0.out; have hnc71 := NB0_108.out; have hcz72_0 : w69.cell? ⟨gb108, 0, none⟩ = some (.int .i64 0) := (blk_cell BK108.out 0).trans rfl; have hcz72_1 : w69.cell? ⟨gb108, 1, none⟩ = some (.slice none 0 0) := (blk_cell BK108.out 1).trans rfl; have hfz72_0 := blk_frozen BK108.out 0; have hfz72_1 := blk_frozen BK108.out 1; obtain ⟨Ao73, co73, eo73⟩ := Kd.R_slice HO105.out; subst eo73) | ((with_reducible refine gate_callee (f := 134) rfl ?_); refine goesL_ (some 7) rfl rfl Try.func134 (by kernel_rfl) rfl #[.pointer (some ⟨g, 0, none⟩), .int .i64 12] rfl qz1 ?_; (with_reducible refine (spec_l01Cur_pick.calls g s0_0 t106 t107 12 t109 t110 t111 w0 _ ?side1 ?side2 A3.out).mono ?_); (case side1 => exact qz295 HI0.out NB0_101.out NB0_108.out); (case side2 => exact qz296 HI0.out GE101.out GE108.out); rintro e w74 ⟨rfl, hi, hb, hk⟩; refine ⟨_, rfl, ?_⟩; have n0_ := Aside0.mk (KeepBut.blk hk (g' := gb101) (o := .cells #[.int .i64 0, .slice none 0 0] 47 (0, 0)) (qz41 NB101_108.out BK101.out) NB101_0.out (by simp)); have n1_ := Aside0.mk (Kd.R_mono (Kd.R_keep (IsS213.apart (show IsS213 w0 _ g s0_0 t106 t107 from by repeat (first | (with_reducible first | exact HI0.out | apply IsS213.alloc | apply IsS213.drewN | apply IsS213.drew | apply IsS213.set_1 | apply IsS213.set_2 | refine IsS213.far ?_ NB0_101.out _ | refine IsS213.far ?_ NB0_108.out _) | exact HI0.out)) (by (with_reducible repeat (first | apply Kd.R_alloc | apply Kd.R_drewN | apply Kd.R_drew)); exact (Kd.R_mono (Kd.R_far (p := ⟨gb108, 1, none⟩) (Kd.R_far (p := ⟨gb108, 0, none⟩) (Kd.R_types HO105.out BK108.out (by decide)) (fun _ hk => hk.2) (.int .i64 t102)) (fun _ hk => hk.2) (.slice Ao73 t103.length co73)) (fun _ h_ => h_.1))) (by decide)) hk (fun _ h => h.2)) (fun _ h => h.1)); have n2_ := Aside0.mk (KeepBut.blk hk (g' := gb108) (o := .cells #[.int .i64 t102, .slice Ao73 t103.length co73] 47 (0, 0)) (qz167 BK108.out) NB108_0.out (by simp)); have n3_ := Aside0.mk (KeepBut.trans (qz421 GW101.out GW108.out) hk (.inl rfl)); have n4_ := Aside0.mk (hb); have n5_ := Aside0.mk (hi); clear BK101; clear HO105; clear BK108; clear HK; clear HB; clear HI0; have BK101 := n0_; have HO105 := n1_; have BK108 := n2_; have HK := n3_; have HB := n4_; have HI0 := n5_; clear n0_ n1_ n2_ n3_ n4_ n5_; (try clear hb); (try clear hb2); (try clear hk); (try clear hi); have hcz75_0 : w74.cell? ⟨gb108, 0, none⟩ = some (.int .i64 t102) := (blk_cell BK108.out 0).trans rfl; have hcz75_1 : w74.cell? ⟨gb108, 1, none⟩ = some (.slice Ao73 t103.length co73) := (blk_cell BK108.out 1).trans rfl; have hfz75_0 := blk_frozen BK108.out 0; have hfz75_1 := blk_frozen BK108.out 1; have hnb76 := NB101_0.out; have hnc76 := NB0_101.out; have hcz77_0 : w74.cell? ⟨gb101, 0, none⟩ = some (.int .i64 0) := (blk_cell BK101.out 0).trans rfl; have hcz77_1 : w74.cell? ⟨gb101, 1, none⟩ = some (.slice none 0 0) := (blk_cell BK101.out 1).trans rfl; have hfz77_0 := blk_frozen BK101.out 0; have hfz77_1 := blk_frozen BK101.out 1))
    refine bodyPost_ret (results_cell_row rfl _ _ gb101 47 #[.int .i64 t102, .slice Ao73 t103.length co73] (0, 0) _ rfl (qz167 BK101.out) Try.underlying47 rfl (by kernel_rfl)) rfl ?_
    exact ⟨_, qz13, by (with_reducible repeat (first | apply Kd.R_alloc | apply Kd.R_drewN | apply Kd.R_drew)); exact Kd.R_mono (Kd.R_far (p := ⟨gb101, 1, none⟩) (Kd.R_far (p := ⟨gb101, 0, none⟩) (Kd.R_types HO105.out BK101.out (by decide)) (fun _ hk => hk.2) (.int .i64 t102)) (fun _ hk => hk.2) (.slice Ao73 t103.length co73)) (fun _ hk => trivial), qz295 HI0.out NB0_101.out NB0_108.out, qz296 HI0.out GE101.out GE108.out, qz421 GW101.out GW108.out⟩

end Go.Proofs.Ytjhfjnknajhanaa.P

namespace Go.Proofs.Ytjhfjnknajhanaa.P
open Go.RowKit Go.Proofs.YtjhfjnknajhanaaW.PrintWords Go.Proofs.YtjhfjnknajhanaaW.PrintLast Go.Proofs.YtjhfjnknajhanaaW.PrintMore
attribute [local go_sem] max2_int min2_int max_two min_two max_three min_three max_four min_four   -- for this text's walks alone
set_option linter.unusedVariables false
set_option linter.unusedSimpArgs false

/-! ### spec_l01Open: function 116 -/
set_option maxHeartbeats 8000000 in
set_option maxRecDepth 100000 in
theorem spec_l01Open.calls (A0 : Option Addr) (c0 : Nat) (l0 : List Int) (r1 : List Int) (r2 : Int) (r3 : Int) (w0 w : World) (hB : Below w0.heap.size w0 w) (hr0 : Kd.C (Kd.int .u8) w0 A0 l0.length l0) (hc0 : l0.length ≤ c0) (h : spec_l01Open.f l0 = some (r1, r2, r3)) :
  Calls Try.prog 116 #[.slice A0 l0.length c0] w fun e w' => ∃ g_ : Nat, e = .returned (.pointer (some ⟨g_, 0, none⟩)) ∧ IsS213 w0 w' g_ r1 r2 r3 ∧ Below w0.heap.size w0 w' ∧ Below w.heap.size w w' := by
 have hu213 := Try.underlying213
 have HR0 := Aside0.mk hr0
 have HC0 := Aside0.mk hc0
 clear hr0 hc0
 have HBW := Aside0.mk (Below.refl w.heap.size w)
 have HW0 := Aside0.mk hB.size
 have HB := Aside0.mk hB
 clear hB
 have H : (some (l0, 0, 101 + ((l0.length : Int) % 1000))) = some (r1, r2, r3) := h
 clear h
 simp only [Option.some.injEq, Prod.mk.injEq] at H
 obtain ⟨rfl, rfl, rfl⟩ := H
 go_enter Try.func116, Try.ntmps116
 go_wp2_with (first | ((with_reducible refine gate_dst (N := 9) rfl ?_); refine box_event ?hg (N := 9) ?hd (cs := #[.slice A0 l0.length c0, .int .i64 0, .int .i64 (101 + ((l0.length : Int) % 1000))]) (t := 213) ?hr ?_; (case hd => rfl); (case hg => rfl); (case hr => exact qz5); intro gb101 hg w2 hbox hb; have n0_ := Aside0.mk (below_step HBW.out hb); have n1_ := Aside0.mk (below_step qz6 hb); have n2_ := Aside0.mk (hbox); have n3_ := Aside0.mk ((qz615 : w.heap.size ≤ gb101)); have n4_ := Aside0.mk ((Nat.le_trans HW0.out (qz615 : w.heap.size ≤ gb101) : w0.heap.size ≤ gb101)); clear HBW; clear HB; have HBW := n0_; have HB := n1_; have BK101 := n2_; have GW101 := n3_; have GE101 := n4_; clear n0_ n1_ n2_ n3_ n4_; clear hb hbox hg))
 go_ret
 exact ⟨_, rfl, (show IsS213 w0 _ gb101 l0 0 (101 + ((l0.length : Int) % 1000)) from ⟨_, _, qz8 BK101.out, GE101.out, HR0.out⟩), qz10 GE101.out, by repeat (first | (with_reducible first | exact HBW.out | apply below_alloc | apply pw_below_drewN | apply below_drew1 | refine below_set ?_ GW101.out) | exact HBW.out)⟩

end Go.Proofs.Ytjhfjnknajhanaa.P

namespace Go.Proofs.Ytjhfjnknajhanaa.P
open Go.RowKit Go.Proofs.YtjhfjnknajhanaaW.PrintWords Go.Proofs.YtjhfjnknajhanaaW.PrintLast Go.Proofs.YtjhfjnknajhanaaW.PrintMore
attribute [local go_sem] max2_int min2_int max_two min_two max_three min_three max_four min_four   -- for this text's walks alone
set_option linter.unusedVariables false
set_option linter.unusedSimpArgs false

/-! ### spec_DrawLatEdges: function 28 -/
set_option maxHeartbeats 8000000 in
set_option maxRecDepth 100000 in
theorem spec_DrawLatEdges.calls (k : Nat) (A0 : Option Addr) (c0 : Nat) (l0 : List Int) (r1 : Int) (r2 : List Int) (w : World) (hr0 : Kd.C (Kd.int .u8) w A0 l0.length l0) (hc0 : l0.length ≤ c0) (h : spec_DrawLatEdges.f k l0 = some (r1, r2)) :
  Calls Try.prog 28 #[.slice A0 l0.length c0] w fun e w' => ∃ v1_ : Value, e = .returned (.agg #[.int .i64 r1, v1_]) ∧ Kd.R (Kd.int .u64) 153 w' w.heap.size (fun _ => True) v1_ r2 ∧ Below w.heap.size w w' := by
 have hu47 := Try.underlying47
 have HR0 := Aside0.mk hr0
 have HC0 := Aside0.mk hc0
 clear hr0 hc0
 have HB := Aside0.mk (Below.refl w.heap.size w)
 have H : ((spec_l01Open.f l0).bind fun bt102 => ((spec_l01Cur_badLat.f k bt102.1 bt102.2.1 bt102.2.2).bind fun bt106 => (some (bt106.1, bt106.2.1)))) = some (r1, r2) := h
 clear h
 replace H := Option.bind_eq_some_iff.mp H
 obtain ⟨⟨t102, t103, t104⟩, A20, H⟩ := H
 replace H : ((spec_l01Cur_badLat.f k t102 t103 t104).bind fun bt106 => (some (bt106.1, bt106.2.1))) = some (r1, r2) := H
 have A2 := Aside0.mk A20
 clear A20
 replace H := Option.bind_eq_some_iff.mp H
 obtain ⟨⟨t106, t107, t110, t111⟩, A30, H⟩ := H
 replace H : (some (t106, t107)) = some (r1, r2) := H
 have A3 := Aside0.mk A30
 clear A30
 simp only [Option.some.injEq, Prod.mk.injEq] at H
 obtain ⟨rfl, rfl⟩ := H
 go_enter Try.func28, Try.ntmps28
 go_wp2_with (first | ((with_reducible refine gate_dst (N := 2) rfl ?_); refine box_event ?hg (N := 2) ?hd (cs := #[.int .i64 0, .slice none 0 0]) (t := 47) ?hr ?_; (case hd => rfl); (case hg => rfl); (case hr => exact qz5); intro gb101 hg w4 hbox hb; have n0_ := Aside0.mk (below_step qz6 hb); have n1_ := Aside0.mk (hbox); have n2_ := Aside0.mk ((qz7 : w.heap.size ≤ gb101)); have n3_ := Aside0.mk ((qz7 : w.heap.size ≤ gb101)); clear HB; have HB := n0_; have BK101 := n1_; have GW101 := n2_; have GE101 := n3_; clear n0_ n1_ n2_ n3_; clear hb hbox hg) | ((with_reducible refine gate_callee (f := 116) rfl ?_); refine goesL_ (some 5) rfl rfl Try.func116 (by kernel_rfl) rfl #[.slice A0 l0.length c0] rfl qz1 ?_; (with_reducible refine (spec_l01Open.calls _ _ l0 t102 t103 t104 w _ ?side1 ?side2 ?side3 A2.out).mono ?_); (case side1 => exact qz10 GE101.out); (case side2 => exact HR0.out); (case side3 => exact HC0.out); rintro e w5 ⟨g105, rfl, hi, hb, hb2⟩; refine ⟨_, rfl, ?_⟩; have n0_ := Aside0.mk (blk_below (g := gb101) (o := .cells #[.int .i64 0, .slice none 0 0] 47 (0, 0)) (qz8 BK101.out) hb2); have n1_ := Aside0.mk (hb); have n2_ := Aside0.mk (hi); have n3_ := Aside0.mk (IsS213.ne_blk hi (blk_below (g := gb101) (o := .cells #[.int .i64 0, .slice none 0 0] 47 (0, 0)) (qz8 BK101.out) hb2) (by decide)); have n4_ := Aside0.mk (Ne.symm (IsS213.ne_blk hi (blk_below (g := gb101) (o := .cells #[.int .i64 0, .slice none 0 0] 47 (0, 0)) (qz8 BK101.out) hb2) (by decide))); clear BK101; clear HB; have BK101 := n0_; have HB := n1_; have HI105 := n2_; have NB105_101 := n3_; have NB101_105 := n4_; clear n0_ n1_ n2_ n3_ n4_; (try clear hb); (try clear hb2); (try clear hk); (try clear hi)) | ((with_reducible refine gate_callee (f := 117) rfl ?_); refine goesL_ (some 7) rfl rfl Try.func117 (by kernel_rfl) rfl #[.pointer (some ⟨g105, 0, none⟩)] rfl qz1 ?_; (with_reducible refine (spec_l01Cur_badLat.calls k g105 t102 t103 t104 t106 t107 t110 t111 w _ ?side1 ?side2 A3.out).mono ?_); (case side1 => exact qz289 HI105.out NB105_101.out); (case side2 => exact qz290 HI105.out GE101.out); rintro e w6 ⟨v108, rfl, ho0, hi, hb, hk⟩; refine ⟨_, rfl, ?_⟩; have n0_ := Aside0.mk (KeepBut.blk hk (g' := gb101) (o := .cells #[.int .i64 0, .slice none 0 0] 47 (0, 0)) (qz8 BK101.out) NB101_105.out (by simp)); have n1_ := Aside0.mk (Kd.R_lower ho0 (below_size (qz290 HI105.out GE101.out))); have n2_ := Aside0.mk (hb); have n3_ := Aside0.mk (hi); clear BK101; clear HB; clear HI105; have BK101 := n0_; have HO109 := n1_; have HB := n2_; have HI105 := n3_; clear n0_ n1_ n2_ n3_; (try clear hb); (try clear hb2); (try clear hk); (try clear hi); (try clear ho0); have hnb7 := NB101_105.out; have hnc7 := NB105_101.out; have hcz8_0 : w6.cell? ⟨gb101, 0, none⟩ = some (.int .i64 0) := (blk_cell BK101.out 0).trans rfl; have hcz8_1 : w6.cell? ⟨gb101, 1, none⟩ = some (.slice none 0 0) := (blk_cell BK101.out 1).trans rfl; have hfz8_0 := blk_frozen BK101.out 0; have hfz8_1 := blk_frozen BK101.out 1; obtain ⟨Ao9, co9, eo9⟩ := Kd.R_slice HO109.out; subst eo9))
 refine bodyPost_ret (results_cell_row rfl _ _ gb101 47 #[.int .i64 t106, .slice Ao9 t107.length co9] (0, 0) _ rfl (qz320 BK101.out) Try.underlying47 rfl (by kernel_rfl)) rfl ?_
 exact ⟨_, qz13, by (with_reducible repeat (first | apply Kd.R_alloc | apply Kd.R_drewN | apply Kd.R_drew)); exact Kd.R_mono (Kd.R_far (p := ⟨gb101, 1, none⟩) (Kd.R_far (p := ⟨gb101, 0, none⟩) (Kd.R_types HO109.out BK101.out (by decide)) (fun _ hk => hk.2) (.int .i64 t106)) (fun _ hk => hk.2) (.slice Ao9 t107.length co9)) (fun _ hk => trivial), qz290 HI105.out GE101.out⟩

end Go.Proofs.Ytjhfjnknajhanaa.P

namespace Go.Proofs.Ytjhfjnknajhanaa.P
open Go.RowKit Go.Proofs.YtjhfjnknajhanaaW.PrintWords Go.Proofs.YtjhfjnknajhanaaW.PrintLast Go.Proofs.YtjhfjnknajhanaaW.PrintMore
attribute [local go_sem] max2_int min2_int max_two min_two max_three min_three max_four min_four   -- for this text's walks alone
set_option linter.unusedVariables false
set_option linter.unusedSimpArgs false

/-! ### laws_FnLatEdges: function 4 -/
set_option maxHeartbeats 8000000 in
set_option maxRecDepth 100000 in
theorem laws_FnLatEdges.calls (k : Nat) (A0 : Option Addr) (c0 : Nat) (l0 : List Int) (r : Bool) (w : World) (hr0 : Kd.C (Kd.int .u8) w A0 l0.length l0) (hc0 : l0.length ≤ c0) (h : laws_FnLatEdges.f k l0 = some r) :
  Calls Try.prog 4 #[.slice A0 l0.length c0] w fun e w' => e = .returned (.bool r) ∧ Below w.heap.size w w' := by
 have hu47 := Try.underlying47
 have HR0 := Aside0.mk hr0
 have HC0 := Aside0.mk hc0
 clear hr0 hc0
 have HB := Aside0.mk (Below.refl w.heap.size w)
 have H : ((laws_big.f l0).bind fun t101 => (if t101 = true then (some true) else ((spec_DrawLatEdges.f k l0).bind fun bt102 => ((impl_LatEdges.f k bt102.1 bt102.2).bind fun t107 => ((spec_LatOk.f k bt102.1 bt102.2).bind fun t110 => (if t110 = true then ((impl_LatOf.f k bt102.1 t107).bind fun bt111 => (if bt111.2.2 = true then ((laws_sameLat.f k bt111.1 bt111.2.1 bt102.1 bt102.2).bind fun t117 => (if t117 = true then ((impl_LatOk.f k bt111.1 bt111.2.1).bind fun t118 => (some t118)) else (some false))) else (some false))) else (some ((t107.length : Int) == 0)))))))) = some r := h
 clear h
 replace H := Option.bind_eq_some_iff.mp H
 obtain ⟨t101, A20, H⟩ := H
 replace H : (if t101 = true then (some true) else ((spec_DrawLatEdges.f k l0).bind fun bt102 => ((impl_LatEdges.f k bt102.1 bt102.2).bind fun t107 => ((spec_LatOk.f k bt102.1 bt102.2).bind fun t110 => (if t110 = true then ((impl_LatOf.f k bt102.1 t107).bind fun bt111 => (if bt111.2.2 = true then ((laws_sameLat.f k bt111.1 bt111.2.1 bt102.1 bt102.2).bind fun t117 => (if t117 = true then ((impl_LatOk.f k bt111.1 bt111.2.1).bind fun t118 => (some t118)) else (some false))) else (some false))) else (some ((t107.length : Int) == 0))))))) = some r := H
 have A2 := Aside0.mk A20
 clear A20
 by_cases c3 : t101 = true
 ·subst c3
  have H1 : (some true) = some r := by rw [if_pos rfl] at H; exact H
  clear H
  have H := H1
  clear H1
  obtain rfl := Option.some.inj H
  go_enter Try.func4, Try.ntmps4
  go_wp2_with (first | ((with_reducible refine gate_callee (f := 19) rfl ?_); refine goesL_ (some 8) rfl rfl Try.func19 (by kernel_rfl) rfl #[.slice A0 l0.length c0] rfl qz1 ?_; (with_reducible refine (laws_big.calls _ _ l0 true _ ?side1 ?side2 A2.out).mono ?_); (case side1 => exact qz62 HR0.out); (case side2 => exact HC0.out); rintro e w' ⟨rfl, ⟨nd, rfl⟩⟩; refine ⟨_, rfl, ?_⟩))
  go_ret
  exact ⟨qz13, qz6⟩
 ·replace c3 := Bool.eq_false_iff.mpr c3
  subst c3
  have H1 : ((spec_DrawLatEdges.f k l0).bind fun bt102 => ((impl_LatEdges.f k bt102.1 bt102.2).bind fun t107 => ((spec_LatOk.f k bt102.1 bt102.2).bind fun t110 => (if t110 = true then ((impl_LatOf.f k bt102.1 t107).bind fun bt111 => (if bt111.2.2 = true then ((laws_sameLat.f k bt111.1 bt111.2.1 bt102.1 bt102.2).bind fun t117 => (if t117 = true then ((impl_LatOk.f k bt111.1 bt111.2.1).bind fun t118 => (some t118)) else (some false))) else (some false))) else (some ((t107.length : Int) == 0)))))) = some r := by rw [if_neg (show ¬ (false = true) by decide)] at H; exact H
  clear H
  have H := H1
  clear H1
  replace H := Option.bind_eq_some_iff.mp H
  obtain ⟨⟨t102, t103⟩, A40, H⟩ := H
  replace H : ((impl_LatEdges.f k t102 t103).bind fun t107 => ((spec_LatOk.f k t102 t103).bind fun t110 => (if t110 = true then ((impl_LatOf.f k t102 t107).bind fun bt111 => (if bt111.2.2 = true then ((laws_sameLat.f k bt111.1 bt111.2.1 t102 t103).bind fun t117 => (if t117 = true then ((impl_LatOk.f k bt111.1 bt111.2.1).bind fun t118 => (some t118)) else (some false))) else (some false))) else (some ((t107.length : Int) == 0))))) = some r := H
  have A4 := Aside0.mk A40
  clear A40
  replace H := Option.bind_eq_some_iff.mp H
  obtain ⟨t107, A50, H⟩ := H
  replace H : ((spec_LatOk.f k t102 t103).bind fun t110 => (if t110 = true then ((impl_LatOf.f k t102 t107).bind fun bt111 => (if bt111.2.2 = true then ((laws_sameLat.f k bt111.1 bt111.2.1 t102 t103).bind fun t117 => (if t117 = true then ((impl_LatOk.f k bt111.1 bt111.2.1).bind fun t118 => (some t118)) else (some false))) else (some false))) else (some ((t107.length : Int) == 0)))) = some r := H
  have A5 := Aside0.mk A50
  clear A50
  replace H := Option.bind_eq_some_iff.mp H
  obtain ⟨t110, A60, H⟩ := H
  replace H : (if t110 = true then ((impl_LatOf.f k t102 t107).bind fun bt111 => (if bt111.2.2 = true then ((laws_sameLat.f k bt111.1 bt111.2.1 t102 t103).bind fun t117 => (if t117 = true then ((impl_LatOk.f k bt111.1 bt111.2.1).bind fun t118 => (some t118)) else (some false))) else (some false))) else (some ((t107.length : Int) == 0))) = some r := H
  have A6 := Aside0.mk A60
  clear A60
  by_cases c7 : t110 = true
  ·subst c7
   have H1 : ((impl_LatOf.f k t102 t107).bind fun bt111 => (if bt111.2.2 = true then ((laws_sameLat.f k bt111.1 bt111.2.1 t102 t103).bind fun t117 => (if t117 = true then ((impl_LatOk.f k bt111.1 bt111.2.1).bind fun t118 => (some t118)) else (some false))) else (some false))) = some r := by rw [if_pos rfl] at H; exact H
   clear H
   have H := H1
   clear H1
   replace H := Option.bind_eq_some_iff.mp H
   obtain ⟨⟨t111, t112, t115⟩, A80, H⟩ := H
   replace H : (if t115 = true then ((laws_sameLat.f k t111 t112 t102 t103).bind fun t117 => (if t117 = true then ((impl_LatOk.f k t111 t112).bind fun t118 => (some t118)) else (some false))) else (some false)) = some r := H
   have A8 := Aside0.mk A80
   clear A80
   by_cases c9 : t115 = true
   ·subst c9
    have H1 : ((laws_sameLat.f k t111 t112 t102 t103).bind fun t117 => (if t117 = true then ((impl_LatOk.f k t111 t112).bind fun t118 => (some t118)) else (some false))) = some r := by rw [if_pos rfl] at H; exact H
    clear H
    have H := H1
    clear H1
    replace H := Option.bind_eq_some_iff.mp H
    obtain ⟨t117, A100, H⟩ := H
    replace H : (if t117 = true then ((impl_LatOk.f k t111 t112).bind fun t118 => (some t118)) else (some false)) = some r := H
    have A10 := Aside0.mk A100
    clear A100
    by_cases c11 : t117 = true
    ·subst c11
     have H1 : ((impl_LatOk.f k t111 t112).bind fun t118 => (some t118)) = some r := by rw [if_pos rfl] at H; exact H
     clear H
     have H := H1
     clear H1
     replace H := Option.bind_eq_some_iff.mp H
     obtain ⟨t118, A120, H⟩ := H
     replace H : (some t118) = some r := H
     have A12 := Aside0.mk A120
     clear A120
     obtain rfl := Option.some.inj H
     go_enter Try.func4, Try.ntmps4
     go_wp2_with (first | ((with_reducible refine gate_callee (f := 19) rfl ?_); refine goesL_ (some 8) rfl rfl Try.func19 (by kernel_rfl) rfl #[.slice A0 l0.length c0] rfl qz1 ?_; (with_reducible refine (laws_big.calls _ _ l0 false _ ?side1 ?side2 A2.out).mono ?_); (case side1 => exact qz62 HR0.out); (case side2 => exact HC0.out); rintro e w' ⟨rfl, ⟨nd, rfl⟩⟩; refine ⟨_, rfl, ?_⟩) | ((with_reducible refine gate_callee (f := 28) rfl ?_); refine goesL_ (some 10) rfl rfl Try.func28 (by kernel_rfl) rfl #[.slice A0 l0.length c0] rfl qz1 ?_; (with_reducible refine (spec_DrawLatEdges.calls k _ _ l0 t102 t103 _ ?side1 ?side2 A4.out).mono ?_); (case side1 => exact qz62 HR0.out); (case side2 => exact HC0.out); rintro e w13 ⟨v104, rfl, ho0, hb⟩; refine ⟨_, rfl, ?_⟩; have n0_ := Aside0.mk (Kd.R_lower ho0 (below_size qz6)); have n1_ := Aside0.mk (below_step qz6 hb); clear HB; have HO105 := n0_; have HB := n1_; clear n0_ n1_; (try clear hb); (try clear hb2); (try clear hk); (try clear hi); (try clear ho0)) | ((with_reducible refine gate_dst (N := 3) rfl ?_); refine box_event ?hg (N := 3) ?hd (cs := #[.int .i64 0, .slice none 0 0]) (t := 47) ?hr ?_; (case hd => rfl); (case hg => rfl); (case hr => exact qz5); intro gb106 hg w14 hbox hb; have n0_ := Aside0.mk (Kd.R_below (qz21 HO105.out) hb); have n1_ := Aside0.mk (below_step qz6 hb); have n2_ := Aside0.mk (hbox); have n3_ := Aside0.mk ((qz7 : w.heap.size ≤ gb106)); have n4_ := Aside0.mk ((qz7 : w.heap.size ≤ gb106)); clear HO105; clear HB; have HO105 := n0_; have HB := n1_; have BK106 := n2_; have GW106 := n3_; have GE106 := n4_; clear n0_ n1_ n2_ n3_ n4_; clear hb hbox hg; have hcz15_0 : w14.cell? ⟨gb106, 0, none⟩ = some (.int .i64 0) := (blk_cell BK106.out 0).trans rfl; have hcz15_1 : w14.cell? ⟨gb106, 1, none⟩ = some (.slice none 0 0) := (blk_cell BK106.out 1).trans rfl; have hfz15_0 := blk_frozen BK106.out 0; have hfz15_1 := blk_frozen BK106.out 1; obtain ⟨Ao16, co16, eo16⟩ := Kd.R_slice HO105.out; subst eo16) | ((with_reducible refine gate_callee (f := 29) rfl ?_); refine goesL_ (some 12) rfl rfl Try.func29 (by kernel_rfl) rfl #[.agg #[.int .i64 t102, .slice Ao16 t103.length co16]] rfl qz1 ?_; (with_reducible refine (impl_LatEdges.calls k t102 _ _ t103 t107 _ ?side1 ?side2 A5.out).mono ?_); (case side1 => refine (Kd.R_reads' (e := 153) (base := w.heap.size) (ok := fun k_ => True) (n := t103.length) (c := co16) ?_).2.2; exact (qz176 HO105.out BK106.out)); (case side2 => exact qz20 HO105.out); rintro e w17 ⟨v108, rfl, ho0, hb⟩; refine ⟨_, rfl, ?_⟩; have n0_ := Aside0.mk (Kd.R_below (qz176 HO105.out BK106.out) hb); have n1_ := Aside0.mk (Kd.R_lower ho0 (below_size (qz10 GE106.out))); have n2_ := Aside0.mk (blk_below (g := gb106) (o := .cells #[.int .i64 t102, .slice Ao16 t103.length co16] 47 (0, 0)) (qz167 BK106.out) hb); have n3_ := Aside0.mk (below_step (qz10 GE106.out) hb); clear HO105; clear BK106; clear HB; have HO105 := n0_; have HO109 := n1_; have BK106 := n2_; have HB := n3_; clear n0_ n1_ n2_ n3_; (try clear hb); (try clear hb2); (try clear hk); (try clear hi); (try clear ho0); have hcz18_0 : w17.cell? ⟨gb106, 0, none⟩ = some (.int .i64 t102) := (blk_cell BK106.out 0).trans rfl; have hcz18_1 : w17.cell? ⟨gb106, 1, none⟩ = some (.slice Ao16 t103.length co16) := (blk_cell BK106.out 1).trans rfl; have hfz18_0 := blk_frozen BK106.out 0; have hfz18_1 := blk_frozen BK106.out 1) | ((with_reducible refine gate_callee (f := 30) rfl ?_); refine goesL_ (some 14) rfl rfl Try.func30 (by kernel_rfl) rfl #[.agg #[.int .i64 t102, .slice Ao16 t103.length co16]] rfl qz1 ?_; (with_reducible refine (spec_LatOk.calls k t102 _ _ t103 true _ ?side1 ?side2 A6.out).mono ?_); (case side1 => exact qz19 HO105.out); (case side2 => exact qz20 HO105.out); rintro e w19 ⟨rfl, hb⟩; refine ⟨_, rfl, ?_⟩; have n0_ := Aside0.mk (Kd.R_below (qz21 HO105.out) hb); have n1_ := Aside0.mk (Kd.R_below (qz21 HO109.out) hb); have n2_ := Aside0.mk (blk_below (g := gb106) (o := .cells #[.int .i64 t102, .slice Ao16 t103.length co16] 47 (0, 0)) (qz8 BK106.out) hb); have n3_ := Aside0.mk (below_step (qz10 GE106.out) hb); clear HO105; clear HO109; clear BK106; clear HB; have HO105 := n0_; have HO109 := n1_; have BK106 := n2_; have HB := n3_; clear n0_ n1_ n2_ n3_; (try clear hb); (try clear hb2); (try clear hk); (try clear hi); have hcz20_0 : w19.cell? ⟨gb106, 0, none⟩ = some (.int .i64 t102) := (blk_cell BK106.out 0).trans rfl; have hcz20_1 : w19.cell? ⟨gb106, 1, none⟩ = some (.slice Ao16 t103.length co16) := (blk_cell BK106.out 1).trans rfl; have hfz20_0 := blk_frozen BK106.out 0; have hfz20_1 := blk_frozen BK106.out 1; obtain ⟨Ao21, co21, eo21⟩ := Kd.R_slice HO109.out; subst eo21) | ((with_reducible refine gate_callee (f := 31) rfl ?_); refine goesL_ (some 23) rfl rfl Try.func31 (by kernel_rfl) rfl #[.int .i64 t102, .slice Ao21 t107.length co21] rfl qz1 ?_; (with_reducible refine (impl_LatOf.calls k t102 _ _ t107 t111 t112 true _ ?side1 ?side2 A8.out).mono ?_); (case side1 => exact qz19 HO109.out); (case side2 => exact qz20 HO109.out); rintro e w22 ⟨v113, rfl, ho0, hb⟩; refine ⟨_, rfl, ?_⟩; have n0_ := Aside0.mk (Kd.R_elder' (qz21 HO105.out) (Kd.R_base ho0) hb); have n1_ := Aside0.mk (Kd.R_below (qz21 HO109.out) hb); have n2_ := Aside0.mk (Kd.R_lower (Kd.R_new' ho0 (Kd.R_lt (qz21 HO105.out))) (below_size (qz10 GE106.out))); have n3_ := Aside0.mk (blk_below (g := gb106) (o := .cells #[.int .i64 t102, .slice Ao16 t103.length co16] 47 (0, 0)) (qz8 BK106.out) hb); have n4_ := Aside0.mk (below_step (qz10 GE106.out) hb); clear HO105; clear HO109; clear BK106; clear HB; have HO105 := n0_; have HO109 := n1_; have HO114 := n2_; have BK106 := n3_; have HB := n4_; clear n0_ n1_ n2_ n3_ n4_; (try clear hb); (try clear hb2); (try clear hk); (try clear hi); (try clear ho0)) | ((with_reducible refine gate_dst (N := 5) rfl ?_); refine box_event ?hg (N := 5) ?hd (cs := #[.int .i64 0, .slice none 0 0]) (t := 47) ?hr ?_; (case hd => rfl); (case hg => rfl); (case hr => exact qz5); intro gb116 hg w23 hbox hb; have n0_ := Aside0.mk (Kd.R_below (qz21 HO105.out) hb); have n1_ := Aside0.mk (Kd.R_below (qz21 HO109.out) hb); have n2_ := Aside0.mk (Kd.R_below (qz21 HO114.out) hb); have n3_ := Aside0.mk (blk_below (g := gb106) (o := .cells #[.int .i64 t102, .slice Ao16 t103.length co16] 47 (0, 0)) (qz8 BK106.out) hb); have n4_ := Aside0.mk (below_step (qz10 GE106.out) hb); have n5_ := Aside0.mk (hbox); have n6_ := Aside0.mk ((qz38 GE106.out : w.heap.size ≤ gb116)); have n7_ := Aside0.mk ((qz38 GE106.out : w.heap.size ≤ gb116)); have n8_ := Aside0.mk ((by rw [hg]; exact Nat.ne_of_lt (blk_lt (g := gb106) (o := .cells #[.int .i64 t102, .slice Ao16 t103.length co16] 47 (0, 0)) (qz8 BK106.out)) : gb106 ≠ gb116)); have n9_ := Aside0.mk ((by rw [hg]; exact Nat.ne_of_gt (blk_lt (g := gb106) (o := .cells #[.int .i64 t102, .slice Ao16 t103.length co16] 47 (0, 0)) (qz8 BK106.out)) : gb116 ≠ gb106)); clear HO105; clear HO109; clear HO114; clear BK106; clear HB; have HO105 := n0_; have HO109 := n1_; have HO114 := n2_; have BK106 := n3_; have HB := n4_; have BK116 := n5_; have GW116 := n6_; have GE116 := n7_; have NB106_116 := n8_; have NB116_106 := n9_; clear n0_ n1_ n2_ n3_ n4_ n5_ n6_ n7_ n8_ n9_; clear hb hbox hg; have hnb24 := NB116_106.out; have hnc24 := NB106_116.out; have hcz25_0 : w23.cell? ⟨gb116, 0, none⟩ = some (.int .i64 0) := (blk_cell BK116.out 0).trans rfl; have hcz25_1 : w23.cell? ⟨gb116, 1, none⟩ = some (.slice none 0 0) := (blk_cell BK116.out 1).trans rfl; have hfz25_0 := blk_frozen BK116.out 0; have hfz25_1 := blk_frozen BK116.out 1; obtain ⟨Ao26, co26, eo26⟩ := Kd.R_slice HO114.out; subst eo26; have hcz27_0 : w23.cell? ⟨gb106, 0, none⟩ = some (.int .i64 t102) := (blk_cell BK106.out 0).trans rfl; have hcz27_1 : w23.cell? ⟨gb106, 1, none⟩ = some (.slice Ao16 t103.length co16) := (blk_cell BK106.out 1).trans rfl; have hfz27_0 := blk_frozen BK106.out 0; have hfz27_1 := blk_frozen BK106.out 1) | (go_at_call 32; (with_reducible refine (laws_sameLat.calls k t111 _ _ t112 t102 _ _ t103 true _ ?side1 ?side2 ?side3 ?side4 A10.out).mono ?_); (case side1 => refine (Kd.R_reads' (e := 153) (base := w.heap.size) (ok := fun k_ => (True ∧ some k_ ≠ (.slice Ao16 t103.length co16 : Value).ownBlock)) (n := t112.length) (c := co26) ?_).2.2; exact (qz177 HO114.out BK116.out)); (case side2 => exact qz20 HO114.out); (case side3 => refine (Kd.R_reads' (e := 153) (base := w.heap.size) (ok := fun k_ => (True ∧ some k_ ≠ (.slice Ao26 t112.length co26 : Value).ownBlock)) (n := t103.length) (c := co16) ?_).2.2; exact (qz177 HO105.out BK116.out)); (case side4 => exact qz20 HO105.out); rintro e w28 ⟨rfl, hb⟩; have n0_ := Aside0.mk (Kd.R_below (qz177 HO105.out BK116.out) hb); have n1_ := Aside0.mk (Kd.R_below (qz177 HO109.out BK116.out) hb); have n2_ := Aside0.mk (Kd.R_below (qz177 HO114.out BK116.out) hb); have n3_ := Aside0.mk (blk_below (g := gb106) (o := .cells #[.int .i64 t102, .slice Ao16 t103.length co16] 47 (0, 0)) (qz41 NB106_116.out BK106.out) hb); have n4_ := Aside0.mk (blk_below (g := gb116) (o := .cells #[.int .i64 t111, .slice Ao26 t112.length co26] 47 (0, 0)) (qz178 BK116.out) hb); have n5_ := Aside0.mk (below_step (qz43 GE106.out GE116.out) hb); clear HO105; clear HO109; clear HO114; clear BK106; clear BK116; clear HB; have HO105 := n0_; have HO109 := n1_; have HO114 := n2_; have BK106 := n3_; have BK116 := n4_; have HB := n5_; clear n0_ n1_ n2_ n3_ n4_ n5_; (try clear hb); (try clear hb2); (try clear hk); (try clear hi); have hcz29_0 : w28.cell? ⟨gb116, 0, none⟩ = some (.int .i64 t111) := (blk_cell BK116.out 0).trans rfl; have hcz29_1 : w28.cell? ⟨gb116, 1, none⟩ = some (.slice Ao26 t112.length co26) := (blk_cell BK116.out 1).trans rfl; have hfz29_0 := blk_frozen BK116.out 0; have hfz29_1 := blk_frozen BK116.out 1) | (go_at_call 33; (with_reducible refine (impl_LatOk.calls k t111 _ _ t112 t118 _ ?side1 ?side2 A12.out).mono ?_); (case side1 => exact qz19 HO114.out); (case side2 => exact qz20 HO114.out); rintro e w30 ⟨rfl, hb⟩; have n0_ := Aside0.mk (Kd.R_below (qz21 HO105.out) hb); have n1_ := Aside0.mk (Kd.R_below (qz21 HO109.out) hb); have n2_ := Aside0.mk (Kd.R_below (qz21 HO114.out) hb); have n3_ := Aside0.mk (blk_below (g := gb106) (o := .cells #[.int .i64 t102, .slice Ao16 t103.length co16] 47 (0, 0)) (qz8 BK106.out) hb); have n4_ := Aside0.mk (blk_below (g := gb116) (o := .cells #[.int .i64 t111, .slice Ao26 t112.length co26] 47 (0, 0)) (qz8 BK116.out) hb); have n5_ := Aside0.mk (below_step (qz43 GE106.out GE116.out) hb); clear HO105; clear HO109; clear HO114; clear BK106; clear BK116; clear HB; have HO105 := n0_; have HO109 := n1_; have HO114 := n2_; have BK106 := n3_; have BK116 := n4_; have HB := n5_; clear n0_ n1_ n2_ n3_ n4_ n5_; (try clear hb); (try clear hb2); (try clear hk); (try clear hi)))
     go_ret
     exact ⟨qz13, qz43 GE106.out GE116.out⟩
    ·replace c11 := Bool.eq_false_iff.mpr c11
     subst c11
     have H1 : (some false) = some r := by rw [if_neg (show ¬ (false = true) by decide)] at H; exact H
     clear H
     have H := H1
     clear H1
     obtain rfl := Option.some.inj H
     go_enter Try.func4, Try.ntmps4
     go_wp2_with (first | ((with_reducible refine gate_callee (f := 19) rfl ?_); refine goesL_ (some 8) rfl rfl Try.func19 (by kernel_rfl) rfl #[.slice A0 l0.length c0] rfl qz1 ?_; (with_reducible refine (laws_big.calls _ _ l0 false _ ?side1 ?side2 A2.out).mono ?_); (case side1 => exact qz62 HR0.out); (case side2 => exact HC0.out); rintro e w' ⟨rfl, ⟨nd, rfl⟩⟩; refine ⟨_, rfl, ?_⟩) | ((with_reducible refine gate_callee (f := 28) rfl ?_); refine goesL_ (some 10) rfl rfl Try.func28 (by kernel_rfl) rfl #[.slice A0 l0.length c0] rfl qz1 ?_; (with_reducible refine (spec_DrawLatEdges.calls k _ _ l0 t102 t103 _ ?side1 ?side2 A4.out).mono ?_); (case side1 => exact qz62 HR0.out); (case side2 => exact HC0.out); rintro e w31 ⟨v104, rfl, ho0, hb⟩; refine ⟨_, rfl, ?_⟩; have n0_ := Aside0.mk (Kd.R_lower ho0 (below_size qz6)); have n1_ := Aside0.mk (below_step qz6 hb); clear HB; have HO105 := n0_; have HB := n1_; clear n0_ n1_; (try clear hb); (try clear hb2); (try clear hk); (try clear hi); (try clear ho0)) | ((with_reducible refine gate_dst (N := 3) rfl ?_); refine box_event ?hg (N := 3) ?hd (cs := #[.int .i64 0, .slice none 0 0]) (t := 47) ?hr ?_; (case hd => rfl); (case hg => rfl); (case hr => exact qz5); intro gb106 hg w32 hbox hb; have n0_ := Aside0.mk (Kd.R_below (qz21 HO105.out) hb); have n1_ := Aside0.mk (below_step qz6 hb); have n2_ := Aside0.mk (hbox); have n3_ := Aside0.mk ((qz7 : w.heap.size ≤ gb106)); have n4_ := Aside0.mk ((qz7 : w.heap.size ≤ gb106)); clear HO105; clear HB; have HO105 := n0_; have HB := n1_; have BK106 := n2_; have GW106 := n3_; have GE106 := n4_; clear n0_ n1_ n2_ n3_ n4_; clear hb hbox hg; have hcz33_0 : w32.cell? ⟨gb106, 0, none⟩ = some (.int .i64 0) := (blk_cell BK106.out 0).trans rfl; have hcz33_1 : w32.cell? ⟨gb106, 1, none⟩ = some (.slice none 0 0) := (blk_cell BK106.out 1).trans rfl; have hfz33_0 := blk_frozen BK106.out 0; have hfz33_1 := blk_frozen BK106.out 1; obtain ⟨Ao34, co34, eo34⟩ := Kd.R_slice HO105.out; subst eo34) | ((with_reducible refine gate_callee (f := 29) rfl ?_); refine goesL_ (some 12) rfl rfl Try.func29 (by kernel_rfl) rfl #[.agg #[.int .i64 t102, .slice Ao34 t103.length co34]] rfl qz1 ?_; (with_reducible refine (impl_LatEdges.calls k t102 _ _ t103 t107 _ ?side1 ?side2 A5.out).mono ?_); (case side1 => refine (Kd.R_reads' (e := 153) (base := w.heap.size) (ok := fun k_ => True) (n := t103.length) (c := co34) ?_).2.2; exact (qz179 HO105.out BK106.out)); (case side2 => exact qz20 HO105.out); rintro e w35 ⟨v108, rfl, ho0, hb⟩; refine ⟨_, rfl, ?_⟩; have n0_ := Aside0.mk (Kd.R_below (qz179 HO105.out BK106.out) hb); have n1_ := Aside0.mk (Kd.R_lower ho0 (below_size (qz10 GE106.out))); have n2_ := Aside0.mk (blk_below (g := gb106) (o := .cells #[.int .i64 t102, .slice Ao34 t103.length co34] 47 (0, 0)) (qz167 BK106.out) hb); have n3_ := Aside0.mk (below_step (qz10 GE106.out) hb); clear HO105; clear BK106; clear HB; have HO105 := n0_; have HO109 := n1_; have BK106 := n2_; have HB := n3_; clear n0_ n1_ n2_ n3_; (try clear hb); (try clear hb2); (try clear hk); (try clear hi); (try clear ho0); have hcz36_0 : w35.cell? ⟨gb106, 0, none⟩ = some (.int .i64 t102) := (blk_cell BK106.out 0).trans rfl; have hcz36_1 : w35.cell? ⟨gb106, 1, none⟩ = some (.slice Ao34 t103.length co34) := (blk_cell BK106.out 1).trans rfl; have hfz36_0 := blk_frozen BK106.out 0; have hfz36_1 := blk_frozen BK106.out 1) | ((with_reducible refine gate_callee (f := 30) rfl ?_); refine goesL_ (some 14) rfl rfl Try.func30 (by kernel_rfl) rfl #[.agg #[.int .i64 t102, .slice Ao34 t103.length co34]] rfl qz1 ?_; (with_reducible refine (spec_LatOk.calls k t102 _ _ t103 true _ ?side1 ?side2 A6.out).mono ?_); (case side1 => exact qz19 HO105.out); (case side2 => exact qz20 HO105.out); rintro e w37 ⟨rfl, hb⟩; refine ⟨_, rfl, ?_⟩; have n0_ := Aside0.mk (Kd.R_below (qz21 HO105.out) hb); have n1_ := Aside0.mk (Kd.R_below (qz21 HO109.out) hb); have n2_ := Aside0.mk (blk_below (g := gb106) (o := .cells #[.int .i64 t102, .slice Ao34 t103.length co34] 47 (0, 0)) (qz8 BK106.out) hb); have n3_ := Aside0.mk (below_step (qz10 GE106.out) hb); clear HO105; clear HO109; clear BK106; clear HB; have HO105 := n0_; have HO109 := n1_; have BK106 := n2_; have HB := n3_; clear n0_ n1_ n2_ n3_; (try clear hb); (try clear hb2); (try clear hk); (try clear hi); have hcz38_0 : w37.cell? ⟨gb106, 0, none⟩ = some (.int .i64 t102) := (blk_cell BK106.out 0).trans rfl; have hcz38_1 : w37.cell? ⟨gb106, 1, none⟩ = some (.slice Ao34 t103.length co34) := (blk_cell BK106.out 1).trans rfl; have hfz38_0 := blk_frozen BK106.out 0; have hfz38_1 := blk_frozen BK106.out 1; obtain ⟨Ao39, co39, eo39⟩ := Kd.R_slice HO109.out; subst eo39) | ((with_reducible refine gate_callee (f := 31) rfl ?_); refine goesL_ (some 23) rfl rfl Try.func31 (by kernel_rfl) rfl #[.int .i64 t102, .slice Ao39 t107.length co39] rfl qz1 ?_; (with_reducible refine (impl_LatOf.calls k t102 _ _ t107 t111 t112 true _ ?side1 ?side2 A8.out).mono ?_); (case side1 => exact qz19 HO109.out); (case side2 => exact qz20 HO109.out); rintro e w40 ⟨v113, rfl, ho0, hb⟩; refine ⟨_, rfl, ?_⟩; have n0_ := Aside0.mk (Kd.R_elder' (qz21 HO105.out) (Kd.R_base ho0) hb); have n1_ := Aside0.mk (Kd.R_below (qz21 HO109.out) hb); have n2_ := Aside0.mk (Kd.R_lower (Kd.R_new' ho0 (Kd.R_lt (qz21 HO105.out))) (below_size (qz10 GE106.out))); have n3_ := Aside0.mk (blk_below (g := gb106) (o := .cells #[.int .i64 t102, .slice Ao34 t103.length co34] 47 (0, 0)) (qz8 BK106.out) hb); have n4_ := Aside0.mk (below_step (qz10 GE106.out) hb); clear HO105; clear HO109; clear BK106; clear HB; have HO105 := n0_; have HO109 := n1_; have HO114 := n2_; have BK106 := n3_; have HB := n4_; clear n0_ n1_ n2_ n3_ n4_; (try clear hb); (try clear hb2); (try clear hk); (try clear hi); (try clear ho0)) | ((with_reducible refine gate_dst (N := 5) rfl ?_); refine box_event ?hg (N := 5) ?hd (cs := #[.int .i64 0, .slice none 0 0]) (t := 47) ?hr ?_; (case hd => rfl); (case hg => rfl); (case hr => exact qz5); intro gb116 hg w41 hbox hb; have n0_ := Aside0.mk (Kd.R_below (qz21 HO105.out) hb); have n1_ := Aside0.mk (Kd.R_below (qz21 HO109.out) hb); have n2_ := Aside0.mk (Kd.R_below (qz21 HO114.out) hb); have n3_ := Aside0.mk (blk_below (g := gb106) (o := .cells #[.int .i64 t102, .slice Ao34 t103.length co34] 47 (0, 0)) (qz8 BK106.out) hb); have n4_ := Aside0.mk (below_step (qz10 GE106.out) hb); have n5_ := Aside0.mk (hbox); have n6_ := Aside0.mk ((qz38 GE106.out : w.heap.size ≤ gb116)); have n7_ := Aside0.mk ((qz38 GE106.out : w.heap.size ≤ gb116)); have n8_ := Aside0.mk ((by rw [hg]; exact Nat.ne_of_lt (blk_lt (g := gb106) (o := .cells #[.int .i64 t102, .slice Ao34 t103.length co34] 47 (0, 0)) (qz8 BK106.out)) : gb106 ≠ gb116)); have n9_ := Aside0.mk ((by rw [hg]; exact Nat.ne_of_gt (blk_lt (g := gb106) (o := .cells #[.int .i64 t102, .slice Ao34 t103.length co34] 47 (0, 0)) (qz8 BK106.out)) : gb116 ≠ gb106)); clear HO105; clear HO109; clear HO114; clear BK106; clear HB; have HO105 := n0_; have HO109 := n1_; have HO114 := n2_; have BK106 := n3_; have HB := n4_; have BK116 := n5_; have GW116 := n6_; have GE116 := n7_; have NB106_116 := n8_; have NB116_106 := n9_; clear n0_ n1_ n2_ n3_ n4_ n5_ n6_ n7_ n8_ n9_; clear hb hbox hg; have hnb42 := NB116_106.out; have hnc42 := NB106_116.out; have hcz43_0 : w41.cell? ⟨gb116, 0, none⟩ = some (.int .i64 0) := (blk_cell BK116.out 0).trans rfl; have hcz43_1 : w41.cell? ⟨gb116, 1, none⟩ = some (.slice none 0 0) := (blk_cell BK116.out 1).trans rfl; have hfz43_0 := blk_frozen BK116.out 0; have hfz43_1 := blk_frozen BK116.out 1; obtain ⟨Ao44, co44, eo44⟩ := Kd.R_slice HO114.out; subst eo44; have hcz45_0 : w41.cell? ⟨gb106, 0, none⟩ = some (.int .i64 t102) := (blk_cell BK106.out 0).trans rfl; have hcz45_1 : w41.cell? ⟨gb106, 1, none⟩ = some (.slice Ao34 t103.length co34) := (blk_cell BK106.out 1).trans rfl; have hfz45_0 := blk_frozen BK106.out 0; have hfz45_1 := blk_frozen BK106.out 1) | (go_at_call 32; (with_reducible refine (laws_sameLat.calls k t111 _ _ t112 t102 _ _ t103 false _ ?side1 ?side2 ?side3 ?side4 A10.out).mono ?_); (case side1 => refine (Kd.R_reads' (e := 153) (base := w.heap.size) (ok := fun k_ => (True ∧ some k_ ≠ (.slice Ao34 t103.length co34 : Value).ownBlock)) (n := t112.length) (c := co44) ?_).2.2; exact (qz180 HO114.out BK116.out)); (case side2 => exact qz20 HO114.out); (case side3 => refine (Kd.R_reads' (e := 153) (base := w.heap.size) (ok := fun k_ => (True ∧ some k_ ≠ (.slice Ao44 t112.length co44 : Value).ownBlock)) (n := t103.length) (c := co34) ?_).2.2; exact (qz180 HO105.out BK116.out)); (case side4 => exact qz20 HO105.out); rintro e w46 ⟨rfl, hb⟩; have n0_ := Aside0.mk (Kd.R_below (qz180 HO105.out BK116.out) hb); have n1_ := Aside0.mk (Kd.R_below (qz180 HO109.out BK116.out) hb); have n2_ := Aside0.mk (Kd.R_below (qz180 HO114.out BK116.out) hb); have n3_ := Aside0.mk (blk_below (g := gb106) (o := .cells #[.int .i64 t102, .slice Ao34 t103.length co34] 47 (0, 0)) (qz41 NB106_116.out BK106.out) hb); have n4_ := Aside0.mk (blk_below (g := gb116) (o := .cells #[.int .i64 t111, .slice Ao44 t112.length co44] 47 (0, 0)) (qz178 BK116.out) hb); have n5_ := Aside0.mk (below_step (qz43 GE106.out GE116.out) hb); clear HO105; clear HO109; clear HO114; clear BK106; clear BK116; clear HB; have HO105 := n0_; have HO109 := n1_; have HO114 := n2_; have BK106 := n3_; have BK116 := n4_; have HB := n5_; clear n0_ n1_ n2_ n3_ n4_ n5_; (try clear hb); (try clear hb2); (try clear hk); (try clear hi)))
     go_ret
     exact ⟨qz13, qz43 GE106.out GE116.out⟩
   ·replace c9 := Bool.eq_false_iff.mpr c9
    subst c9
    have H1 : (some false) = some r := by rw [if_neg (show ¬ (false = true) by decide)] at H; exact H
    clear H
    have H := H1
    clear H1
    obtain rfl := Option.some.inj H
    go_enter Try.func4, Try.ntmps4
    go_wp2_with (first | ((with_reducible refine gate_callee (f := 19) rfl ?_); refine goesL_ (some 8) rfl rfl Try.func19 (by kernel_rfl) rfl #[.slice A0 l0.length c0] rfl qz1 ?_; (with_reducible refine (laws_big.calls _ _ l0 false _ ?side1 ?side2 A2.out).mono ?_); (case side1 => exact qz62 HR0.out); (case side2 => exact HC0.out); rintro e w' ⟨rfl, ⟨nd, rfl⟩⟩; refine ⟨_, rfl, ?_⟩) | ((with_reducible refine gate_callee (f := 28) rfl ?_); refine goesL_ (some 10) rfl rfl Try.func28 (by kernel_rfl) rfl #[.slice A0 l0.length c0] rfl qz1 ?_; (with_reducible refine (spec_DrawLatEdges.calls k _ _ l0 t102 t103 _ ?side1 ?side2 A4.out).mono ?_); (case side1 => exact qz62 HR0.out); (case side2 => exact HC0.out); rintro e w47 ⟨v104, rfl, ho0, hb⟩; refine ⟨_, rfl, ?_⟩; have n0_ := Aside0.mk (Kd.R_lower ho0 (below_size qz6)); have n1_ := Aside0.mk (below_step qz6 hb); clear HB; have HO105 := n0_; have HB := n1_; clear n0_ n1_; (try clear hb); (try clear hb2); (try clear hk); (try clear hi); (try clear ho0)) | ((with_reducible refine gate_dst (N := 3) rfl ?_); refine box_event ?hg (N := 3) ?hd (cs := #[.int .i64 0, .slice none 0 0]) (t := 47) ?hr ?_; (case hd => rfl); (case hg => rfl); (case hr => exact qz5); intro gb106 hg w48 hbox hb; have n0_ := Aside0.mk (Kd.R_below (qz21 HO105.out) hb); have n1_ := Aside0.mk (below_step qz6 hb); have n2_ := Aside0.mk (hbox); have n3_ := Aside0.mk ((qz7 : w.heap.size ≤ gb106)); have n4_ := Aside0.mk ((qz7 : w.heap.size ≤ gb106)); clear HO105; clear HB; have HO105 := n0_; have HB := n1_; have BK106 := n2_; have GW106 := n3_; have GE106 := n4_; clear n0_ n1_ n2_ n3_ n4_; clear hb hbox hg; have hcz49_0 : w48.cell? ⟨gb106, 0, none⟩ = some (.int .i64 0) := (blk_cell BK106.out 0).trans rfl; have hcz49_1 : w48.cell? ⟨gb106, 1, none⟩ = some (.slice none 0 0) := (blk_cell BK106.out 1).trans rfl; have hfz49_0 := blk_frozen BK106.out 0; have hfz49_1 := blk_frozen BK106.out 1; obtain ⟨Ao50, co50, eo50⟩ := Kd.R_slice HO105.out; subst eo50) | ((with_reducible refine gate_callee (f := 29) rfl ?_); refine goesL_ (some 12) rfl rfl Try.func29 (by kernel_rfl) rfl #[.agg #[.int .i64 t102, .slice Ao50 t103.length co50]] rfl qz1 ?_; (with_reducible refine (impl_LatEdges.calls k t102 _ _ t103 t107 _ ?side1 ?side2 A5.out).mono ?_); (case side1 => refine (Kd.R_reads' (e := 153) (base := w.heap.size) (ok := fun k_ => True) (n := t103.length) (c := co50) ?_).2.2; exact (qz181 HO105.out BK106.out)); (case side2 => exact qz20 HO105.out); rintro e w51 ⟨v108, rfl, ho0, hb⟩; refine ⟨_, rfl, ?_⟩; have n0_ := Aside0.mk (Kd.R_below (qz181 HO105.out BK106.out) hb); have n1_ := Aside0.mk (Kd.R_lower ho0 (below_size (qz10 GE106.out))); have n2_ := Aside0.mk (blk_below (g := gb106) (o := .cells #[.int .i64 t102, .slice Ao50 t103.length co50] 47 (0, 0)) (qz167 BK106.out) hb); have n3_ := Aside0.mk (below_step (qz10 GE106.out) hb); clear HO105; clear BK106; clear HB; have HO105 := n0_; have HO109 := n1_; have BK106 := n2_; have HB := n3_; clear n0_ n1_ n2_ n3_; (try clear hb); (try clear hb2); (try clear hk); (try clear hi); (try clear ho0); have hcz52_0 : w51.cell? ⟨gb106, 0, none⟩ = some (.int .i64 t102) := (blk_cell BK106.out 0).trans rfl; have hcz52_1 : w51.cell? ⟨gb106, 1, none⟩ = some (.slice Ao50 t103.length co50) := (blk_cell BK106.out 1).trans rfl; have hfz52_0 := blk_frozen BK106.out 0; have hfz52_1 := blk_frozen BK106.out 1) | ((with_reducible refine gate_callee (f := 30) rfl ?_); refine goesL_ (some 14) rfl rfl Try.func30 (by kernel_rfl) rfl #[.agg #[.int .i64 t102, .slice Ao50 t103.length co50]] rfl qz1 ?_; (with_reducible refine (spec_LatOk.calls k t102 _ _ t103 true _ ?side1 ?side2 A6.out).mono ?_); (case side1 => exact qz19 HO105.out); (case side2 => exact qz20 HO105.out); rintro e w53 ⟨rfl, hb⟩; refine ⟨_, rfl, ?_⟩; have n0_ := Aside0.mk (Kd.R_below (qz21 HO105.out) hb); have n1_ := Aside0.mk (Kd.R_below (qz21 HO109.out) hb); have n2_ := Aside0.mk (blk_below (g := gb106) (o := .cells #[.int .i64 t102, .slice Ao50 t103.length co50] 47 (0, 0)) (qz8 BK106.out) hb); have n3_ := Aside0.mk (below_step (qz10 GE106.out) hb); clear HO105; clear HO109; clear BK106; clear HB; have HO105 := n0_; have HO109 := n1_; have BK106 := n2_; have HB := n3_; clear n0_ n1_ n2_ n3_; (try clear hb); (try clear hb2); (try clear hk); (try clear hi); have hcz54_0 : w53.cell? ⟨gb106, 0, none⟩ = some (.int .i64 t102) := (blk_cell BK106.out 0).trans rfl; have hcz54_1 : w53.cell? ⟨gb106, 1, none⟩ = some (.slice Ao50 t103.length co50) := (blk_cell BK106.out 1).trans rfl; have hfz54_0 := blk_frozen BK106.out 0; have hfz54_1 := blk_frozen BK106.out 1; obtain ⟨Ao55, co55, eo55⟩ := Kd.R_slice HO109.out; subst eo55) | ((with_reducible refine gate_callee (f := 31) rfl ?_); refine goesL_ (some 23) rfl rfl Try.func31 (by kernel_rfl) rfl #[.int .i64 t102, .slice Ao55 t107.length co55] rfl qz1 ?_; (with_reducible refine (impl_LatOf.calls k t102 _ _ t107 t111 t112 false _ ?side1 ?side2 A8.out).mono ?_); (case side1 => exact qz19 HO109.out); (case side2 => exact qz20 HO109.out); rintro e w56 ⟨v113, rfl, ho0, hb⟩; refine ⟨_, rfl, ?_⟩; have n0_ := Aside0.mk (Kd.R_elder' (qz21 HO105.out) (Kd.R_base ho0) hb); have n1_ := Aside0.mk (Kd.R_below (qz21 HO109.out) hb); have n2_ := Aside0.mk (Kd.R_lower (Kd.R_new' ho0 (Kd.R_lt (qz21 HO105.out))) (below_size (qz10 GE106.out))); have n3_ := Aside0.mk (blk_below (g := gb106) (o := .cells #[.int .i64 t102, .slice Ao50 t103.length co50] 47 (0, 0)) (qz8 BK106.out) hb); have n4_ := Aside0.mk (below_step (qz10 GE106.out) hb); clear HO105; clear HO109; clear BK106; clear HB; have HO105 := n0_; have HO109 := n1_; have HO114 := n2_; have BK106 := n3_; have HB := n4_; clear n0_ n1_ n2_ n3_ n4_; (try clear hb); (try clear hb2); (try clear hk); (try clear hi); (try clear ho0)) | ((with_reducible refine gate_dst (N := 5) rfl ?_); refine box_event ?hg (N := 5) ?hd (cs := #[.int .i64 0, .slice none 0 0]) (t := 47) ?hr ?_; (case hd => rfl); (case hg => rfl); (case hr => exact qz5); intro gb116 hg w57 hbox hb; have n0_ := Aside0.mk (Kd.R_below (qz21 HO105.out) hb); have n1_ := Aside0.mk (Kd.R_below (qz21 HO109.out) hb); have n2_ := Aside0.mk (Kd.R_below (qz21 HO114.out) hb); have n3_ := Aside0.mk (blk_below (g := gb106) (o := .cells #[.int .i64 t102, .slice Ao50 t103.length co50] 47 (0, 0)) (qz8 BK106.out) hb); have n4_ := Aside0.mk (below_step (qz10 GE106.out) hb); have n5_ := Aside0.mk (hbox); have n6_ := Aside0.mk ((qz38 GE106.out : w.heap.size ≤ gb116)); have n7_ := Aside0.mk ((qz38 GE106.out : w.heap.size ≤ gb116)); have n8_ := Aside0.mk ((by rw [hg]; exact Nat.ne_of_lt (blk_lt (g := gb106) (o := .cells #[.int .i64 t102, .slice Ao50 t103.length co50] 47 (0, 0)) (qz8 BK106.out)) : gb106 ≠ gb116)); have n9_ := Aside0.mk ((by rw [hg]; exact Nat.ne_of_gt (blk_lt (g := gb106) (o := .cells #[.int .i64 t102, .slice Ao50 t103.length co50] 47 (0, 0)) (qz8 BK106.out)) : gb116 ≠ gb106)); clear HO105; clear HO109; clear HO114; clear BK106; clear HB; have HO105 := n0_; have HO109 := n1_; have HO114 := n2_; have BK106 := n3_; have HB := n4_; have BK116 := n5_; have GW116 := n6_; have GE116 := n7_; have NB106_116 := n8_; have NB116_106 := n9_; clear n0_ n1_ n2_ n3_ n4_ n5_ n6_ n7_ n8_ n9_; clear hb hbox hg; have hnb58 := NB116_106.out; have hnc58 := NB106_116.out; have hcz59_0 : w57.cell? ⟨gb116, 0, none⟩ = some (.int .i64 0) := (blk_cell BK116.out 0).trans rfl; have hcz59_1 : w57.cell? ⟨gb116, 1, none⟩ = some (.slice none 0 0) := (blk_cell BK116.out 1).trans rfl; have hfz59_0 := blk_frozen BK116.out 0; have hfz59_1 := blk_frozen BK116.out 1; obtain ⟨Ao60, co60, eo60⟩ := Kd.R_slice HO114.out; subst eo60))
    go_ret
    exact ⟨qz13, qz43 GE106.out GE116.out⟩
  ·replace c7 := Bool.eq_false_iff.mpr c7
   subst c7
   have H1 : (some ((t107.length : Int) == 0)) = some r := by rw [if_neg (show ¬ (false = true) by decide)] at H; exact H
   clear H
   have H := H1
   clear H1
   obtain rfl := Option.some.inj H
   go_enter Try.func4, Try.ntmps4
   go_wp2_with (first | ((with_reducible refine gate_callee (f := 19) rfl ?_); refine goesL_ (some 8) rfl rfl Try.func19 (by kernel_rfl) rfl #[.slice A0 l0.length c0] rfl qz1 ?_; (with_reducible refine (laws_big.calls _ _ l0 false _ ?side1 ?side2 A2.out).mono ?_); (case side1 => exact qz62 HR0.out); (case side2 => exact HC0.out); rintro e w' ⟨rfl, ⟨nd, rfl⟩⟩; refine ⟨_, rfl, ?_⟩) | ((with_reducible refine gate_callee (f := 28) rfl ?_); refine goesL_ (some 10) rfl rfl Try.func28 (by kernel_rfl) rfl #[.slice A0 l0.length c0] rfl qz1 ?_; (with_reducible refine (spec_DrawLatEdges.calls k _ _ l0 t102 t103 _ ?side1 ?side2 A4.out).mono ?_); (case side1 => exact qz62 HR0.out); (case side2 => exact HC0.out); rintro e w61 ⟨v104, rfl, ho0, hb⟩; refine ⟨_, rfl, ?_⟩; have n0_ := Aside0.mk (Kd.R_lower ho0 (below_size qz6)); have n1_ := Aside0.mk (below_step qz6 hb); clear HB; have HO105 := n0_; have HB := n1_; clear n0_ n1_; (try clear hb); (try clear hb2); (try clear hk); (try clear hi); (try clear ho0)) | ((with_reducible refine gate_dst (N := 3) rfl ?_); refine box_event ?hg (N := 3) ?hd (cs := #[.int .i64 0, .slice none 0 0]) (t := 47) ?hr ?_; (case hd => rfl); (case hg => rfl); (case hr => exact qz5); intro gb106 hg w62 hbox hb; have n0_ := Aside0.mk (Kd.R_below (qz21 HO105.out) hb); have n1_ := Aside0.mk (below_step qz6 hb); have n2_ := Aside0.mk (hbox); have n3_ := Aside0.mk ((qz7 : w.heap.size ≤ gb106)); have n4_ := Aside0.mk ((qz7 : w.heap.size ≤ gb106)); clear HO105; clear HB; have HO105 := n0_; have HB := n1_; have BK106 := n2_; have GW106 := n3_; have GE106 := n4_; clear n0_ n1_ n2_ n3_ n4_; clear hb hbox hg; have hcz63_0 : w62.cell? ⟨gb106, 0, none⟩ = some (.int .i64 0) := (blk_cell BK106.out 0).trans rfl; have hcz63_1 : w62.cell? ⟨gb106, 1, none⟩ = some (.slice none 0 0) := (blk_cell BK106.out 1).trans rfl; have hfz63_0 := blk_frozen BK106.out 0; have hfz63_1 := blk_frozen BK106.out 1; obtain ⟨Ao64, co64, eo64⟩ := Kd.R_slice HO105.out; subst eo64) | ((with_reducible refine gate_callee (f := 29) rfl ?_); refine goesL_ (some 12) rfl rfl Try.func29 (by kernel_rfl) rfl #[.agg #[.int .i64 t102, .slice Ao64 t103.length co64]] rfl qz1 ?_; (with_reducible refine (impl_LatEdges.calls k t102 _ _ t103 t107 _ ?side1 ?side2 A5.out).mono ?_); (case side1 => refine (Kd.R_reads' (e := 153) (base := w.heap.size) (ok := fun k_ => True) (n := t103.length) (c := co64) ?_).2.2; exact (qz182 HO105.out BK106.out)); (case side2 => exact qz20 HO105.out); rintro e w65 ⟨v108, rfl, ho0, hb⟩; refine ⟨_, rfl, ?_⟩; have n0_ := Aside0.mk (Kd.R_below (qz182 HO105.out BK106.out) hb); have n1_ := Aside0.mk (Kd.R_lower ho0 (below_size (qz10 GE106.out))); have n2_ := Aside0.mk (blk_below (g := gb106) (o := .cells #[.int .i64 t102, .slice Ao64 t103.length co64] 47 (0, 0)) (qz167 BK106.out) hb); have n3_ := Aside0.mk (below_step (qz10 GE106.out) hb); clear HO105; clear BK106; clear HB; have HO105 := n0_; have HO109 := n1_; have BK106 := n2_; have HB := n3_; clear n0_ n1_ n2_ n3_; (try clear hb); (try clear hb2); (try clear hk); (try clear hi); (try clear ho0); have hcz66_0 : w65.cell? ⟨gb106, 0, none⟩ = some (.int .i64 t102) := (blk_cell BK106.out 0).trans rfl; have hcz66_1 : w65.cell? ⟨gb106, 1, none⟩ = some (.slice Ao64 t103.length co64) := (blk_cell BK106.out 1).trans rfl; have hfz66_0 := blk_frozen BK106.out 0; have hfz66_1 := blk_frozen BK106.out 1) | ((with_reducible refine gate_callee (f := 30) rfl ?_); refine goesL_ (some 14) rfl rfl Try.func30 (by kernel_rfl) rfl #[.agg #[.int .i64 t102, .slice Ao64 t103.length co64]] rfl qz1 ?_; (with_reducible refine (spec_LatOk.calls k t102 _ _ t103 false _ ?side1 ?side2 A6.out).mono ?_); (case side1 => exact qz19 HO105.out); (case side2 => exact qz20 HO105.out); rintro e w67 ⟨rfl, hb⟩; refine ⟨_, rfl, ?_⟩; have n0_ := Aside0.mk (Kd.R_below (qz21 HO105.out) hb); have n1_ := Aside0.mk (Kd.R_below (qz21 HO109.out) hb); have n2_ := Aside0.mk (blk_below (g := gb106) (o := .cells #[.int .i64 t102, .slice Ao64 t103.length co64] 47 (0, 0)) (qz8 BK106.out) hb); have n3_ := Aside0.mk (below_step (qz10 GE106.out) hb); clear HO105; clear HO109; clear BK106; clear HB; have HO105 := n0_; have HO109 := n1_; have BK106 := n2_; have HB := n3_; clear n0_ n1_ n2_ n3_; (try clear hb); (try clear hb2); (try clear hk); (try clear hi); obtain ⟨Ao68, co68, eo68⟩ := Kd.R_slice HO109.out; subst eo68))
   go_ret
   exact ⟨qz13, qz10 GE106.out⟩

/-- THE ONE PURE STATEMENT of laws_FnLatEdges: yours. -/
def laws_FnLatEdges.Pure : Prop := ∀ (l0 : List Int), l0.length ≤ maxLen → l0.length * 1 ≤ 140737488351232 → (∀ x ∈ l0, (Lit.int .u8 x).wf = true) → ∃ k, laws_FnLatEdges.f k l0 = some true
theorem laws_FnLatEdges.walk (P : laws_FnLatEdges.Pure) (a0 : Option Addr) (len0 cap0 : Nat) (z0 : List Int) (w : World) (w0 : (a0 = none ∧ len0 = 0 ∧ cap0 = 0 ∧ z0 = []) ∨ ∃ x, a0 = some x ∧ len0 ≤ cap0 ∧ cap0 ≤ maxLen ∧ z0.length = cap0 ∧ (∀ i, i < z0.length → w.cell? (x.add i) = some (.int .u8 (z0.getD i 0))) ∧ ∀ n ∈ z0, (Lit.int .u8 n).wf = true) (y0 : len0 * 1 ≤ 140737488351232) :
  Calls Try.prog 4 #[.slice a0 len0 cap0] w fun e w' => e = .returned (.bool true) ∧ Below w.heap.size w w' := by
 obtain ⟨l0, rfl, hr0, hm0, hw0, hc0⟩ := ReadsInt.ofRowC w0
 obtain ⟨k, h⟩ := P l0 hm0 y0 hw0
 refine (laws_FnLatEdges.calls k _ _ l0 true w (Kd.C_of_reads (d := (0 : Int)) (h1 := fun _ => rfl) hr0) hc0 h).mono ?_
 rintro e w' ⟨rfl, hd⟩
 exact ⟨rfl, hd⟩

end Go.Proofs.Ytjhfjnknajhanaa.P

namespace Go.Proofs.Ytjhfjnknajhanaa.P
open Go.RowKit Go.Proofs.YtjhfjnknajhanaaW.PrintWords Go.Proofs.YtjhfjnknajhanaaW.PrintLast Go.Proofs.YtjhfjnknajhanaaW.PrintMore
attribute [local go_sem] max2_int min2_int max_two min_two max_three min_three max_four min_four   -- for this text's walks alone
set_option linter.unusedVariables false
set_option linter.unusedSimpArgs false

/-! ### spec_l01Cur_once: function 133 -/
def spec_l01Cur_once.f (s0_0 : List Int) (s0_1 : Int) (s0_2 : Int) (a1 : Int) : Option (Bool × Int × Int) := (spec_l01Cur_pick.f s0_0 s0_1 s0_2 a1).bind fun bt101 => (some ((bt101.1 == (wrap64 (a1 - 1))), bt101.2.1, bt101.2.2))

end Go.Proofs.Ytjhfjnknajhanaa.P

namespace Go.Proofs.Ytjhfjnknajhanaa.P
open Go.RowKit Go.Proofs.YtjhfjnknajhanaaW.PrintWords Go.Proofs.YtjhfjnknajhanaaW.PrintLast Go.Proofs.YtjhfjnknajhanaaW.PrintMore
attribute [local go_sem] max2_int min2_int max_two min_two max_three min_three max_four min_four   -- for this text's walks alone
set_option linter.unusedVariables false
set_option linter.unusedSimpArgs false

/-! ### spec_l01Cur_size: function 194 -/
def spec_l01Cur_size.f (s0_0 : List Int) (s0_1 : Int) (s0_2 : Int) (a1 : Int) : Option (Int × Int × Int) := (spec_l01Cur_pick.f s0_0 s0_1 s0_2 (wrap64 ((mn a1 (wrap64 (1 + (wrap64 ((s0_0.length : Int) / 8))))) + 1))).bind fun bt101 => (some (bt101.1, bt101.2.1, bt101.2.2))

end Go.Proofs.Ytjhfjnknajhanaa.P

namespace Go.Proofs.Ytjhfjnknajhanaa.P
open Go.RowKit Go.Proofs.YtjhfjnknajhanaaW.PrintWords Go.Proofs.YtjhfjnknajhanaaW.PrintLast Go.Proofs.YtjhfjnknajhanaaW.PrintMore
attribute [local go_sem] max2_int min2_int max_two min_two max_three min_three max_four min_four   -- for this text's walks alone
set_option linter.unusedVariables false
set_option linter.unusedSimpArgs false

/-! ### spec_l01Cur_label: function 125 -/
def spec_l01Cur_label.f (s0_0 : List Int) (s0_1 : Int) (s0_2 : Int) (a1_0 : Int) (l1_1 : List Int) : Option (Int × Int × Int) := (spec_l01Cur_once.f s0_0 s0_1 s0_2 12).bind fun bt102 => (if bt102.1 = true then ((spec_l01Cur_raw.f s0_0 bt102.2.1 bt102.2.2).bind fun bt105 => (some (bt105.1, bt105.2.1, bt105.2.2))) else ((spec_l01Cur_pick.f s0_0 bt102.2.1 bt102.2.2 (mx 1 (mn 16 a1_0))).bind fun bt108 => (some (bt108.1, bt108.2.1, bt108.2.2))))

end Go.Proofs.Ytjhfjnknajhanaa.P

/- What the drawing functions of the reference hand out, as plain facts about lists and numbers. -/
namespace Go.Proofs.Ytjhfjnknajhanaa.Q
open Go.RowKit Go.Proofs.Ytjhfjnknajhanaa.P Go.Proofs.YtjhfjnknajhanaaW.PrintWords Go.Proofs.YtjhfjnknajhanaaW.PrintLast Go.Proofs.YtjhfjnknajhanaaW.PrintMore

theorem wrap64_id {x : Int} (h0 : -9223372036854775808 ≤ x) (h1 : x ≤ 9223372036854775807) : wrap64 x = x := by
  unfold wrap64; omega
theorem u64_id {x : Int} (h0 : 0 ≤ x) (h1 : x ≤ 18446744073709551615) : IntKind.u64.wrap x = x := by
  unfold IntKind.wrap; simp [IntKind.bits, IntKind.signed]; omega

/-- The law's input: bytes, and not too many. -/
structure Code (c : List Int) : Prop where
  byte : ∀ x ∈ c, 0 ≤ x ∧ x ≤ 255
  len : c.length ≤ 1048576

/-- A cursor behind at most m picks. -/
structure Cu (c : List Int) (a s : Int) (m : Nat) : Prop where
  code : Code c
  a0 : 0 ≤ a
  a1 : a ≤ m
  s0 : 0 ≤ s
  s1 : s ≤ 65520

theorem Cu.mono {c : List Int} {a s : Int} {m n : Nat} (h : Cu c a s m) (hn : m ≤ n) : Cu c a s n := ⟨h.code, h.a0, by have := h.a1; omega, h.s0, h.s1⟩

theorem rd_byte {c : List Int} (h : Code c) (i : Int) : 0 ≤ rd c i ∧ rd c i ≤ 255 := by
  unfold rd
  rw [List.getD_eq_getElem?_getD]
  cases hi : c[i.toNat]? with
  | none => simp
  | some x => simpa using h.byte x (List.mem_of_getElem? hi)

theorem open_ok {c : List Int} (h : Code c) : ∃ s, spec_l01Open.f c = some (c, 0, s) ∧ Cu c 0 s 0 := by
  have := h.len
  exact ⟨_, rfl, h, by omega, by omega, by omega, by omega⟩

/-- One number: below n, or 0 where there is no choice. -/
theorem pick_ok {c : List Int} {a s : Int} {m : Nat} (h : Cu c a s m) (n : Int) (hm : m ≤ 1000000000000 := by omega) :
    ∃ x a' s', spec_l01Cur_pick.f c a s n = some (x, a', s') ∧ 0 ≤ x ∧ (2 ≤ n → x < n) ∧ (n < 2 → x = 0) ∧ Cu c a' s' (m + 1) := by
  obtain ⟨hc, a0, a1, s0, s1⟩ := h
  have hl := hc.len
  unfold spec_l01Cur_pick.f
  by_cases h2 : n < 2
  · rw [if_pos h2]
    exact ⟨0, a, s, rfl, by omega, fun h => absurd h (by omega), fun _ => rfl, hc, a0, by omega, s0, s1⟩
  · rw [if_neg h2]
    have hn : n ≠ 0 := by omega
    by_cases h3 : a < (c.length : Int)
    · rw [if_pos h3, if_pos a0, if_neg hn]
      have hb := rd_byte hc a
      refine ⟨_, _, _, rfl, ?_, fun _ => ?_, fun h => absurd h h2, hc, ?_, ?_, s0, s1⟩
      · rw [wrap64_id (by omega) (by omega)]; exact Int.tmod_nonneg _ hb.1
      · rw [wrap64_id (by omega) (by omega)]; exact Int.tmod_lt_of_pos _ (by omega)
      · rw [wrap64_id (by omega) (by omega)]; omega
      · rw [wrap64_id (by omega) (by omega)]; omega
    · rw [if_neg h3]
      have hw : wrap64 (wrap64 (s * 1103) + 12345) = s * 1103 + 12345 := by
        rw [wrap64_id (x := s * 1103) (by omega) (by omega), wrap64_id (by omega) (by omega)]
      have t0 : 0 ≤ Int.tmod (s * 1103 + 12345) 65521 := Int.tmod_nonneg _ (by omega)
      have t1 : Int.tmod (s * 1103 + 12345) 65521 < 65521 := Int.tmod_lt_of_pos _ (by omega)
      rw [hw]
      by_cases h4 : (c.length : Int) > 0
      · have h5 : ¬ (c.length : Int) = 0 := by omega
        have e0 : 0 ≤ Int.tmod a c.length := Int.tmod_nonneg _ a0
        have e1 : Int.tmod a c.length < c.length := Int.tmod_lt_of_pos _ h4
        rw [if_pos h4, if_neg h5, if_pos e0, if_pos e1, if_neg hn]
        have hb := rd_byte hc (Int.tmod a c.length)
        have d0 : 0 ≤ Int.tdiv (Int.tmod (s * 1103 + 12345) 65521) 7 := Int.tdiv_nonneg t0 (by omega)
        have d1 : Int.tdiv (Int.tmod (s * 1103 + 12345) 65521) 7 ≤ 65521 := by
          rw [Int.tdiv_eq_ediv_of_nonneg t0]; omega
        rw [wrap64_id (x := Int.tdiv _ 7) (by omega) (by omega), wrap64_id (x := rd c _) (by omega) (by omega), wrap64_id (x := _ + _) (by omega) (by omega), wrap64_id (x := a + 1) (by omega) (by omega)]
        exact ⟨_, _, _, rfl, Int.tmod_nonneg _ (by omega), fun _ => Int.tmod_lt_of_pos _ (by omega), fun h => absurd h h2, hc, by omega, by omega, t0, by omega⟩
      · rw [if_neg h4, if_neg hn, wrap64_id (x := a + 1) (by omega) (by omega)]
        exact ⟨_, _, _, rfl, by simp, fun _ => by simp; omega, fun h => absurd h h2, hc, by omega, by omega, t0, by omega⟩

theorem once_ok {c : List Int} {a s : Int} {m : Nat} (h : Cu c a s m) (n : Int) (hm : m ≤ 1000000000000 := by omega) :
    ∃ b a' s', spec_l01Cur_once.f c a s n = some (b, a', s') ∧ Cu c a' s' (m + 1) := by
  obtain ⟨x, a', s', e, _, _, _, hc⟩ := pick_ok h n hm
  unfold spec_l01Cur_once.f
  rw [e]
  exact ⟨_, _, _, rfl, hc⟩

/-- What 'raw' hands out. -/
def rawVals : List Int := (List.range 256).map (fun (x : Nat) => Int.ofNat x - 128) ++ [9223372036854775807, -9223372036854775808, 4611686018427387904, 9223372036854775806, 4294967296, -1000, 1000, 16]
theorem small_raw {x : Int} (h0 : -128 ≤ x) (h1 : x ≤ 127) : x ∈ rawVals := by
  unfold rawVals
  refine List.mem_append_left _ (List.mem_map.mpr ⟨(x + 128).toNat, List.mem_range.mpr (by omega), ?_⟩)
  show ((x + 128).toNat : Int) - 128 = x
  omega
theorem raw_range {x : Int} (h : x ∈ rawVals) : -9223372036854775808 ≤ x ∧ x ≤ 9223372036854775807 := by
  unfold rawVals at h
  rcases List.mem_append.mp h with h | h
  · obtain ⟨n, hn, rfl⟩ := List.mem_map.mp h
    have := List.mem_range.mp hn
    show -9223372036854775808 ≤ (n : Int) - 128 ∧ (n : Int) - 128 ≤ 9223372036854775807
    omega
  · simp at h
    omega
theorem raw_ok {c : List Int} {a s : Int} {m : Nat} (h : Cu c a s m) (hm : m ≤ 100000000000 := by omega) :
    ∃ x a' s', spec_l01Cur_raw.f c a s = some (x, a', s') ∧ x ∈ rawVals ∧ Cu c a' s' (m + 2) := by
  replace hm : m ≤ 100000000000 := hm
  obtain ⟨x, a1, s1, e, x0, x1, _, hc⟩ := pick_ok h 8
  unfold spec_l01Cur_raw.f
  rw [e]
  simp only [Option.bind_some]
  by_cases h0 : x = 0
  · rw [if_pos h0]
    obtain ⟨y, a2, s2, e2, y0, y1, _, hc2⟩ := pick_ok hc 256
    have := y1 (by omega)
    rw [e2]
    simp only [Option.bind_some]
    rw [wrap64_id (by omega) (by omega)]
    exact ⟨_, _, _, rfl, small_raw (by omega) (by omega), hc2⟩
  · rw [if_neg h0]
    by_cases h1 : x = 1
    · rw [if_pos h1]
      obtain ⟨y, a2, s2, e2, y0, y1, _, hc2⟩ := pick_ok hc 8
      have := y1 (by omega)
      rw [e2]
      simp only [Option.bind_some]
      rw [if_pos y0, if_pos (by simpa using this)]
      refine ⟨_, _, _, rfl, ?_, hc2⟩
      unfold rawVals
      refine List.mem_append_right _ ?_
      obtain ⟨n, rfl⟩ := Int.eq_ofNat_of_zero_le y0
      have hn : n < 8 := by omega
      have : ∀ n : Nat, n < 8 → rd [9223372036854775807, (-9223372036854775808), 4611686018427387904, 9223372036854775806, 4294967296, (-1000), 1000, 16] (n : Int) ∈ [9223372036854775807, -9223372036854775808, 4611686018427387904, 9223372036854775806, 4294967296, -1000, 1000, (16 : Int)] := by decide
      exact this n hn
    · rw [if_neg h1]
      obtain ⟨y, a2, s2, e2, y0, y1, _, hc2⟩ := pick_ok hc 14
      have := y1 (by omega)
      rw [e2]
      simp only [Option.bind_some]
      rw [wrap64_id (by omega) (by omega)]
      exact ⟨_, _, _, rfl, small_raw (by omega) (by omega), hc2⟩

theorem mx_le {x y : Int} : x ≤ mx x y ∧ y ≤ mx x y ∧ (mx x y = x ∨ mx x y = y) := by unfold mx; split <;> omega
theorem mn_le {x y : Int} : mn x y ≤ x ∧ mn x y ≤ y ∧ (mn x y = x ∨ mn x y = y) := by unfold mn; split <;> omega

/-- At most n, and at most the code's length allows. -/
theorem size_ok {c : List Int} {a s : Int} {m : Nat} (h : Cu c a s m) (n : Int) (h0 : 0 ≤ n) (h1 : n ≤ 1000) (hm : m ≤ 100000000000 := by omega) :
    ∃ x a' s', spec_l01Cur_size.f c a s n = some (x, a', s') ∧ 0 ≤ x ∧ x ≤ n ∧ Cu c a' s' (m + 1) := by
  replace hm : m ≤ 100000000000 := hm
  have hl := h.code.len
  obtain ⟨x, a', s', e, x0, x1, x2, hc⟩ := pick_ok h (wrap64 ((mn n (wrap64 (1 + (wrap64 ((c.length : Int) / 8))))) + 1))
  have w1 : wrap64 ((c.length : Int) / 8) = (c.length : Int) / 8 := wrap64_id (by omega) (by omega)
  have w2 : wrap64 (1 + (c.length : Int) / 8) = 1 + (c.length : Int) / 8 := wrap64_id (by omega) (by omega)
  have hmn := @mn_le n (1 + (c.length : Int) / 8)
  have w3 : wrap64 (mn n (1 + (c.length : Int) / 8) + 1) = mn n (1 + (c.length : Int) / 8) + 1 := wrap64_id (by omega) (by omega)
  rw [w1, w2, w3] at x1 x2
  unfold spec_l01Cur_size.f
  rw [e]
  refine ⟨x, a', s', rfl, x0, ?_, hc⟩
  by_cases h2 : 2 ≤ mn n (1 + (c.length : Int) / 8) + 1
  · have := x1 h2; omega
  · have := x2 (by omega); omega

/-- A label: one of sixteen, or anything that 'raw' hands out. -/
theorem label_ok {c : List Int} {a s : Int} {m : Nat} (h : Cu c a s m) (n : Int) (l : List Int) (hm : m ≤ 10000000000 := by omega) :
    ∃ x a' s', spec_l01Cur_label.f c a s n l = some (x, a', s') ∧ x ∈ rawVals ∧ Cu c a' s' (m + 3) := by
  replace hm : m ≤ 10000000000 := hm
  obtain ⟨b, a1, s1, e1, hc⟩ := once_ok h 12
  unfold spec_l01Cur_label.f
  rw [e1]
  simp only [Option.bind_some]
  cases b with
  | true =>
    obtain ⟨x, a2, s2, e2, hx, hc2⟩ := raw_ok hc
    rw [if_pos rfl, e2]
    exact ⟨_, _, _, rfl, hx, hc2⟩
  | false =>
    obtain ⟨x, a2, s2, e2, x0, x1, x2, hc2⟩ := pick_ok hc (mx 1 (mn 16 n))
    rw [if_neg (by decide), e2]
    have h1 := @mx_le 1 (mn 16 n)
    have h2 := @mn_le 16 n
    refine ⟨_, _, _, rfl, small_raw (by omega) ?_, hc2.mono (by omega)⟩
    by_cases h3 : 2 ≤ mx 1 (mn 16 n)
    · have := x1 h3; omega
    · have := x2 (by omega); omega
/-- The law's input as the row reads it. -/
theorem code_of {l : List Int} (hb : ∀ x ∈ l, (Lit.int .u8 x).wf = true) (h : laws_big.f l = some false) : Code l := by
  unfold laws_big.f at h
  refine ⟨fun x hx => ?_, ?_⟩
  · have := hb x hx
    simp [Lit.wf, IntKind.min, IntKind.max, IntKind.signed, IntKind.bits] at this
    omega
  · have := Option.some.inj h
    simp at this
    omega
end Go.Proofs.Ytjhfjnknajhanaa.Q

/- Lattices: what the program and the reference take for valid is the same. -/
namespace Go.Proofs.Ytjhfjnknajhanaa.Q
open Go.RowKit Go.Proofs.Ytjhfjnknajhanaa.P Go.Proofs.YtjhfjnknajhanaaW.PrintWords Go.Proofs.YtjhfjnknajhanaaW.PrintLast Go.Proofs.YtjhfjnknajhanaaW.PrintMore

theorem succ_w {i : Nat} (h : i < 4611686018427387904) : wrap64 ((i : Int) + 1) = ((i + 1 : Nat) : Int) := by
  rw [wrap64_id (by omega) (by omega)]; omega
theorem rd_nat (l : List Int) (i : Nat) : rd l (i : Int) = l.getD i 0 := rfl
theorem bit_eq (l : List Int) (i j : Nat) (hj : j < 1000) : spec_l01Bit.f (rd l (i : Int)) (j : Int) = some (bitAt l i j) := by
  unfold spec_l01Bit.f
  rw [u64_id (x := (j : Int)) (by omega) (by omega), if_pos (by omega)]
  rfl
theorem le_eq (l : List Int) (n : Int) (i j : Nat) (hi : i < l.length) : impl_Lat_le.f n l (i : Int) (j : Int) = some (bitAt l i j) := by
  have h0 : (0 : Int) ≤ i := by omega
  have h1 : (i : Int) < l.length := by omega
  have h2 : (0 : Int) ≤ j := by omega
  unfold impl_Lat_le.f
  rw [if_pos h0, if_pos h1, if_pos h2]
  rfl

/-- p of all from i to below n. -/
def allFrom (p : Nat → Bool) (i n : Nat) : Bool := (List.range' i (n - i)).all p
theorem allFrom_end (p : Nat → Bool) (n : Nat) : allFrom p n n = true := by simp [allFrom]
theorem allFrom_step (p : Nat → Bool) {i n : Nat} (h : i < n) : allFrom p i n = (p i && allFrom p (i + 1) n) := by
  unfold allFrom
  obtain ⟨d, rfl⟩ : ∃ d, n = i + (d + 1) := ⟨n - i - 1, by omega⟩
  rw [show i + (d + 1) - i = d + 1 by omega, show i + (d + 1) - (i + 1) = d by omega, List.range'_succ]
  rfl
theorem allFrom_iff (p : Nat → Bool) (i n : Nat) : allFrom p i n = true ↔ ∀ j, i ≤ j → j < n → p j = true := by
  unfold allFrom
  simp only [List.all_eq_true, List.mem_range'_1]
  exact ⟨fun h j h1 h2 => h j ⟨h1, by omega⟩, fun h j hj => h j hj.1 (by omega)⟩
theorem allFrom_eq (p : Nat → Bool) (n : Nat) : (List.range n).all p = allFrom p 0 n := by
  rw [Bool.eq_iff_iff, allFrom_iff]
  simp

/-- From cur the code comes to next where b is true, and else to bad. -/
def Stage {α : Type} (b : Bool) (bad : α) (next cur : Nat → Option α) : Prop := (b = true → ∀ v, Ev next v → Ev cur v) ∧ (b = false → Ev cur bad)
theorem Stage.trans {α : Type} {b c : Bool} {bad : α} {x y z : Nat → Option α} (h : Stage b bad y x) (k : Stage c bad z y) : Stage (b && c) bad z x := by
  refine ⟨fun hb v hv => ?_, fun hb => ?_⟩
  · obtain ⟨h1, h2⟩ := Bool.and_eq_true_iff.mp hb
    exact h.1 h1 v (k.1 h2 v hv)
  · cases hb1 : b with
    | false => exact h.2 hb1
    | true => rw [hb1] at hb; exact h.1 hb1 _ (k.2 (by simpa using hb))
theorem Stage.value {b : Bool} {x y : Nat → Option Bool} (h : Stage b false y x) {v : Bool} (hv : Ev y v) : Ev x (b && v) := by
  cases hb : b with
  | true => exact h.1 hb v hv
  | false => exact h.2 hb
theorem Stage.refl {α : Type} {bad : α} (x : Nat → Option α) : Stage true bad x x := ⟨fun _ _ h => h, fun h => absurd h (by decide)⟩
/-- A loop that goes on where p holds. -/
theorem loop_stage {α : Type} {bad : α} {g : Nat → Nat → Option α} (p : Nat → Bool) {n : Nat} (h : ∀ i, i < n → Stage (p i) bad (fun k => g k (i + 1)) (fun k => g k i)) (d : Nat) :
    ∀ i, i + d = n → Stage (allFrom p i n) bad (fun k => g k n) (fun k => g k i) := by
  induction d with
  | zero =>
    intro i hi
    obtain rfl : i = n := by omega
    rw [allFrom_end]
    exact Stage.refl _
  | succ d ih =>
    intro i hi
    rw [allFrom_step p (by omega)]
    exact (h i (by omega)).trans (ih (i + 1) (by omega))
theorem Stage.step {α : Type} {b : Bool} {bad : α} {next cur body : Nat → Option α} (h : ∀ k, cur (k + 1) = body k) (hs : Stage b bad next body) : Stage b bad next cur :=
  ⟨fun hb v hv => Ev.step h (hs.1 hb v hv), fun hb => Ev.step h (hs.2 hb)⟩
theorem Stage.ite {α : Type} {c : Prop} [Decidable c] {b : Bool} {bad : α} {next f g : Nat → Option α} (h : c) (hf : Stage b bad next f) : Stage b bad next (fun k => if c then f k else g k) :=
  ⟨fun hb v hv => Ev.congr (fun _ => if_pos h) (hf.1 hb v hv), fun hb => Ev.congr (fun _ => if_pos h) (hf.2 hb)⟩
theorem Stage.ite' {α : Type} {c : Prop} [Decidable c] {b : Bool} {bad : α} {next f g : Nat → Option α} (h : ¬ c) (hg : Stage b bad next g) : Stage b bad next (fun k => if c then f k else g k) :=
  ⟨fun hb v hv => Ev.congr (fun _ => if_neg h) (hg.1 hb v hv), fun hb => Ev.congr (fun _ => if_neg h) (hg.2 hb)⟩
theorem Stage.some {α β : Type} {a : α} {b : Bool} {bad : β} {next : Nat → Option β} {f : Nat → α → Option β} {o : Option α} (ho : o = .some a) (hf : Stage b bad next (fun k => f k a)) : Stage b bad next (fun k => o.bind (f k)) :=
  ⟨fun hb v hv => Ev.congr (fun _ => by rw [ho]; rfl) (hf.1 hb v hv), fun hb => Ev.congr (fun _ => by rw [ho]; rfl) (hf.2 hb)⟩
theorem Stage.bind {α β : Type} {a : α} {b : Bool} {bad : β} {next : Nat → Option β} {f : Nat → α → Option β} {o : Nat → Option α} (ho : Ev o a) (hf : Stage b bad next (fun k => f k a)) : Stage b bad next (fun k => (o k).bind (f k)) :=
  ⟨fun hb v hv => Ev.bind ho (hf.1 hb v hv), fun hb => Ev.bind ho (hf.2 hb)⟩
theorem Stage.bad {α : Type} {bad : α} {next cur : Nat → Option α} (h : Ev cur bad) : Stage false bad next cur := ⟨fun h => absurd h (by decide), fun _ => h⟩
theorem Stage.none {α : Type} {bad : α} (next : Nat → Option α) : Stage false bad next (fun _ => .some bad) := Stage.bad (Ev.now _)
theorem Stage.eq {α : Type} {b c : Bool} {bad : α} {next cur : Nat → Option α} (h : b = c) (hs : Stage b bad next cur) : Stage c bad next cur := h ▸ hs
theorem ite_ev {α : Type} {c : Prop} [Decidable c] {f g : Nat → Option α} {r : α} (h : c) (hf : Ev f r) : Ev (fun k => if c then f k else g k) r :=
  Ev.congr (fun _ => if_pos h) hf
theorem ite_ev' {α : Type} {c : Prop} [Decidable c] {f g : Nat → Option α} {r : α} (h : ¬ c) (hg : Ev g r) : Ev (fun k => if c then f k else g k) r :=
  Ev.congr (fun _ => if_neg h) hg
theorem some_ev {α β : Type} {a : α} {f : Nat → α → Option β} {r : β} {o : Option α} (ho : o = some a) (h : Ev (fun k => f k a) r) : Ev (fun k => o.bind (f k)) r :=
  Ev.congr (fun k => by rw [ho]; rfl) h
theorem tt : true = true := rfl
theorem ft : ¬ (false = true) := by decide

/-! ### The order -/
def trans3 (l : List Int) (a b c : Nat) : Bool := !(bitAt l a b && bitAt l b c && !bitAt l a c)
def anti2 (l : List Int) (a b : Nat) : Bool := !(!(a == b) && bitAt l a b && bitAt l b a)
def ordA (l : List Int) (n a : Nat) : Bool := allFrom (fun b => anti2 l a b && allFrom (trans3 l a b) 0 n) 0 n
def ordB (l : List Int) (n : Nat) : Bool := allFrom (fun a => bitAt l a a && ordA l n a) 0 n

section impl
variable {l : List Int} {n : Nat} (hl : n ≤ l.length) (hn : n ≤ 64)
include hl hn
theorem io_l2 (a b : Nat) (ha : a < n) (hb : b < n) :
    Stage (allFrom (trans3 l a b) 0 n) false (fun k => impl_Lat_isOrder.l1 k a n a n ((b + 1 : Nat) : Int) n l) (fun k => impl_Lat_isOrder.l2 k a b n a n b n 0 n l) := by
  refine Stage.eq (Bool.and_true _) (Stage.trans (loop_stage (g := fun k c => impl_Lat_isOrder.l2 k a b n a n b n (c : Nat) n l) (trans3 l a b) ?_ n 0 (by omega)) ?_)
  · intro c hc
    refine Stage.step (fun k => by rw [impl_Lat_isOrder.l2]) (Stage.ite (by omega) ?_)
    rw [succ_w (by omega)]
    unfold trans3
    refine Stage.some (le_eq l n a b (by omega)) ?_
    cases bitAt l a b with
    | false => exact Stage.ite' ft (Stage.refl _)
    | true =>
      refine Stage.ite tt (Stage.some (le_eq l n b c (by omega)) ?_)
      cases bitAt l b c with
      | false => exact Stage.ite' ft (Stage.refl _)
      | true =>
        refine Stage.ite tt (Stage.some (le_eq l n a c (by omega)) ?_)
        cases bitAt l a c with
        | true => exact Stage.ite tt (Stage.refl _)
        | false => exact Stage.ite' ft (Stage.none _)
  · refine Stage.step (fun k => by rw [impl_Lat_isOrder.l2]) (Stage.ite' (by omega) ?_)
    rw [succ_w (by omega)]
    exact Stage.refl _
theorem io_l1 (a : Nat) (ha : a < n) :
    Stage (ordA l n a) false (fun k => impl_Lat_isOrder.l0 k n ((a + 1 : Nat) : Int) n l) (fun k => impl_Lat_isOrder.l1 k a n a n 0 n l) := by
  refine Stage.eq (Bool.and_true _) (Stage.trans (loop_stage (g := fun k b => impl_Lat_isOrder.l1 k a n a n (b : Nat) n l) (fun b => anti2 l a b && allFrom (trans3 l a b) 0 n) ?_ n 0 (by omega)) ?_)
  · intro b hb
    have h2 : Stage (allFrom (trans3 l a b) 0 n) false (fun k => impl_Lat_isOrder.l1 k a n a n ((b + 1 : Nat) : Int) n l) (fun k => impl_Lat_isOrder.j2 k a b n a n b false n l) :=
      Stage.step (fun k => by rw [impl_Lat_isOrder.j2]) (Stage.ite' ft (io_l2 hl hn a b ha hb))
    refine Stage.step (fun k => by rw [impl_Lat_isOrder.l1]) (Stage.ite (by omega) ?_)
    by_cases hab : (a : Int) = b
    · have hne : (a == b) = true := by simp; omega
      refine Stage.ite hab (Stage.eq ?_ h2)
      simp [anti2, hne]
    · have hne : (a == b) = false := by simp; omega
      refine Stage.ite' hab (Stage.some (le_eq l n a b (by omega)) ?_)
      unfold anti2
      rw [hne]
      cases bitAt l a b with
      | false => exact Stage.ite' ft h2
      | true =>
        refine Stage.ite tt (Stage.some (le_eq l n b a (by omega)) ?_)
        cases bitAt l b a with
        | false => exact h2
        | true => exact Stage.step (fun k => by rw [impl_Lat_isOrder.j2]) (Stage.ite tt (Stage.none _))
  · refine Stage.step (fun k => by rw [impl_Lat_isOrder.l1]) (Stage.ite' (by omega) ?_)
    rw [succ_w (by omega)]
    exact Stage.refl _
theorem io_f : Ev (fun k => impl_Lat_isOrder.f k n l) (ordB l n) := by
  unfold impl_Lat_isOrder.f
  refine (Bool.and_true (ordB l n)) ▸ Stage.value (loop_stage (g := fun k a => impl_Lat_isOrder.l0 k n (a : Nat) n l) (fun a => bitAt l a a && ordA l n a) ?_ n 0 (by omega)) (v := true) ?_
  · intro a ha
    refine Stage.step (fun k => by rw [impl_Lat_isOrder.l0]) (Stage.ite (by omega) (Stage.some (le_eq l n a a (by omega)) ?_))
    cases bitAt l a a with
    | true => exact Stage.ite tt (io_l1 hl hn a ha)
    | false => exact Stage.ite' ft (Stage.none _)
  · exact Ev.step (fun k => by rw [impl_Lat_isOrder.l0]) (ite_ev' (by omega) (Ev.now _))
end impl

/-! ### Bounds -/
theorem und_eq (l : List Int) (n : Int) (up : Bool) (a c : Nat) (ha : a < l.length) (hc : c < l.length) (hl : l.length ≤ 64) : spec_l01Side.f n l a c up = some (und l up a c) := by
  unfold spec_l01Side.f und
  cases up with
  | true => rw [if_pos tt, if_pos (by omega), if_pos (by omega), bit_eq l a c (by omega)]; rfl
  | false => rw [if_neg ft, if_pos (by omega), if_pos (by omega), bit_eq l c a (by omega)]; rfl
section bound
variable {l : List Int} (hl : l.length ≤ 64) {a b : Nat} (ha : a < l.length) (hb : b < l.length) (up : Bool)
include hl ha hb
/-- From d on all that the inner loop asks. -/
def leastFrom (l : List Int) (up : Bool) (a b c d : Nat) : Bool := allFrom (fun d => !(und l up a d && und l up b d && !und l up c d)) d l.length
theorem sb_l1 (c : Nat) (hc : c < l.length) (d : Nat) : ∀ (e : Nat) (x : Bool) (v : Int), e + d = l.length →
    Ev (fun k => if (x && leastFrom l up a b c e) = true then some (c : Int) else spec_l01Bound.l0 k a b up ((c + 1 : Nat) : Int) l.length l) v →
    Ev (fun k => spec_l01Bound.l1 k a b up c x e l.length l) v := by
  have hno : ∀ (e : Nat) (v : Int), Ev (fun k => spec_l01Bound.l0 k a b up ((c + 1 : Nat) : Int) l.length l) v → Ev (fun k => spec_l01Bound.l1 k a b up c false e l.length l) v := by
    intro e v h
    have hj : Ev (fun k => spec_l01Bound.j3 k a b up c false e false l.length l) v := by
      refine Ev.step (fun k => by rw [spec_l01Bound.j3]) (ite_ev' ft (ite_ev' ft ?_))
      rw [succ_w (by omega)]
      exact h
    refine Ev.step (fun k => by rw [spec_l01Bound.l1]) ?_
    by_cases he : (e : Int) < l.length
    · exact ite_ev he hj
    · exact ite_ev' he hj
  induction d with
  | zero =>
    intro e x v he h
    obtain rfl : e = l.length := by omega
    have hz : leastFrom l up a b c l.length = true := allFrom_end _ _
    rw [hz, Bool.and_true] at h
    cases x with
    | false => exact hno _ v (Ev.congr (fun _ => (if_neg ft).symm) h)
    | true =>
      refine Ev.step (fun k => by rw [spec_l01Bound.l1]) (ite_ev' (by omega) ?_)
      refine Ev.step (fun k => by rw [spec_l01Bound.j3]) (ite_ev' ft (ite_ev tt ?_))
      exact Ev.congr (fun _ => (if_pos tt).symm) h
  | succ d ih =>
    intro e x v he h
    cases x with
    | false => exact hno e v (Ev.congr (fun _ => (if_neg ft).symm) h)
    | true =>
      have hs : leastFrom l up a b c e = (!(und l up a e && und l up b e && !und l up c e) && leastFrom l up a b c (e + 1)) := allFrom_step _ (by omega)
      refine Ev.step (fun k => by rw [spec_l01Bound.l1]) (ite_ev (by omega) ?_)
      refine Ev.step (fun k => by rw [spec_l01Bound.j3]) (ite_ev tt ?_)
      rw [succ_w (by omega)]
      refine some_ev (und_eq l _ up a e ha (by omega) hl) ?_
      cases h1 : und l up a e with
      | false =>
        rw [hs, h1] at h
        exact ite_ev' ft (ih (e + 1) true v (by omega) h)
      | true =>
        refine ite_ev tt (some_ev (und_eq l _ up b e hb (by omega) hl) ?_)
        cases h2 : und l up b e with
        | false =>
          rw [hs, h1, h2] at h
          exact ite_ev' ft (ih (e + 1) true v (by omega) h)
        | true =>
          refine ite_ev tt (some_ev (und_eq l _ up c e hc (by omega) hl) ?_)
          cases h3 : und l up c e with
          | true =>
            rw [hs, h1, h2, h3] at h
            exact ite_ev tt (ih (e + 1) true v (by omega) h)
          | false =>
            rw [hs, h1, h2, h3] at h
            exact ite_ev' ft (hno _ v (Ev.congr (fun _ => (if_neg (by simp)).symm) h))
theorem sb_l0 (d : Nat) : ∀ c, c + d = l.length → Ev (fun k => spec_l01Bound.l0 k a b up (c : Nat) l.length l) (match (List.range' c d).find? (isBd l up a b) with | some x => (x : Int) | none => -1) := by
  induction d with
  | zero =>
    intro c hc
    show Ev _ (-1 : Int)
    exact Ev.step (fun k => by rw [spec_l01Bound.l0]) (ite_ev' (by omega) (Ev.now _))
  | succ d ih =>
    intro c hc
    have hcl : c < l.length := by omega
    have hall : leastFrom l up a b c 0 = (List.range l.length).all fun d => !(und l up a d && und l up b d && !und l up c d) := (allFrom_eq _ _).symm
    have hi : isBd l up a b c = (und l up a c && und l up b c && leastFrom l up a b c 0) := by rw [hall]; rfl
    have key : ∀ x, x = (und l up a c && und l up b c) → Ev (fun k => spec_l01Bound.j1 k a b up c x l.length l) (match (List.range' c (d + 1)).find? (isBd l up a b) with | some x => (x : Int) | none => -1) := by
      intro x hx
      refine Ev.step (f := fun k => spec_l01Bound.l1 k a b up c x ((0 : Nat) : Int) l.length l) (fun k => by rw [spec_l01Bound.j1]; rfl) (sb_l1 hl ha hb up c hcl l.length 0 x _ (by omega) ?_)
      rw [List.range'_succ, List.find?_cons, hi, ← hx]
      cases x && leastFrom l up a b c 0 with
      | true => exact ite_ev tt (Ev.now _)
      | false => exact ite_ev' ft (ih (c + 1) (by omega))
    refine Ev.step (fun k => by rw [spec_l01Bound.l0]) (ite_ev (by omega) ?_)
    refine some_ev (und_eq l _ up a c ha hcl hl) ?_
    cases h1 : und l up a c with
    | false => exact ite_ev' ft (key false (by rw [h1]; rfl))
    | true => exact ite_ev tt (some_ev (und_eq l _ up b c hb hcl hl) (key _ (by rw [h1]; rfl)))
theorem bd_spec : Ev (fun k => spec_l01Bound.f k l.length l a b up) (bdv l a b up) := by
  have h := sb_l0 hl ha hb up l.length 0 (by omega)
  unfold spec_l01Bound.f bdv
  rw [List.range_eq_range']
  exact h
theorem bd_impl : Ev (fun k => impl_Lat_bound.f k l.length l a b up) (bdv l a b up) :=
  ⟨0, fun k _ => by unfold impl_Lat_bound.f; rw [if_pos ⟨by omega, by omega, by omega, by omega, rfl, by omega⟩]; simp⟩
end bound
theorem bdv_symm (l : List Int) (a b : Nat) (up : Bool) : bdv l a b up = bdv l b a up := by
  have : isBd l up a b = isBd l up b a := by
    funext c
    unfold isBd
    rw [Bool.and_comm (und l up a c)]
    congr 1
    congr 1
    funext d
    rw [Bool.and_comm (und l up a d)]
  unfold bdv
  rw [this]

/-! ### Valid lattices -/
/-- Every two labels have a join and a meet. -/
def bdsB (l : List Int) (n : Nat) : Bool := allFrom (fun a => allFrom (fun b => decide (0 ≤ bdv l a b true) && decide (0 ≤ bdv l a b false)) 0 n) 0 n
def smallB (l : List Int) (n : Nat) : Bool := allFrom (fun a => decide (l.getD a 0 < 2 ^ n)) 0 n
def latB (N : Int) (l : List Int) : Bool := decide (1 ≤ N ∧ N ≤ 16 ∧ (l.length : Int) = N) && (smallB l l.length && (ordB l l.length && bdsB l l.length))

theorem shr_zero {x : Int} {n : Nat} (hx : 0 ≤ x) (hn : n ≤ 64) : (shr .u64 x (n : Int) = 0) ↔ x < 2 ^ n := by
  show x / 2 ^ (min (n : Int).toNat 64) = 0 ↔ x < 2 ^ n
  rw [show min (n : Int).toNat 64 = n by omega]
  have hp : (0 : Int) < 2 ^ n := Int.pow_pos (by decide)
  constructor
  · intro h
    have := Int.lt_ediv_add_one_mul_self x hp
    rw [h] at this
    omega
  · exact fun h => Int.ediv_eq_zero_of_lt hx h
theorem pow_ev (n : Nat) (hn : n ≤ 63) : ∀ d i : Nat, i + d = n → ∀ x : Int, x = 2 ^ i → Ev (fun k => spec_l01Power.l0 k (d : Nat) x) (2 ^ n) := by
  intro d
  induction d with
  | zero =>
    intro i hi x hx
    obtain rfl : i = n := by omega
    rw [hx]
    exact Ev.step (fun k => by rw [spec_l01Power.l0]) (ite_ev' (by omega) (Ev.now _))
  | succ d ih =>
    intro i hi x hx
    have h1 : (2 : Int) ^ (i + 1) = 2 ^ i * 2 := Int.pow_succ ..
    have h2 : (2 : Int) ^ (i + 1) ≤ 2 ^ 63 := by exact_mod_cast Nat.pow_le_pow_right (n := 2) (by decide) (show i + 1 ≤ 63 by omega)
    have h3 : (0 : Int) < 2 ^ i := Int.pow_pos (by decide)
    refine Ev.step (fun k => by rw [spec_l01Power.l0]) (ite_ev (by omega) ?_)
    rw [wrap64_id (by omega) (by omega), u64_id (by omega) (by omega), show ((d + 1 : Nat) : Int) - 1 = (d : Nat) by omega]
    exact ih (i + 1) (by omega) _ (by omega)
theorem power_ev (n : Nat) (hn : n ≤ 63) : Ev (fun k => spec_l01Power.f k (n : Nat)) (2 ^ n) := pow_ev n hn n 0 (by omega) 1 (by simp)

section valid
variable {l : List Int} (hn : l.length ≤ 16) (hp : ∀ x ∈ l, 0 ≤ x)
include hn
theorem il_l2 (a : Nat) (ha : a < l.length) :
    Stage (allFrom (fun b => decide (0 ≤ bdv l a b true) && decide (0 ≤ bdv l a b false)) 0 l.length) false (fun k => impl_isLat.l1 k l.length ((a + 1 : Nat) : Int) l.length l) (fun k => impl_isLat.l2 k a l.length a l.length 0 l.length l) := by
  refine Stage.eq (Bool.and_true _) (Stage.trans (loop_stage (g := fun k b => impl_isLat.l2 k a l.length a l.length (b : Nat) l.length l) (fun b => decide (0 ≤ bdv l a b true) && decide (0 ≤ bdv l a b false)) ?_ l.length 0 (by omega)) ?_)
  · intro b hb
    refine Stage.step (fun k => by rw [impl_isLat.l2]) (Stage.ite (by omega) ?_)
    rw [succ_w (by omega)]
    refine Stage.bind (bd_impl (by omega) ha hb true) ?_
    by_cases h1 : bdv l a b true < 0
    · exact Stage.ite h1 (Stage.eq (by rw [decide_eq_false (by omega)]; rfl) (Stage.none _))
    · refine Stage.ite' h1 (Stage.bind (bd_impl (by omega) ha hb false) ?_)
      by_cases h2 : bdv l a b false < 0
      · exact Stage.ite h2 (Stage.eq (by rw [decide_eq_false (p := 0 ≤ bdv l a b false) (by omega)]; simp) (Stage.none _))
      · exact Stage.ite' h2 (Stage.eq (by rw [decide_eq_true (p := 0 ≤ bdv l a b true) (by omega), decide_eq_true (p := 0 ≤ bdv l a b false) (by omega)]; rfl) (Stage.refl _))
  · refine Stage.step (fun k => by rw [impl_isLat.l2]) (Stage.ite' (by omega) ?_)
    rw [succ_w (by omega)]
    exact Stage.refl _
theorem il_l1 : Ev (fun k => impl_isLat.l1 k l.length 0 l.length l) (bdsB l l.length) := by
  refine (Bool.and_true (bdsB l l.length)) ▸ Stage.value (loop_stage (g := fun k a => impl_isLat.l1 k l.length (a : Nat) l.length l) (fun a => allFrom (fun b => decide (0 ≤ bdv l a b true) && decide (0 ≤ bdv l a b false)) 0 l.length) ?_ l.length 0 (by omega)) (v := true) ?_
  · intro a ha
    exact Stage.step (fun k => by rw [impl_isLat.l1]) (Stage.ite (by omega) (il_l2 hn a ha))
  · exact Ev.step (fun k => by rw [impl_isLat.l1]) (ite_ev' (by omega) (Ev.now _))
include hp
omit hn in
theorem getD_nonneg (i : Nat) : 0 ≤ l.getD i 0 := by
  rw [List.getD_eq_getElem?_getD]
  cases hi : l[i]? with
  | none => simp
  | some x => simpa using hp x (List.mem_of_getElem? hi)
theorem il_l0 : Ev (fun k => impl_isLat.l0 k l l.length 0 l.length l) (smallB l l.length && (ordB l l.length && bdsB l l.length)) := by
  refine Stage.value (loop_stage (g := fun k a => impl_isLat.l0 k l l.length (a : Nat) l.length l) (fun a => decide (l.getD a 0 < 2 ^ l.length)) ?_ l.length 0 (by omega)) ?_
  · intro a ha
    refine Stage.step (fun k => by rw [impl_isLat.l0]) (Stage.ite (by omega) (Stage.ite (by omega) (Stage.ite (by omega) (Stage.ite (by omega) ?_))))
    rw [succ_w (by omega), rd_nat]
    have h := shr_zero (getD_nonneg hp a) (show l.length ≤ 64 by omega)
    by_cases h1 : shr .u64 (l.getD a 0) (l.length : Nat) = 0
    · exact Stage.ite h1 (Stage.eq (decide_eq_true (h.mp h1)).symm (Stage.refl _))
    · exact Stage.ite' h1 (Stage.eq (decide_eq_false (fun h2 => h1 (h.mpr h2))).symm (Stage.none _))
  · refine Ev.step (fun k => by rw [impl_isLat.l0]) (ite_ev' (by omega) (Ev.bind (io_f (Nat.le_refl _) (by omega)) ?_))
    cases ordB l l.length with
    | true => exact ite_ev tt (il_l1 hn)
    | false => exact ite_ev' ft (Ev.now _)
end valid
theorem in_eq (a b c : Int) : impl_in.f a b c = some (decide (b ≤ a ∧ a ≤ c)) := by
  unfold impl_in.f
  by_cases h : b ≤ a
  · rw [if_pos h]; simp [h]
  · rw [if_neg h]; simp [h]
theorem isLat_ev (N : Int) (l : List Int) (hp : ∀ x ∈ l, 0 ≤ x) : Ev (fun k => impl_isLat.f k N l) (latB N l) := by
  unfold impl_isLat.f latB
  refine some_ev (in_eq _ _ _) ?_
  by_cases h : 1 ≤ N ∧ N ≤ 16
  · rw [decide_eq_true h]
    by_cases h2 : (l.length : Int) = N
    · subst h2
      rw [decide_eq_true (p := _ ∧ _ ∧ _) ⟨h.1, h.2, rfl⟩, Bool.true_and]
      refine ite_ev tt (Ev.step (fun k => by rw [impl_isLat.j0]) (ite_ev' (by simp) ?_))
      exact il_l0 (by omega) hp
    · rw [decide_eq_false (p := _ ∧ _ ∧ _) (fun h3 => h2 h3.2.2), Bool.false_and]
      exact ite_ev tt (Ev.step (fun k => by rw [impl_isLat.j0]) (ite_ev (by simpa using h2) (Ev.now _)))
  · rw [decide_eq_false h, decide_eq_false (p := _ ∧ _ ∧ _) (fun h3 => h ⟨h3.1, h3.2.1⟩), Bool.false_and]
    exact ite_ev' ft (Ev.step (fun k => by rw [impl_isLat.j0]) (ite_ev tt (Ev.now _)))

/-! ### The reference -/
section spec
variable {l : List Int} (hn : l.length ≤ 16)
include hn
theorem so_l2 (a b : Nat) (ha : a < l.length) (hb : b < l.length) :
    Stage (allFrom (trans3 l a b) 0 l.length) false (fun k => spec_LatOk.l1 k a ((b + 1 : Nat) : Int) l.length l) (fun k => spec_LatOk.l2 k a b 0 l.length l) := by
  refine Stage.eq (Bool.and_true _) (Stage.trans (loop_stage (g := fun k c => spec_LatOk.l2 k a b (c : Nat) l.length l) (trans3 l a b) ?_ l.length 0 (by omega)) ?_)
  · intro c hc
    refine Stage.step (fun k => by rw [spec_LatOk.l2]) (Stage.ite (by omega) (Stage.ite (by omega) (Stage.ite (by omega) ?_)))
    rw [succ_w (by omega)]
    unfold trans3
    refine Stage.some (bit_eq l a b (by omega)) ?_
    cases bitAt l a b with
    | false => exact Stage.ite' ft (Stage.refl _)
    | true =>
      refine Stage.ite tt (Stage.ite (by omega) (Stage.ite (by omega) (Stage.some (bit_eq l b c (by omega)) ?_)))
      cases bitAt l b c with
      | false => exact Stage.ite' ft (Stage.refl _)
      | true =>
        refine Stage.ite tt (Stage.some (bit_eq l a c (by omega)) ?_)
        cases bitAt l a c with
        | true => exact Stage.ite tt (Stage.refl _)
        | false => exact Stage.ite' ft (Stage.none _)
  · refine Stage.step (fun k => by rw [spec_LatOk.l2]) (Stage.ite' (by omega) ?_)
    rw [succ_w (by omega)]
    exact Stage.refl _
theorem so_l1 (a : Nat) (ha : a < l.length) :
    Stage (ordA l l.length a) false (fun k => spec_LatOk.l0 k ((a + 1 : Nat) : Int) l.length l) (fun k => spec_LatOk.l1 k a 0 l.length l) := by
  refine Stage.eq (Bool.and_true _) (Stage.trans (loop_stage (g := fun k b => spec_LatOk.l1 k a (b : Nat) l.length l) (fun b => anti2 l a b && allFrom (trans3 l a b) 0 l.length) ?_ l.length 0 (by omega)) ?_)
  · intro b hb
    have h2 : Stage (allFrom (trans3 l a b) 0 l.length) false (fun k => spec_LatOk.l1 k a ((b + 1 : Nat) : Int) l.length l) (fun k => spec_LatOk.j4 k a b false l.length l) :=
      Stage.step (fun k => by rw [spec_LatOk.j4]) (Stage.ite' ft (so_l2 hn a b ha hb))
    refine Stage.step (fun k => by rw [spec_LatOk.l1]) (Stage.ite (by omega) ?_)
    by_cases hab : (a : Int) = b
    · have hne : (a == b) = true := by simp; omega
      refine Stage.ite hab (Stage.eq ?_ h2)
      simp [anti2, hne]
    · have hne : (a == b) = false := by simp; omega
      refine Stage.ite' hab (Stage.ite (by omega) (Stage.ite (by omega) (Stage.some (bit_eq l a b (by omega)) ?_)))
      unfold anti2
      rw [hne]
      cases bitAt l a b with
      | false => exact Stage.ite' ft h2
      | true =>
        refine Stage.ite tt (Stage.ite (by omega) (Stage.ite (by omega) (Stage.some (bit_eq l b a (by omega)) ?_)))
        cases bitAt l b a with
        | false => exact h2
        | true => exact Stage.step (fun k => by rw [spec_LatOk.j4]) (Stage.ite tt (Stage.none _))
  · refine Stage.step (fun k => by rw [spec_LatOk.l1]) (Stage.ite' (by omega) ?_)
    rw [succ_w (by omega)]
    exact Stage.refl _
theorem so_l0 : Stage (allFrom (fun a => bitAt l a a && (decide (l.getD a 0 < 2 ^ l.length) && ordA l l.length a)) 0 l.length) false (fun k => spec_LatOk.l3 k 0 l.length l) (fun k => spec_LatOk.l0 k 0 l.length l) := by
  refine Stage.eq (Bool.and_true _) (Stage.trans (loop_stage (g := fun k a => spec_LatOk.l0 k (a : Nat) l.length l) (fun a => bitAt l a a && (decide (l.getD a 0 < 2 ^ l.length) && ordA l l.length a)) ?_ l.length 0 (by omega)) ?_)
  · intro a ha
    refine Stage.step (fun k => by rw [spec_LatOk.l0]) (Stage.ite (by omega) (Stage.ite (by omega) (Stage.ite (by omega) (Stage.some (bit_eq l a a (by omega)) ?_))))
    cases bitAt l a a with
    | false => exact Stage.ite' ft (Stage.step (fun k => by rw [spec_LatOk.j2]) (Stage.ite tt (Stage.none _)))
    | true =>
      refine Stage.ite tt (Stage.bind (power_ev l.length (by omega)) ?_)
      rw [rd_nat]
      by_cases h : l.getD a 0 ≥ 2 ^ l.length
      · rw [decide_eq_true h, decide_eq_false (p := l.getD a 0 < 2 ^ l.length) (by omega)]
        exact Stage.step (fun k => by rw [spec_LatOk.j2]) (Stage.ite tt (Stage.none _))
      · rw [decide_eq_false h, decide_eq_true (p := l.getD a 0 < 2 ^ l.length) (by omega)]
        exact Stage.step (fun k => by rw [spec_LatOk.j2]) (Stage.ite' ft (so_l1 hn a ha))
  · exact Stage.step (fun k => by rw [spec_LatOk.l0]) (Stage.ite' (by omega) (Stage.refl _))
def bdsLow (l : List Int) (n : Nat) : Bool := allFrom (fun a => allFrom (fun b => decide (0 ≤ bdv l a b true) && decide (0 ≤ bdv l a b false)) 0 a) 0 n
theorem so_l4 (a : Nat) (ha : a < l.length) :
    Stage (allFrom (fun b => decide (0 ≤ bdv l a b true) && decide (0 ≤ bdv l a b false)) 0 a) false (fun k => spec_LatOk.l3 k ((a + 1 : Nat) : Int) l.length l) (fun k => spec_LatOk.l4 k a 0 l.length l) := by
  refine Stage.eq (Bool.and_true _) (Stage.trans (loop_stage (g := fun k b => spec_LatOk.l4 k a (b : Nat) l.length l) (fun b => decide (0 ≤ bdv l a b true) && decide (0 ≤ bdv l a b false)) ?_ a 0 (by omega)) ?_)
  · intro b hb
    refine Stage.step (fun k => by rw [spec_LatOk.l4]) (Stage.ite (by omega) ?_)
    rw [succ_w (by omega)]
    refine Stage.bind (bd_spec (by omega) ha (by omega) true) ?_
    by_cases h1 : bdv l a b true < 0
    · exact Stage.ite h1 (Stage.eq (by rw [decide_eq_false (by omega)]; rfl) (Stage.none _))
    · refine Stage.ite' h1 (Stage.bind (bd_spec (by omega) ha (by omega) false) ?_)
      by_cases h2 : bdv l a b false < 0
      · exact Stage.ite h2 (Stage.eq (by rw [decide_eq_false (p := 0 ≤ bdv l a b false) (by omega)]; simp) (Stage.none _))
      · exact Stage.ite' h2 (Stage.eq (by rw [decide_eq_true (p := 0 ≤ bdv l a b true) (by omega), decide_eq_true (p := 0 ≤ bdv l a b false) (by omega)]; rfl) (Stage.refl _))
  · refine Stage.step (fun k => by rw [spec_LatOk.l4]) (Stage.ite' (by omega) ?_)
    rw [succ_w (by omega)]
    exact Stage.refl _
theorem so_l3 : Ev (fun k => spec_LatOk.l3 k 0 l.length l) (bdsLow l l.length) := by
  refine (Bool.and_true (bdsLow l l.length)) ▸ Stage.value (loop_stage (g := fun k a => spec_LatOk.l3 k (a : Nat) l.length l) (fun a => allFrom (fun b => decide (0 ≤ bdv l a b true) && decide (0 ≤ bdv l a b false)) 0 a) ?_ l.length 0 (by omega)) (v := true) ?_
  · intro a ha
    exact Stage.step (fun k => by rw [spec_LatOk.l3]) (Stage.ite (by omega) (so_l4 hn a ha))
  · exact Ev.step (fun k => by rw [spec_LatOk.l3]) (ite_ev' (by omega) (Ev.now _))
end spec
/-- In an order a label is its own bound. -/
theorem bdv_self {l : List Int} {a : Nat} (ha : a < l.length) (hr : bitAt l a a = true) (up : Bool) : 0 ≤ bdv l a a up := by
  unfold bdv
  cases hf : (List.range l.length).find? (isBd l up a a) with
  | some x => simp
  | none =>
    have := List.find?_eq_none.mp hf a (by simpa using ha)
    refine absurd ?_ this
    have hu : und l up a a = true := by unfold und; cases up <;> simpa using hr
    unfold isBd
    rw [hu]
    simp only [Bool.and_self, Bool.true_and, List.all_eq_true]
    intro x _
    cases und l up a x <;> rfl
theorem valid_eq (l : List Int) : (allFrom (fun a => bitAt l a a && (decide (l.getD a 0 < 2 ^ l.length) && ordA l l.length a)) 0 l.length && bdsLow l l.length) = (smallB l l.length && (ordB l l.length && bdsB l l.length)) := by
  rw [Bool.eq_iff_iff]
  simp only [Bool.and_eq_true, allFrom_iff, smallB, ordB, bdsB, bdsLow]
  constructor
  · rintro ⟨h1, h2⟩
    refine ⟨fun a h3 h4 => (h1 a h3 h4).2.1, fun a h3 h4 => ⟨(h1 a h3 h4).1, (h1 a h3 h4).2.2⟩, fun a h3 h4 b h5 h6 => ?_⟩
    rcases Nat.lt_trichotomy b a with h | h | h
    · exact h2 a h3 h4 b h5 h
    · subst h
      exact ⟨decide_eq_true (bdv_self h4 (h1 b h3 h4).1 true), decide_eq_true (bdv_self h4 (h1 b h3 h4).1 false)⟩
    · have := h2 b h5 h6 a h3 h
      rw [bdv_symm l b a, bdv_symm l b a] at this
      exact this
  · rintro ⟨h1, h2, h3⟩
    exact ⟨fun a h4 h5 => ⟨(h2 a h4 h5).1, h1 a h4 h5, (h2 a h4 h5).2⟩, fun a h4 h5 b h6 h7 => h3 a h4 h5 b h6 (by omega)⟩
theorem latOk_ev (N : Int) (l : List Int) : Ev (fun k => spec_LatOk.f k N l) (latB N l) := by
  unfold spec_LatOk.f latB
  by_cases h1 : N < 1
  · rw [decide_eq_false (p := _ ∧ _ ∧ _) (fun h3 => by omega), Bool.false_and]
    exact ite_ev h1 (Ev.step (fun k => by rw [spec_LatOk.j0]) (ite_ev tt (Ev.now _)))
  · refine ite_ev' h1 ?_
    by_cases h2 : N > 16
    · rw [decide_eq_false (p := _ ∧ _ ∧ _) (fun h3 => by omega), Bool.false_and]
      exact ite_ev h2 (Ev.step (fun k => by rw [spec_LatOk.j0]) (ite_ev tt (Ev.now _)))
    · refine ite_ev' h2 ?_
      by_cases h3 : (l.length : Int) = N
      · subst h3
        rw [decide_eq_true (p := _ ∧ _ ∧ _) ⟨by omega, by omega, rfl⟩, Bool.true_and, ← valid_eq]
        refine Ev.step (fun k => by rw [spec_LatOk.j0]) (ite_ev' (by simp) ?_)
        exact Stage.value (so_l0 (by omega)) (so_l3 (by omega))
      · rw [decide_eq_false (p := _ ∧ _ ∧ _) (fun h4 => h3 h4.2.2), Bool.false_and]
        exact Ev.step (fun k => by rw [spec_LatOk.j0]) (ite_ev (by simpa using h3) (Ev.now _))
end Go.Proofs.Ytjhfjnknajhanaa.Q

/- The lattices that the drawing functions hand out are a finite list. -/
namespace Go.Proofs.Ytjhfjnknajhanaa.Q
open Go.RowKit Go.Proofs.Ytjhfjnknajhanaa.P Go.Proofs.YtjhfjnknajhanaaW.PrintWords Go.Proofs.YtjhfjnknajhanaaW.PrintLast Go.Proofs.YtjhfjnknajhanaaW.PrintMore

def bases : List (Int × List Int) := [(1, [1]), (2, [3, 2]), (3, [7, 6, 4]), (4, [15, 10, 12, 8]), (5, [9, 10, 12, 8, 31]), (8, [255, 178, 212, 232, 144, 160, 192, 128])]

set_option maxRecDepth 10000 in
theorem latOf_base : ∀ i : Nat, i < 6 → ∃ q ∈ bases, ∀ k, 4000 ≤ k → (spec_LatOf.f k (rd [1, 2, 3, 4, 5, 8] (i : Int)) (rd_L18 [([] : List S151), [⟨0, 1⟩], [⟨0, 1⟩, ⟨1, 2⟩], [⟨0, 1⟩, ⟨0, 2⟩, ⟨1, 3⟩, ⟨2, 3⟩], [⟨4, 0⟩, ⟨4, 1⟩, ⟨4, 2⟩, ⟨0, 3⟩, ⟨1, 3⟩, ⟨2, 3⟩], [⟨0, 1⟩, ⟨0, 2⟩, ⟨0, 3⟩, ⟨1, 4⟩, ⟨2, 4⟩, ⟨1, 5⟩, ⟨3, 5⟩, ⟨2, 6⟩, ⟨3, 6⟩, ⟨4, 7⟩, ⟨5, 7⟩, ⟨6, 7⟩]] (i : Int))) = some (q.1, q.2, true) := by
  have key : ∀ (n : Int) (e : List S151) (q : Int × List Int), spec_LatOf.f 4000 n e = some (q.1, q.2, true) → ∀ k, 4000 ≤ k → spec_LatOf.f k n e = some (q.1, q.2, true) := fun n e q h k hk => at_rounds (fun k => spec_LatOf.mono n e k) hk h
  intro i hi
  match i, hi with
  | 0, _ => exact ⟨_, by decide, key _ _ (1, [1]) (by decide +kernel)⟩
  | 1, _ => exact ⟨_, by decide, key _ _ (2, [3, 2]) (by decide +kernel)⟩
  | 2, _ => exact ⟨_, by decide, key _ _ (3, [7, 6, 4]) (by decide +kernel)⟩
  | 3, _ => exact ⟨_, by decide, key _ _ (4, [15, 10, 12, 8]) (by decide +kernel)⟩
  | 4, _ => exact ⟨_, by decide, key _ _ (5, [9, 10, 12, 8, 31]) (by decide +kernel)⟩
  | 5, _ => exact ⟨_, by decide, key _ _ (8, [255, 178, 212, 232, 144, 160, 192, 128]) (by decide +kernel)⟩

/-- What 'badLat' hands out. -/
def candsOf (q : Int × List Int) (p : Int × List Int) : Prop :=
  p = q ∨ p = (q.1, q.2 ++ [1]) ∨ (∃ r, p = (r, q.2)) ∨ ∃ i v, i < q.2.length ∧ v < 256 ∧ p = (q.1, q.2.set i (v : Nat))
def Drawn (p : Int × List Int) : Prop := ∃ q ∈ bases, candsOf q p

theorem base_len : ∀ q ∈ bases, q.2.length ≤ 8 ∧ (q.2.length : Int) = q.1 ∧ 1 ≤ q.1 ∧ ∀ x ∈ q.2, 0 ≤ x ∧ x ≤ 255 := by decide

theorem lat_ok {c : List Int} {a s : Int} {m : Nat} (h : Cu c a s m) (hm : m ≤ 10000000000 := by omega) :
    ∃ q a' s', q ∈ bases ∧ (∀ k, 4000 ≤ k → spec_l01Cur_lat.f k c a s = some (q.1, q.2, a', s')) ∧ Cu c a' s' (m + 1) := by
  replace hm : m ≤ 10000000000 := hm
  obtain ⟨x, a', s', e, x0, x1, _, hc⟩ := pick_ok h 6
  have x2 := x1 (by omega)
  obtain ⟨n, rfl⟩ := Int.eq_ofNat_of_zero_le x0
  obtain ⟨q, hq, hk⟩ := latOf_base n (by omega)
  refine ⟨q, a', s', hq, fun k hk4 => ?_, hc⟩
  unfold spec_l01Cur_lat.f
  simp only [Option.bind_some]
  rw [e]
  simp only [Option.bind_some]
  rw [if_pos (by omega), if_pos (by simpa using x2), if_pos (by simpa using x2), hk k hk4]
  rfl
theorem badLat_ok {c : List Int} {a s : Int} {m : Nat} (h : Cu c a s m) (hm : m ≤ 1000000000 := by omega) :
    ∃ p a' s', Drawn p ∧ (∀ k, 4000 ≤ k → spec_l01Cur_badLat.f k c a s = some (p.1, p.2, a', s')) ∧ Cu c a' s' (m + 5) := by
  replace hm : m ≤ 1000000000 := hm
  obtain ⟨q, a1, s1, hq, hk, h1⟩ := lat_ok h
  obtain ⟨hl1, hl2, hl3, hl4⟩ := base_len q hq
  obtain ⟨x, a2, s2, e2, x0, x1, _, h2⟩ := pick_ok h1 12
  have x2 := x1 (by omega)
  by_cases hx0 : x = 0
  · obtain ⟨y, a3, s3, e3, hy, h3⟩ := raw_ok h2
    obtain ⟨z, a4, s4, e4, z0, z1, _, h4⟩ := pick_ok h3 3
    have z2 := z1 (by omega)
    refine ⟨(rd [y, wrap64 (q.1 + 1), wrap64 (q.1 - 1)] z, q.2), a4, s4, ⟨q, hq, .inr (.inr (.inl ⟨_, rfl⟩))⟩, fun k hk4 => ?_, h4⟩
    unfold spec_l01Cur_badLat.f
    rw [hk k hk4]
    simp only [Option.bind_some]
    rw [e2]
    simp only [Option.bind_some]
    rw [if_pos hx0, e3]
    simp only [Option.bind_some]
    rw [e4]
    simp only [Option.bind_some]
    rw [if_pos z0, if_pos (by simpa using z2)]
  · by_cases hx1 : x = 1
    · obtain ⟨y, a3, s3, e3, y0, y1, y2, h3⟩ := pick_ok h2 (q.2.length : Int)
      obtain ⟨z, a4, s4, e4, z0, z1, _, h4⟩ := pick_ok h3 256
      have z2 := z1 (by omega)
      have y3 : y < q.2.length := by
        by_cases h5 : (2 : Int) ≤ q.2.length
        · exact y1 h5
        · rw [y2 (by omega)]; omega
      refine ⟨(q.1, q.2.set y.toNat z), a4, s4, ⟨q, hq, .inr (.inr (.inr ⟨y.toNat, z.toNat, by omega, by omega, ?_⟩))⟩, fun k hk4 => ?_, h4.mono (by omega)⟩
      · rw [Int.toNat_of_nonneg z0]
      · unfold spec_l01Cur_badLat.f
        rw [hk k hk4]
        simp only [Option.bind_some]
        rw [e2]
        simp only [Option.bind_some]
        rw [if_neg hx0, if_pos hx1, e3]
        simp only [Option.bind_some]
        rw [e4]
        simp only [Option.bind_some]
        rw [if_pos y0, if_pos y3, u64_id z0 (by omega)]
    · by_cases hx2 : x = 2
      · refine ⟨(q.1, q.2 ++ [1]), a2, s2, ⟨q, hq, .inr (.inl rfl)⟩, fun k hk4 => ?_, h2.mono (by omega)⟩
        unfold spec_l01Cur_badLat.f
        rw [hk k hk4]
        simp only [Option.bind_some]
        rw [e2]
        simp only [Option.bind_some]
        rw [if_neg hx0, if_neg hx1, if_pos hx2, if_pos (by omega)]
      · refine ⟨q, a2, s2, ⟨q, hq, .inl rfl⟩, fun k hk4 => ?_, h2.mono (by omega)⟩
        unfold spec_l01Cur_badLat.f
        rw [hk k hk4]
        simp only [Option.bind_some]
        rw [e2]
        simp only [Option.bind_some]
        rw [if_neg hx0, if_neg hx1, if_neg hx2]
theorem Drawn.nonneg {p : Int × List Int} (h : Drawn p) : ∀ x ∈ p.2, 0 ≤ x := by
  obtain ⟨q, hq, hc⟩ := h
  obtain ⟨_, _, _, h4⟩ := base_len q hq
  rcases hc with rfl | rfl | ⟨r, rfl⟩ | ⟨i, v, hi, hv, rfl⟩
  · exact fun x hx => (h4 x hx).1
  · intro x hx
    rcases List.mem_append.mp hx with h | h
    · exact (h4 x h).1
    · simp at h; omega
  · exact fun x hx => (h4 x hx).1
  · intro x hx
    rcases List.mem_or_eq_of_mem_set hx with h | h
    · exact (h4 x h).1
    · omega
end Go.Proofs.Ytjhfjnknajhanaa.Q

/- The valid ones among the lattices that are drawn: a quick look, for the kernel. -/
namespace Go.Proofs.Ytjhfjnknajhanaa.Q
open Go.RowKit Go.Proofs.Ytjhfjnknajhanaa.P Go.Proofs.YtjhfjnknajhanaaW.PrintWords Go.Proofs.YtjhfjnknajhanaaW.PrintLast Go.Proofs.YtjhfjnknajhanaaW.PrintMore

theorem bitAt_nat (l : List Int) (a b : Nat) (h0 : 0 ≤ l.getD a 0) (h1 : l.getD a 0 ≤ 18446744073709551615) (hb : b ≤ 64) : bitAt l a b = (l.getD a 0).toNat.testBit b := by
  unfold bitAt
  obtain ⟨n, hn⟩ := Int.eq_ofNat_of_zero_le h0
  have e : shr .u64 (l.getD a 0) (b : Int) = ((n / 2 ^ b : Nat) : Int) := by
    show l.getD a 0 / 2 ^ min (b : Int).toNat 64 = _
    rw [hn, show min (b : Int).toNat 64 = b by omega]
    norm_cast
  have hle : n / 2 ^ b ≤ n := Nat.div_le_self _ _
  generalize hm : n / 2 ^ b = m at *
  rw [e, and_one_u64 _ (by omega) (by omega), hn]
  simp only [Int.toNat_natCast]
  rw [Nat.testBit_eq_decide_div_mod_eq, hm, Bool.eq_iff_iff]
  simp only [beq_iff_eq, decide_eq_true_eq]
  omega

/-- A quick look at the rows: reflexive, antisymmetric, and what a row has, the rows of that have no more. -/
def flt (r : List Nat) : Bool :=
  (List.range r.length).all fun a => (r.getD a 0).testBit a && (List.range r.length).all fun b => !((r.getD a 0).testBit b) || ((a == b || !((r.getD b 0).testBit a)) && (r.getD b 0 &&& r.getD a 0) == r.getD b 0)

theorem flt_of {l : List Int} (hp : ∀ x ∈ l, 0 ≤ x) {N : Int} (h : latB N l = true) : flt (l.map Int.toNat) = true := by
  unfold latB at h
  simp only [Bool.and_eq_true, decide_eq_true_eq, smallB, ordB, allFrom_iff] at h
  obtain ⟨⟨h1, h2, h3⟩, hs, ho, _⟩ := h
  have hg : ∀ i, (l.map Int.toNat).getD i 0 = (l.getD i 0).toNat := by
    intro i
    simp only [List.getD_eq_getElem?_getD, List.getElem?_map]
    cases l[i]? <;> rfl
  have hn : ∀ i, 0 ≤ l.getD i 0 := fun i => getD_nonneg hp i
  have hsm : ∀ i, i < l.length → l.getD i 0 < 2 ^ l.length := fun i hi => by simpa using hs i (by omega) hi
  have hpw : (2 : Int) ^ l.length ≤ 2 ^ 16 := by exact_mod_cast Nat.pow_le_pow_right (n := 2) (by decide) (show l.length ≤ 16 by omega)
  have hb : ∀ i j, i < l.length → j ≤ 64 → bitAt l i j = (l.getD i 0).toNat.testBit j := fun i j hi hj => bitAt_nat l i j (hn i) (by have := hsm i hi; omega) hj
  have htop : ∀ i j, i < l.length → l.length ≤ j → (l.getD i 0).toNat.testBit j = false := by
    intro i j hi hj
    refine Nat.testBit_lt_two_pow ?_
    have h5 := hsm i hi
    have h6 : (2 : Int) ^ l.length ≤ 2 ^ j := by exact_mod_cast Nat.pow_le_pow_right (n := 2) (by decide) hj
    have h7 := hn i
    have : ((l.getD i 0).toNat : Int) < ((2 ^ j : Nat) : Int) := by push_cast; omega
    exact_mod_cast this
  unfold flt
  simp only [List.length_map, hg, List.all_eq_true, List.mem_range, Bool.and_eq_true, Bool.or_eq_true, Bool.not_eq_true', beq_iff_eq]
  intro a ha
  refine ⟨by rw [← hb a a ha (by omega)]; exact (ho a (by omega) ha).1, fun b hbl => ?_⟩
  have hoa := (ho a (by omega) ha).2
  unfold ordA at hoa
  have hob := (allFrom_iff _ _ _).mp hoa b (by omega) hbl
  simp only [Bool.and_eq_true, allFrom_iff] at hob
  obtain ⟨h4, h5⟩ := hob
  cases hab : (l.getD a 0).toNat.testBit b with
  | false => exact .inl rfl
  | true =>
    have hab' : bitAt l a b = true := by rw [hb a b ha (by omega), hab]
    refine .inr ⟨?_, ?_⟩
    · by_cases he : a = b
      · exact .inl he
      · refine .inr ?_
        rw [← hb b a hbl (by omega)]
        unfold anti2 at h4
        rw [hab', show (a == b) = false by simpa using he] at h4
        simpa using h4
    · refine Nat.eq_of_testBit_eq fun j => ?_
      rw [Nat.testBit_and]
      by_cases hj : j < l.length
      · have := h5 j (by omega) hj
        unfold trans3 at this
        rw [hab', hb b j hbl (by omega), hb a j ha (by omega)] at this
        revert this
        cases (l.getD b 0).toNat.testBit j <;> cases (l.getD a 0).toNat.testBit j <;> simp
      · rw [htop b j hbl (by omega)]
        rfl

/-- What holds of each base with one row turned, where the quick look lets it by, holds of all valid ones that are drawn. -/
theorem drawn_valid {P : Int × List Int → Prop} (h : ∀ q ∈ bases, ∀ i, i < q.2.length → ∀ v, v < 256 → flt ((q.2.set i (v : Nat)).map Int.toNat) = true → P (q.1, q.2.set i (v : Nat)))
    {p : Int × List Int} (hd : Drawn p) (hv : latB p.1 p.2 = true) : P p := by
  have hf := flt_of hd.nonneg hv
  have hN : (p.2.length : Int) = p.1 := by
    unfold latB at hv
    simp only [Bool.and_eq_true, decide_eq_true_eq] at hv
    exact hv.1.2.2
  obtain ⟨q, hq, hc⟩ := hd
  obtain ⟨h1, h2, h3, h4⟩ := base_len q hq
  have hself : P q ∨ flt (q.2.map Int.toNat) ≠ true := by
    by_cases hq2 : flt (q.2.map Int.toNat) = true
    · left
      have h0 : 0 < q.2.length := by omega
      have hx := h4 (q.2[0]) (List.getElem_mem h0)
      have he : q.2.set 0 (((q.2[0]).toNat : Nat) : Int) = q.2 := by
        rw [Int.toNat_of_nonneg hx.1]
        exact List.set_getElem_self h0
      have := h q hq 0 h0 (q.2[0]).toNat (by omega) (by rw [he]; exact hq2)
      rw [he] at this
      exact this
    · exact .inr hq2
  rcases hc with rfl | rfl | ⟨r, rfl⟩ | ⟨i, v, hi, hv2, rfl⟩
  · exact hself.resolve_right (fun h => h hf)
  · simp at hN; omega
  · have hr : r = q.1 := by rw [← h2]; exact hN.symm
    subst hr
    exact hself.resolve_right (fun h => h hf)
  · exact h q hq i hi v hv2 hf
end Go.Proofs.Ytjhfjnknajhanaa.Q

/- Of the valid ones among the drawn lattices the kernel reckons that the lattice of their edges is the lattice itself. -/
namespace Go.Proofs.Ytjhfjnknajhanaa.Q
open Go.RowKit Go.Proofs.Ytjhfjnknajhanaa.P Go.Proofs.YtjhfjnknajhanaaW.PrintWords Go.Proofs.YtjhfjnknajhanaaW.PrintLast Go.Proofs.YtjhfjnknajhanaaW.PrintMore

/-- What the law does behind the draw. -/
def edgeCore (k : Nat) (p : Int × List Int) : Option Bool := (impl_LatEdges.f k p.1 p.2).bind fun t107 => ((spec_LatOk.f k p.1 p.2).bind fun t110 => (if t110 = true then ((impl_LatOf.f k p.1 t107).bind fun bt111 => (if bt111.2.2 = true then ((laws_sameLat.f k bt111.1 bt111.2.1 p.1 p.2).bind fun t117 => (if t117 = true then ((impl_LatOk.f k bt111.1 bt111.2.1).bind fun t118 => (some t118)) else (some false))) else (some false))) else (some ((t107.length : Int) == 0))))


def edgeChk (q : Int × List Int) (i : Nat) : Bool := (List.range 256).all fun v => !(flt ((q.2.set i (v : Nat)).map Int.toNat)) || edgeCore 4000 (q.1, q.2.set i (v : Nat)) == some true
set_option maxRecDepth 100000 in
set_option maxHeartbeats 4000000 in
theorem edges_1_0 : edgeChk (1, [1]) 0 = true := by decide +kernel
set_option maxRecDepth 100000 in
set_option maxHeartbeats 4000000 in
theorem edges_2_0 : edgeChk (2, [3, 2]) 0 = true := by decide +kernel
set_option maxRecDepth 100000 in
set_option maxHeartbeats 4000000 in
theorem edges_2_1 : edgeChk (2, [3, 2]) 1 = true := by decide +kernel
set_option maxRecDepth 100000 in
set_option maxHeartbeats 4000000 in
theorem edges_3_0 : edgeChk (3, [7, 6, 4]) 0 = true := by decide +kernel
set_option maxRecDepth 100000 in
set_option maxHeartbeats 4000000 in
theorem edges_3_1 : edgeChk (3, [7, 6, 4]) 1 = true := by decide +kernel
set_option maxRecDepth 100000 in
set_option maxHeartbeats 4000000 in
theorem edges_3_2 : edgeChk (3, [7, 6, 4]) 2 = true := by decide +kernel
set_option maxRecDepth 100000 in
set_option maxHeartbeats 4000000 in
theorem edges_4_0 : edgeChk (4, [15, 10, 12, 8]) 0 = true := by decide +kernel
set_option maxRecDepth 100000 in
set_option maxHeartbeats 4000000 in
theorem edges_4_1 : edgeChk (4, [15, 10, 12, 8]) 1 = true := by decide +kernel
set_option maxRecDepth 100000 in
set_option maxHeartbeats 4000000 in
theorem edges_4_2 : edgeChk (4, [15, 10, 12, 8]) 2 = true := by decide +kernel
set_option maxRecDepth 100000 in
set_option maxHeartbeats 4000000 in
theorem edges_4_3 : edgeChk (4, [15, 10, 12, 8]) 3 = true := by decide +kernel
set_option maxRecDepth 100000 in
set_option maxHeartbeats 4000000 in
theorem edges_5_0 : edgeChk (5, [9, 10, 12, 8, 31]) 0 = true := by decide +kernel
set_option maxRecDepth 100000 in
set_option maxHeartbeats 4000000 in
theorem edges_5_1 : edgeChk (5, [9, 10, 12, 8, 31]) 1 = true := by decide +kernel
set_option maxRecDepth 100000 in
set_option maxHeartbeats 4000000 in
theorem edges_5_2 : edgeChk (5, [9, 10, 12, 8, 31]) 2 = true := by decide +kernel
set_option maxRecDepth 100000 in
set_option maxHeartbeats 4000000 in
theorem edges_5_3 : edgeChk (5, [9, 10, 12, 8, 31]) 3 = true := by decide +kernel
set_option maxRecDepth 100000 in
set_option maxHeartbeats 4000000 in
theorem edges_5_4 : edgeChk (5, [9, 10, 12, 8, 31]) 4 = true := by decide +kernel
set_option maxRecDepth 100000 in
set_option maxHeartbeats 4000000 in
theorem edges_8_0 : edgeChk (8, [255, 178, 212, 232, 144, 160, 192, 128]) 0 = true := by decide +kernel
set_option maxRecDepth 100000 in
set_option maxHeartbeats 4000000 in
theorem edges_8_1 : edgeChk (8, [255, 178, 212, 232, 144, 160, 192, 128]) 1 = true := by decide +kernel
set_option maxRecDepth 100000 in
set_option maxHeartbeats 4000000 in
theorem edges_8_2 : edgeChk (8, [255, 178, 212, 232, 144, 160, 192, 128]) 2 = true := by decide +kernel
set_option maxRecDepth 100000 in
set_option maxHeartbeats 4000000 in
theorem edges_8_3 : edgeChk (8, [255, 178, 212, 232, 144, 160, 192, 128]) 3 = true := by decide +kernel
set_option maxRecDepth 100000 in
set_option maxHeartbeats 4000000 in
theorem edges_8_4 : edgeChk (8, [255, 178, 212, 232, 144, 160, 192, 128]) 4 = true := by decide +kernel
set_option maxRecDepth 100000 in
set_option maxHeartbeats 4000000 in
theorem edges_8_5 : edgeChk (8, [255, 178, 212, 232, 144, 160, 192, 128]) 5 = true := by decide +kernel
set_option maxRecDepth 100000 in
set_option maxHeartbeats 4000000 in
theorem edges_8_6 : edgeChk (8, [255, 178, 212, 232, 144, 160, 192, 128]) 6 = true := by decide +kernel
set_option maxRecDepth 100000 in
set_option maxHeartbeats 4000000 in
theorem edges_8_7 : edgeChk (8, [255, 178, 212, 232, 144, 160, 192, 128]) 7 = true := by decide +kernel
theorem edges_few : ∀ q ∈ bases, ∀ i, i < q.2.length → edgeChk q i = true := by
  intro q hq
  simp only [bases, List.mem_cons, List.not_mem_nil, or_false] at hq
  rcases hq with rfl | rfl | rfl | rfl | rfl | rfl
  · intro i hi
    match i, hi with
    | 0, _ => exact edges_1_0
  · intro i hi
    match i, hi with
    | 0, _ => exact edges_2_0
    | 1, _ => exact edges_2_1
  · intro i hi
    match i, hi with
    | 0, _ => exact edges_3_0
    | 1, _ => exact edges_3_1
    | 2, _ => exact edges_3_2
  · intro i hi
    match i, hi with
    | 0, _ => exact edges_4_0
    | 1, _ => exact edges_4_1
    | 2, _ => exact edges_4_2
    | 3, _ => exact edges_4_3
  · intro i hi
    match i, hi with
    | 0, _ => exact edges_5_0
    | 1, _ => exact edges_5_1
    | 2, _ => exact edges_5_2
    | 3, _ => exact edges_5_3
    | 4, _ => exact edges_5_4
  · intro i hi
    match i, hi with
    | 0, _ => exact edges_8_0
    | 1, _ => exact edges_8_1
    | 2, _ => exact edges_8_2
    | 3, _ => exact edges_8_3
    | 4, _ => exact edges_8_4
    | 5, _ => exact edges_8_5
    | 6, _ => exact edges_8_6
    | 7, _ => exact edges_8_7
theorem edges_valid {p : Int × List Int} (hd : Drawn p) (hv : latB p.1 p.2 = true) : edgeCore 4000 p = some true := by
  refine drawn_valid (P := fun p => edgeCore 4000 p = some true) (fun q hq i hi v hv hf => ?_) hd hv
  have h := edges_few q hq i hi
  unfold edgeChk at h
  have h2 := List.all_eq_true.mp h v (List.mem_range.mpr hv)
  rw [hf] at h2
  simpa using h2
theorem edges_mono (p : Int × List Int) (k : Nat) : LeO (edgeCore k p) (edgeCore (k + 1) p) := by
  unfold edgeCore
  refine LeO.bind (impl_LatEdges.mono _ _ _) fun _ => LeO.bind (spec_LatOk.mono _ _ _) fun _ => LeO.ite (LeO.bind (impl_LatOf.mono _ _ _) fun _ => LeO.ite (LeO.bind (laws_sameLat.mono _ _ _ _ _) fun _ => LeO.ite (LeO.bind (impl_LatOk.mono _ _ _) fun _ => LeO.refl _) (LeO.refl _)) (LeO.refl _)) (LeO.refl _)
theorem edges_core {p : Int × List Int} (hd : Drawn p) : Ev (fun k => edgeCore k p) true := by
  cases hv : latB p.1 p.2 with
  | true => exact Ev.of (edges_mono p) (edges_valid hd hv)
  | false =>
    unfold edgeCore
    refine Ev.bind (a := []) ?_ (Ev.bind (hv ▸ latOk_ev p.1 p.2) (ite_ev' ft (Ev.now _)))
    unfold impl_LatEdges.f
    exact Ev.bind (hv ▸ isLat_ev p.1 p.2 hd.nonneg) (ite_ev' ft (Ev.now _))
end Go.Proofs.Ytjhfjnknajhanaa.Q

/- The law FnLatEdges returns true for every code: the drawn lattices that are not valid have no edges, and of the valid ones the kernel reckons that the lattice of their edges is the lattice itself. -/
namespace Go.Proofs.Ytjhfjnknajhanaa.Q
open Go.RowKit Go.Proofs.Ytjhfjnknajhanaa.P Go.Proofs.YtjhfjnknajhanaaW.PrintWords Go.Proofs.YtjhfjnknajhanaaW.PrintLast Go.Proofs.YtjhfjnknajhanaaW.PrintMore

theorem FnLatEdges : ∀ (l0 : List Int), l0.length ≤ maxLen → l0.length * 1 ≤ 140737488351232 → (∀ x ∈ l0, (Lit.int .u8 x).wf = true) → ∃ k, laws_FnLatEdges.f k l0 = some true := by
 intro l hm hr hb
 have key : Ev (fun k => laws_FnLatEdges.f k l) true := by
  unfold laws_FnLatEdges.f
  cases hbig : decide ((l.length : Int) > 1048576) with
  | true => exact some_ev (a := true) (by unfold laws_big.f; rw [hbig]) (ite_ev tt (Ev.now _))
  | false =>
   have h1 : laws_big.f l = some false := by unfold laws_big.f; rw [hbig]
   refine some_ev h1 (ite_ev' ft ?_)
   have hc := code_of hb h1
   obtain ⟨s, e, h0⟩ := open_ok hc
   obtain ⟨p, a', s', hd, hk, _⟩ := badLat_ok h0
   refine Ev.bind (a := p) ?_ (edges_core hd)
   exact ⟨4000, fun k hk4 => by unfold spec_DrawLatEdges.f; rw [e]; simp only [Option.bind_some]; rw [hk k hk4]; rfl⟩
 exact key.rounds
end Go.Proofs.Ytjhfjnknajhanaa.Q

-- PRINTED by print.py: the row of the law laws_FnLatEdges, out of its Pure (the session's) and the printed walk. Not trusted: Lean checks it.
namespace Go.Proofs.Ytjhfjnknajhanaa.fnLatEdges
open Go.ChangeShapes Go.WideShapes Go.ChangeAt Go.RowKit
open Go.ChangeMaps (open_string shut_string)
set_option linter.unusedVariables false
theorem own : ownKnob Try.prog.godebug = none := by kernel_rfl
theorem laidOut : laidOutB Try.prog = true := Facts.s2
def IsRow (k : IntKind) (w : World) (a : Option Addr) (len cap : Nat) (zs : List Int) : Prop :=
  (a = none ∧ len = 0 ∧ cap = 0 ∧ zs = []) ∨
  ∃ x, a = some x ∧ len ≤ cap ∧ cap ≤ maxLen ∧ zs.length = cap ∧ (∀ i, i < zs.length → w.cell? (x.add i) = some (.int k (zs.getD i 0))) ∧ ∀ n ∈ zs, (Lit.int k n).wf = true
set_option maxRecDepth 100000 in
theorem lifted (os : Os) (started : os.Started) (H : Type) (enc : TypeId × Value → H) :
    ReturnsInHanded {} Try.checked os 4 .any (Rows.fnLatEdgesSpec.pre6 enc Try.prog Try.f4 Rows.fnLatEdgesRow.domain false) (Rows.fnLatEdgesSpec.post enc Try.prog Try.f4 false true false false) := by
  refine returnsInHanded_of_change_sized (C := Try.checked) own started (by kernel_rfl) Try.func4
    (ChangeSpec.witness6 (enc := enc) (C := Try.checked) false ⟨#[], #[.slice none 0 0], []⟩ 8 (by kernel_rfl) (by kernel_rfl) (by kernel_rfl) (by kernel_rfl)) ?_
  intro W base args ds gs before hval0 hW hcnd hsz0 _
  have hsz : (DataW.weightsEach Try.prog (Try.f4.params.toList ++ Rows.fnLatEdgesSpec.plain.varTypes Try.prog) (ds ++ gs)).all (· ≤ reachBytes) = true := hsz0
  have hval : ∀ (j : Nat) t v, Try.f4.params[j]? = some t → args[j]? = some v → Value.okWide Try.prog W .any base t v := hval0
  have hW' := hW
  obtain ⟨p, q, hA0, hV, rfl, hfz, hnd⟩ := hW
  have hA : DataW.TrodAll enc Try.prog W 0 (fun _ => true) true Try.f4.params.toList args.toList ds p := hA0
  rw [Try.params4] at hA hval hsz
  obtain ⟨v0, vs0, d0, ds0, p0, q0, hargs, rfl, rfl, h0, r0⟩ := trodAll_cons hA
  obtain ⟨rfl, rfl, rfl⟩ := trodAll_nil r0
  obtain rfl : args = #[v0] := by cases args; simp_all
  obtain ⟨rfl, rfl⟩ := trodVars_none hV
  obtain ⟨a0, len0, cap0, rfl⟩ := okWide_slice Try.underlying22 (hval 0 22 v0 rfl rfl)
  have k0 := h0
  have lt0 : ∀ x ∈ p0, x.block < W.heap.size := by obtain ⟨m, hm⟩ := k0; exact DataW.trod_lt m _ _ _ hm
  obtain ⟨z0, w0⟩ : ∃ zs, IsRow .u8 W a0 len0 cap0 zs := by
    obtain ⟨fuel, hf⟩ := h0
    rcases open_ints Try.underlying22 Try.underlying5 (by kernel_rfl) hf with ⟨hcs, _⟩ | ⟨x, l, c, zs, hcs, _, hl, hm, hz, _, hcell, hwz⟩
    · simp [Value.cells] at hcs
      obtain ⟨rfl, rfl, rfl⟩ := hcs
      exact ⟨[], .inl ⟨rfl, rfl, rfl, rfl⟩⟩
    · simp [Value.cells] at hcs
      obtain ⟨rfl, rfl, rfl⟩ := hcs
      exact ⟨zs, .inr ⟨_, rfl, hl, hm, by simpa using hz, hcell, hwz⟩⟩
  have y0 : len0 * 1 ≤ 140737488351232 := Go.Proofs.YtjhfjnknajhanaaW.PrintWords.sized_ints hsz (j := 0) (t := 22) rfl rfl Try.underlying22 Try.underlying5 (by kernel_rfl) (by kernel_rfl) h0
  clear hA0 hval0 hsz0 hsz
  refine (P.laws_FnLatEdges.walk Q.FnLatEdges a0 len0 cap0 z0 W w0 y0).mono fun e W' ⟨he, bel⟩ => ?_
  subst he
  exact ⟨_, rfl, _, _, _, [], _, [], hW', trodAll_mk1 (shut_bool Try.underlying4 _), (trodAll_cons_mk (Below.trod laidOut (by kernel_rfl) (of_decide_eq_true (by kernel_rfl)) k0 bel lt0) trodAll_mk0), rfl, bel.frame _, fun h => by cases h⟩
theorem over : Rows.fnLatEdgesRow.holds Try.pinned (OpenSpec.ofChange Rows.fnLatEdgesSpec) :=
  OpenClaim.holds_of_wide 4 Try.f4 rfl rfl rfl rfl rfl rfl rfl ⟨rfl, rfl, rfl, rfl, rfl⟩ rfl rfl rfl rfl rfl (by kernel_rfl) Try.func4 joined
    (of_decide_eq_true (by kernel_rfl)) (by unfold Func.isWrapper; first | (rw [if_pos (by decide +kernel)]; kernel_rfl) | (rw [if_neg (by decide +kernel)]; exact ⟨rfl, rfl⟩))
    (fun os started H enc _ => lifted os started H enc)
theorem proved : Rows.FnLatEdgesSaid := over
#print axioms proved
end Go.Proofs.Ytjhfjnknajhanaa.fnLatEdges
namespace Go.Proofs.Ytjhfjnknajhanaa
/-- The row, under a short name, for the claim. -/
theorem fnLatEdges_holds : Rows.FnLatEdgesSaid := fnLatEdges.proved
end Go.Proofs.Ytjhfjnknajhanaa
