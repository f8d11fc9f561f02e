/- Part 5 of 10 of the proof of FnTake: functions on lists and numbers, contracts of Go functions, plain lemmas. -/
import Derived.Below
import Derived.Deep.Draws
import Derived.Deep.AppendLies
import Derived.Maps.AppendAt
import Derived.OwnWalk
import Derived.Laws.BytesArg
import Derived.Laws.MakeOwn
import Derived.Laws.OwnMore
import Derived.Deep.OwnRows
import Derived.Tactics
import Derived.Lib.ConvBytes
import Derived.Laws.Slices
import Derived.WalkKit
import Derived.KernelRfl
import Derived.RowKit3
import Derived.Deep.LoopGhost
import Derived.Deep.QuietTactic
import Derived.BigQuiet
import Derived.WideLaws
import Derived.Deep.DeepCutAuto
import Derived.Deep.CutBlock
import Derived.Deep.RegionHeld3
import Derived.Laws.Rows
import Derived.Lib.AppendStr
import Derived.ArgAppend
import Derived.Laws.IdiomCopy
import Derived.OrdersHeld
import Derived.Laws.BitsLemmas
import Derived.RowKit
import Derived.Test.YtjhfjnknajhanaaProg
import Derived.Test.YtjhfjnknajhanaaCTake1
namespace Go.Proofs.Ytjhfjnknajhanaa.P
open Go.RowKit Go.Proofs.YtjhfjnknajhanaaW.PrintWords Go.Proofs.YtjhfjnknajhanaaW.PrintLast Go.Proofs.YtjhfjnknajhanaaW.PrintMore
attribute [local go_sem] max2_int min2_int max_two min_two max_three min_three max_four min_four
set_option linter.unusedVariables false
set_option linter.unusedSimpArgs false
def errW : Option Int → Value
  | none => .nilIface
  | some c => .iface 0 (.int .i64 c)
theorem errW_none : errW none = .nilIface := rfl
theorem errW_some (c : Int) : errW (some c) = .iface 0 (.int .i64 c) := rfl

theorem info3 : (Try.prog.info? 3).map (fun i => (i.zero, i.size, i.bytes)) = some (some (.int .i64 0), 1, 8) := by kernel_rfl
theorem info231 : (Try.prog.info? 231).map (fun i => (i.zero, i.size, i.bytes)) = some (some (.agg #[(.int .i64 0), (.int .i64 0)]), 2, 16) := by kernel_rfl
def rd_L1 (xs : List (List Int)) (i : Int) : (List Int) := xs.getD i.toNat ([] : List Int)
def rd_L4 (xs : List (List Int)) (i : Int) : (List Int) := xs.getD i.toNat ([] : List Int)
structure S34 where
  f0 : Int
  f1 : Int
  f2 : Int
  f3 : Int
  f4 : Int
  f5 : Int
  f6 : (List Int)
  f7 : Bool
def z34 : S34 := ⟨(0 : Int), (0 : Int), (0 : Int), (0 : Int), (0 : Int), (0 : Int), ([] : List Int), false⟩
def k34 : Kd S34 := Kd.iso (Kd.pair (Kd.int .i64) (Kd.pair (Kd.int .i64) (Kd.pair (Kd.int .i64) (Kd.pair (Kd.int .i64) (Kd.pair (Kd.int .i64) (Kd.pair (Kd.int .i64) (Kd.pair (Kd.slice 3 (Kd.int .i64)) Kd.bool))))))) (fun x : S34 => (x.f0, x.f1, x.f2, x.f3, x.f4, x.f5, x.f6, x.f7))
def rd_T34 (xs : List S34) (i : Int) : S34 := xs.getD i.toNat z34
structure S36 where
  f0 : Int
  f1 : Int
  f2 : S34
def z36 : S36 := ⟨(0 : Int), (0 : Int), z34⟩
def k36 : Kd S36 := Kd.iso (Kd.pair (Kd.int .i64) (Kd.pair (Kd.int .i64) k34)) (fun x : S36 => (x.f0, x.f1, x.f2))
def rd_T36 (xs : List S36) (i : Int) : S36 := xs.getD i.toNat z36
def rd_L7 (xs : List (List S36)) (i : Int) : (List S36) := xs.getD i.toNat ([] : List S36)
structure S40 where
  f0 : Int
  f1 : Int
  f2 : Int
def z40 : S40 := ⟨(0 : Int), (0 : Int), (0 : Int)⟩
def k40 : Kd S40 := Kd.iso (Kd.pair (Kd.int .i64) (Kd.pair (Kd.int .i64) (Kd.int .i64))) (fun x : S40 => (x.f0, x.f1, x.f2))
def rd_T40 (xs : List S40) (i : Int) : S40 := xs.getD i.toNat z40
def rd_L9 (xs : List (List S40)) (i : Int) : (List S40) := xs.getD i.toNat ([] : List S40)
structure S27 where
  f0 : Int
  f1 : Int
  f2 : Int
  f3 : Int
  f4 : (List S36)
  f5 : (List S40)
def z27 : S27 := ⟨(0 : Int), (0 : Int), (0 : Int), (0 : Int), ([] : List S36), ([] : List S40)⟩
def k27 : Kd S27 := Kd.iso (Kd.pair (Kd.int .i64) (Kd.pair (Kd.int .i64) (Kd.pair (Kd.int .i64) (Kd.pair (Kd.int .i64) (Kd.pair (Kd.slice 36 k36) (Kd.slice 40 k40)))))) (fun x : S27 => (x.f0, x.f1, x.f2, x.f3, x.f4, x.f5))
def rd_T27 (xs : List S27) (i : Int) : S27 := xs.getD i.toNat z27
structure S211 where
  f0 : Int
  f1 : Int
def z211 : S211 := ⟨(0 : Int), (0 : Int)⟩
def k211 : Kd S211 := Kd.iso (Kd.pair (Kd.int .i64) (Kd.int .i64)) (fun x : S211 => (x.f0, x.f1))
def rd_T211 (xs : List S211) (i : Int) : S211 := xs.getD i.toNat z211
def rd_L12 (xs : List (List S34)) (i : Int) : (List S34) := xs.getD i.toNat ([] : List S34)
structure S213 where
  f0 : (List Int)
  f1 : Int
  f2 : Int
def z213 : S213 := ⟨([] : List Int), (0 : Int), (0 : Int)⟩
def k213 : Kd S213 := Kd.iso (Kd.pair (Kd.slice 5 (Kd.int .u8)) (Kd.pair (Kd.int .i64) (Kd.int .i64))) (fun x : S213 => (x.f0, x.f1, x.f2))
def rd_T213 (xs : List S213) (i : Int) : S213 := xs.getD i.toNat z213
def rd_L15 (xs : List (List Int)) (i : Int) : (List Int) := xs.getD i.toNat ([] : List Int)
structure S47 where
  f0 : Int
  f1 : (List Int)
def z47 : S47 := ⟨(0 : Int), ([] : List Int)⟩
def k47 : Kd S47 := Kd.iso (Kd.pair (Kd.int .i64) (Kd.slice 153 (Kd.int .u64))) (fun x : S47 => (x.f0, x.f1))
def rd_T47 (xs : List S47) (i : Int) : S47 := xs.getD i.toNat z47
structure S151 where
  f0 : Int
  f1 : Int
def z151 : S151 := ⟨(0 : Int), (0 : Int)⟩
def k151 : Kd S151 := Kd.iso (Kd.pair (Kd.int .i64) (Kd.int .i64)) (fun x : S151 => (x.f0, x.f1))
def rd_T151 (xs : List S151) (i : Int) : S151 := xs.getD i.toNat z151
def rd_L18 (xs : List (List S151)) (i : Int) : (List S151) := xs.getD i.toNat ([] : List S151)
structure S75 where
  f0 : Int
  f1 : Int
  f2 : Int
  f3 : Int
def z75 : S75 := ⟨(0 : Int), (0 : Int), (0 : Int), (0 : Int)⟩
def k75 : Kd S75 := Kd.iso (Kd.pair (Kd.int .i64) (Kd.pair (Kd.int .i64) (Kd.pair (Kd.int .i64) (Kd.int .i64)))) (fun x : S75 => (x.f0, x.f1, x.f2, x.f3))
def rd_T75 (xs : List S75) (i : Int) : S75 := xs.getD i.toNat z75
structure S77 where
  f0 : Int
  f1 : Int
  f2 : Int
  f3 : Int
def z77 : S77 := ⟨(0 : Int), (0 : Int), (0 : Int), (0 : Int)⟩
def k77 : Kd S77 := Kd.iso (Kd.pair (Kd.int .i64) (Kd.pair (Kd.int .i64) (Kd.pair (Kd.int .i64) (Kd.int .i64)))) (fun x : S77 => (x.f0, x.f1, x.f2, x.f3))
def rd_T77 (xs : List S77) (i : Int) : S77 := xs.getD i.toNat z77
structure S79 where
  f0 : Int
  f1 : S75
  f2 : S77
  f3 : Int
  f4 : Int
def z79 : S79 := ⟨(0 : Int), z75, z77, (0 : Int), (0 : Int)⟩
def k79 : Kd S79 := Kd.iso (Kd.pair (Kd.int .i64) (Kd.pair k75 (Kd.pair k77 (Kd.pair (Kd.int .i64) (Kd.int .i64))))) (fun x : S79 => (x.f0, x.f1, x.f2, x.f3, x.f4))
def rd_T79 (xs : List S79) (i : Int) : S79 := xs.getD i.toNat z79
def rd_L22 (xs : List (List S79)) (i : Int) : (List S79) := xs.getD i.toNat ([] : List S79)
def rd_L23 (xs : List (List (List Int))) (i : Int) : (List (List Int)) := xs.getD i.toNat ([] : List (List Int))
structure S169 where
  f0 : Int
  f1 : Int
  f2 : Int
  f3 : Int
def z169 : S169 := ⟨(0 : Int), (0 : Int), (0 : Int), (0 : Int)⟩
def k169 : Kd S169 := Kd.iso (Kd.pair (Kd.int .i64) (Kd.pair (Kd.int .i64) (Kd.pair (Kd.int .i64) (Kd.int .i64)))) (fun x : S169 => (x.f0, x.f1, x.f2, x.f3))
def rd_T169 (xs : List S169) (i : Int) : S169 := xs.getD i.toNat z169
structure S170 where
  f0 : Int
  f1 : Int
  f2 : Int
  f3 : Int
def z170 : S170 := ⟨(0 : Int), (0 : Int), (0 : Int), (0 : Int)⟩
def k170 : Kd S170 := Kd.iso (Kd.pair (Kd.int .i64) (Kd.pair (Kd.int .i64) (Kd.pair (Kd.int .i64) (Kd.int .i64)))) (fun x : S170 => (x.f0, x.f1, x.f2, x.f3))
def rd_T170 (xs : List S170) (i : Int) : S170 := xs.getD i.toNat z170
structure S172 where
  f0 : Int
  f1 : S169
  f2 : S170
  f3 : Int
  f4 : Int
def z172 : S172 := ⟨(0 : Int), z169, z170, (0 : Int), (0 : Int)⟩
def k172 : Kd S172 := Kd.iso (Kd.pair (Kd.int .i64) (Kd.pair k169 (Kd.pair k170 (Kd.pair (Kd.int .i64) (Kd.int .i64))))) (fun x : S172 => (x.f0, x.f1, x.f2, x.f3, x.f4))
def rd_T172 (xs : List S172) (i : Int) : S172 := xs.getD i.toNat z172
def rd_L27 (xs : List (List S172)) (i : Int) : (List S172) := xs.getD i.toNat ([] : List S172)
def rd_L28 (xs : List (List S77)) (i : Int) : (List S77) := xs.getD i.toNat ([] : List S77)
structure S231 where
  f0 : Int
  f1 : Int
def z231 : S231 := ⟨(0 : Int), (0 : Int)⟩
def k231 : Kd S231 := Kd.iso (Kd.pair (Kd.int .i64) (Kd.int .i64)) (fun x : S231 => (x.f0, x.f1))
theorem k231_open {w : World} {x : S231} {cs : List Value} (h : k231.K w x cs) : cs = [.int .i64 x.f0, .int .i64 x.f1] := by
  obtain ⟨_, _, rfl, rfl, rfl⟩ := h
  exact rfl
theorem k231_openM {w : World} {base : Nat} {ok : Nat → Prop} {x : S231} {cs : List Value} (h : k231.M w base ok x cs) : cs = [.int .i64 x.f0, .int .i64 x.f1] := by
  obtain ⟨_, _, rfl, rfl, rfl⟩ := h
  exact rfl
theorem k231_mkM (w : World) (base : Nat) (ok : Nat → Prop) (x : S231)  : k231.M w base ok x [.int .i64 x.f0, .int .i64 x.f1] := ⟨[.int .i64 x.f0], [.int .i64 x.f1], rfl, rfl, rfl⟩
def rd_T231 (xs : List S231) (i : Int) : S231 := xs.getD i.toNat z231
theorem at_T231 {w : World} {A : Option Addr} {n : Nat} {xs : List S231} (h : Kd.C k231 w A n xs) (i : Int) (h0 : 0 ≤ i) (h1 : i < n) : ∃ ad , A = some ad ∧ w.cell? (ad.add (i.toNat * 2)) = some (.int .i64 (rd_T231 xs i).f0) ∧ w.cell? ⟨(ad.add (i.toNat * 2)).block, (ad.add (i.toNat * 2)).off + 1, none⟩ = some (.int .i64 (rd_T231 xs i).f1) := by
  obtain ⟨ad, c, e, _, hK, hc0⟩ := Kd.C_get h z231 i h0 h1
  have hc : ∀ j u, c[j]? = some u → w.cell? (ad.add (i.toNat * 2 + j)) = some u := hc0
  obtain rfl := k231_open hK
  exact ⟨ad, e, hc 0 _ rfl, by rw [← add_field _ _ 1 (by omega)]; exact hc 1 _ rfl⟩

def rd_L30 (xs : List (List S231)) (i : Int) : (List S231) := xs.getD i.toNat ([] : List S231)
structure S100 where
  f0 : Int
  f1 : Int
  f2 : Int
def z100 : S100 := ⟨(0 : Int), (0 : Int), (0 : Int)⟩
def k100 : Kd S100 := Kd.iso (Kd.pair (Kd.int .i64) (Kd.pair (Kd.int .i64) (Kd.int .i64))) (fun x : S100 => (x.f0, x.f1, x.f2))
def rd_T100 (xs : List S100) (i : Int) : S100 := xs.getD i.toNat z100
structure S102 where
  f0 : (List S231)
  f1 : (List S231)
  f2 : S100
  f3 : Int
  f4 : Int
def z102 : S102 := ⟨([] : List S231), ([] : List S231), z100, (0 : Int), (0 : Int)⟩
def k102 : Kd S102 := Kd.iso (Kd.pair (Kd.slice 231 k231) (Kd.pair (Kd.slice 231 k231) (Kd.pair k100 (Kd.pair (Kd.int .i64) (Kd.int .i64))))) (fun x : S102 => (x.f0, x.f1, x.f2, x.f3, x.f4))
def rd_T102 (xs : List S102) (i : Int) : S102 := xs.getD i.toNat z102
def rd_L33 (xs : List (List S102)) (i : Int) : (List S102) := xs.getD i.toNat ([] : List S102)
structure S222 where
  f0 : Int
  f1 : Int
  f2 : Int
def z222 : S222 := ⟨(0 : Int), (0 : Int), (0 : Int)⟩
def k222 : Kd S222 := Kd.iso (Kd.pair (Kd.int .i64) (Kd.pair (Kd.int .i64) (Kd.int .i64))) (fun x : S222 => (x.f0, x.f1, x.f2))
def rd_T222 (xs : List S222) (i : Int) : S222 := xs.getD i.toNat z222
def rd_L35 (xs : List (List S222)) (i : Int) : (List S222) := xs.getD i.toNat ([] : List S222)
structure S224 where
  f0 : Int
  f1 : Int
  f2 : Int
  f3 : Int
  f4 : Int
def z224 : S224 := ⟨(0 : Int), (0 : Int), (0 : Int), (0 : Int), (0 : Int)⟩
def k224 : Kd S224 := Kd.iso (Kd.pair (Kd.int .i64) (Kd.pair (Kd.int .i64) (Kd.pair (Kd.int .i64) (Kd.pair (Kd.int .i64) (Kd.int .i64))))) (fun x : S224 => (x.f0, x.f1, x.f2, x.f3, x.f4))
def rd_T224 (xs : List S224) (i : Int) : S224 := xs.getD i.toNat z224
def rd_L37 (xs : List (List S224)) (i : Int) : (List S224) := xs.getD i.toNat ([] : List S224)
structure S181 where
  f0 : S47
  f1 : Int
  f2 : Int
  f3 : (List S102)
  f4 : (List S222)
  f5 : (List S224)
def z181 : S181 := ⟨z47, (0 : Int), (0 : Int), ([] : List S102), ([] : List S222), ([] : List S224)⟩
def k181 : Kd S181 := Kd.iso (Kd.pair k47 (Kd.pair (Kd.int .i64) (Kd.pair (Kd.int .i64) (Kd.pair (Kd.slice 102 k102) (Kd.pair (Kd.slice 222 k222) (Kd.slice 224 k224)))))) (fun x : S181 => (x.f0, x.f1, x.f2, x.f3, x.f4, x.f5))
def rd_T181 (xs : List S181) (i : Int) : S181 := xs.getD i.toNat z181
structure S234 where
  f0 : Int
  f1 : Int
def z234 : S234 := ⟨(0 : Int), (0 : Int)⟩
def k234 : Kd S234 := Kd.iso (Kd.pair (Kd.int .i64) (Kd.int .u64)) (fun x : S234 => (x.f0, x.f1))
def rd_T234 (xs : List S234) (i : Int) : S234 := xs.getD i.toNat z234
structure S110 where
  f0 : (List Int)
  f1 : (List Int)
def z110 : S110 := ⟨([] : List Int), ([] : List Int)⟩
def k110 : Kd S110 := Kd.iso (Kd.pair (Kd.slice 5 (Kd.int .u8)) (Kd.slice 5 (Kd.int .u8))) (fun x : S110 => (x.f0, x.f1))
def rd_T110 (xs : List S110) (i : Int) : S110 := xs.getD i.toNat z110
structure S119 where
  f0 : (List Int)
  f1 : (List Int)
def z119 : S119 := ⟨([] : List Int), ([] : List Int)⟩
def k119 : Kd S119 := Kd.iso (Kd.pair (Kd.slice 5 (Kd.int .u8)) (Kd.slice 5 (Kd.int .u8))) (fun x : S119 => (x.f0, x.f1))
def rd_T119 (xs : List S119) (i : Int) : S119 := xs.getD i.toNat z119
structure S249 where
  f0 : Int
  f1 : S234
  f2 : Int
  f3 : Int
  f4 : (List Int)
def z249 : S249 := ⟨(0 : Int), z234, (0 : Int), (0 : Int), ([] : List Int)⟩
def k249 : Kd S249 := Kd.iso (Kd.pair (Kd.int .i64) (Kd.pair k234 (Kd.pair (Kd.int .i64) (Kd.pair (Kd.int .i64) (Kd.slice 3 (Kd.int .i64)))))) (fun x : S249 => (x.f0, x.f1, x.f2, x.f3, x.f4))
def rd_T249 (xs : List S249) (i : Int) : S249 := xs.getD i.toNat z249
def rd_L43 (xs : List (List Bool)) (i : Int) : (List Bool) := xs.getD i.toNat ([] : List Bool)
end Go.Proofs.Ytjhfjnknajhanaa.P
-- Short names for what the walks lay again and again.
namespace Go.Proofs.Ytjhfjnknajhanaa.P
open Go.RowKit Go.Proofs.YtjhfjnknajhanaaW.PrintWords Go.Proofs.YtjhfjnknajhanaaW.PrintLast Go.Proofs.YtjhfjnknajhanaaW.PrintMore

theorem qB {α β : Type} {a : Option α} {f : α → Option β} {r : β} (h : a.bind f = some r) : ∃ x, Aside0 (a = some x) ∧ f x = some r := by
 obtain ⟨x, h1, h2⟩ := Option.bind_eq_some_iff.mp h
 exact ⟨x, ⟨h1⟩, h2⟩
theorem qA2 {P0 P1 : Prop} (h0 : P0) (h1 : P1) : Aside0 P0 ∧ Aside0 P1 := ⟨⟨h0⟩, ⟨h1⟩⟩
theorem qA3 {P0 P1 P2 : Prop} (h0 : P0) (h1 : P1) (h2 : P2) : Aside0 P0 ∧ Aside0 P1 ∧ Aside0 P2 := ⟨⟨h0⟩, ⟨h1⟩, ⟨h2⟩⟩
theorem qA4 {P0 P1 P2 P3 : Prop} (h0 : P0) (h1 : P1) (h2 : P2) (h3 : P3) : Aside0 P0 ∧ Aside0 P1 ∧ Aside0 P2 ∧ Aside0 P3 := ⟨⟨h0⟩, ⟨h1⟩, ⟨h2⟩, ⟨h3⟩⟩
theorem qA5 {P0 P1 P2 P3 P4 : Prop} (h0 : P0) (h1 : P1) (h2 : P2) (h3 : P3) (h4 : P4) : Aside0 P0 ∧ Aside0 P1 ∧ Aside0 P2 ∧ Aside0 P3 ∧ Aside0 P4 := ⟨⟨h0⟩, ⟨h1⟩, ⟨h2⟩, ⟨h3⟩, ⟨h4⟩⟩
theorem qA6 {P0 P1 P2 P3 P4 P5 : Prop} (h0 : P0) (h1 : P1) (h2 : P2) (h3 : P3) (h4 : P4) (h5 : P5) : Aside0 P0 ∧ Aside0 P1 ∧ Aside0 P2 ∧ Aside0 P3 ∧ Aside0 P4 ∧ Aside0 P5 := ⟨⟨h0⟩, ⟨h1⟩, ⟨h2⟩, ⟨h3⟩, ⟨h4⟩, ⟨h5⟩⟩
theorem qA7 {P0 P1 P2 P3 P4 P5 P6 : Prop} (h0 : P0) (h1 : P1) (h2 : P2) (h3 : P3) (h4 : P4) (h5 : P5) (h6 : P6) : Aside0 P0 ∧ Aside0 P1 ∧ Aside0 P2 ∧ Aside0 P3 ∧ Aside0 P4 ∧ Aside0 P5 ∧ Aside0 P6 := ⟨⟨h0⟩, ⟨h1⟩, ⟨h2⟩, ⟨h3⟩, ⟨h4⟩, ⟨h5⟩, ⟨h6⟩⟩
theorem qA8 {P0 P1 P2 P3 P4 P5 P6 P7 : Prop} (h0 : P0) (h1 : P1) (h2 : P2) (h3 : P3) (h4 : P4) (h5 : P5) (h6 : P6) (h7 : P7) : Aside0 P0 ∧ Aside0 P1 ∧ Aside0 P2 ∧ Aside0 P3 ∧ Aside0 P4 ∧ Aside0 P5 ∧ Aside0 P6 ∧ Aside0 P7 := ⟨⟨h0⟩, ⟨h1⟩, ⟨h2⟩, ⟨h3⟩, ⟨h4⟩, ⟨h5⟩, ⟨h6⟩, ⟨h7⟩⟩
theorem qA9 {P0 P1 P2 P3 P4 P5 P6 P7 P8 : Prop} (h0 : P0) (h1 : P1) (h2 : P2) (h3 : P3) (h4 : P4) (h5 : P5) (h6 : P6) (h7 : P7) (h8 : P8) : Aside0 P0 ∧ Aside0 P1 ∧ Aside0 P2 ∧ Aside0 P3 ∧ Aside0 P4 ∧ Aside0 P5 ∧ Aside0 P6 ∧ Aside0 P7 ∧ Aside0 P8 := ⟨⟨h0⟩, ⟨h1⟩, ⟨h2⟩, ⟨h3⟩, ⟨h4⟩, ⟨h5⟩, ⟨h6⟩, ⟨h7⟩, ⟨h8⟩⟩
theorem qA10 {P0 P1 P2 P3 P4 P5 P6 P7 P8 P9 : Prop} (h0 : P0) (h1 : P1) (h2 : P2) (h3 : P3) (h4 : P4) (h5 : P5) (h6 : P6) (h7 : P7) (h8 : P8) (h9 : P9) : Aside0 P0 ∧ Aside0 P1 ∧ Aside0 P2 ∧ Aside0 P3 ∧ Aside0 P4 ∧ Aside0 P5 ∧ Aside0 P6 ∧ Aside0 P7 ∧ Aside0 P8 ∧ Aside0 P9 := ⟨⟨h0⟩, ⟨h1⟩, ⟨h2⟩, ⟨h3⟩, ⟨h4⟩, ⟨h5⟩, ⟨h6⟩, ⟨h7⟩, ⟨h8⟩, ⟨h9⟩⟩
theorem qA11 {P0 P1 P2 P3 P4 P5 P6 P7 P8 P9 P10 : Prop} (h0 : P0) (h1 : P1) (h2 : P2) (h3 : P3) (h4 : P4) (h5 : P5) (h6 : P6) (h7 : P7) (h8 : P8) (h9 : P9) (h10 : P10) : Aside0 P0 ∧ Aside0 P1 ∧ Aside0 P2 ∧ Aside0 P3 ∧ Aside0 P4 ∧ Aside0 P5 ∧ Aside0 P6 ∧ Aside0 P7 ∧ Aside0 P8 ∧ Aside0 P9 ∧ Aside0 P10 := ⟨⟨h0⟩, ⟨h1⟩, ⟨h2⟩, ⟨h3⟩, ⟨h4⟩, ⟨h5⟩, ⟨h6⟩, ⟨h7⟩, ⟨h8⟩, ⟨h9⟩, ⟨h10⟩⟩
theorem qA12 {P0 P1 P2 P3 P4 P5 P6 P7 P8 P9 P10 P11 : Prop} (h0 : P0) (h1 : P1) (h2 : P2) (h3 : P3) (h4 : P4) (h5 : P5) (h6 : P6) (h7 : P7) (h8 : P8) (h9 : P9) (h10 : P10) (h11 : P11) : Aside0 P0 ∧ Aside0 P1 ∧ Aside0 P2 ∧ Aside0 P3 ∧ Aside0 P4 ∧ Aside0 P5 ∧ Aside0 P6 ∧ Aside0 P7 ∧ Aside0 P8 ∧ Aside0 P9 ∧ Aside0 P10 ∧ Aside0 P11 := ⟨⟨h0⟩, ⟨h1⟩, ⟨h2⟩, ⟨h3⟩, ⟨h4⟩, ⟨h5⟩, ⟨h6⟩, ⟨h7⟩, ⟨h8⟩, ⟨h9⟩, ⟨h10⟩, ⟨h11⟩⟩
theorem qA13 {P0 P1 P2 P3 P4 P5 P6 P7 P8 P9 P10 P11 P12 : Prop} (h0 : P0) (h1 : P1) (h2 : P2) (h3 : P3) (h4 : P4) (h5 : P5) (h6 : P6) (h7 : P7) (h8 : P8) (h9 : P9) (h10 : P10) (h11 : P11) (h12 : P12) : Aside0 P0 ∧ Aside0 P1 ∧ Aside0 P2 ∧ Aside0 P3 ∧ Aside0 P4 ∧ Aside0 P5 ∧ Aside0 P6 ∧ Aside0 P7 ∧ Aside0 P8 ∧ Aside0 P9 ∧ Aside0 P10 ∧ Aside0 P11 ∧ Aside0 P12 := ⟨⟨h0⟩, ⟨h1⟩, ⟨h2⟩, ⟨h3⟩, ⟨h4⟩, ⟨h5⟩, ⟨h6⟩, ⟨h7⟩, ⟨h8⟩, ⟨h9⟩, ⟨h10⟩, ⟨h11⟩, ⟨h12⟩⟩
theorem qA15 {P0 P1 P2 P3 P4 P5 P6 P7 P8 P9 P10 P11 P12 P13 P14 : Prop} (h0 : P0) (h1 : P1) (h2 : P2) (h3 : P3) (h4 : P4) (h5 : P5) (h6 : P6) (h7 : P7) (h8 : P8) (h9 : P9) (h10 : P10) (h11 : P11) (h12 : P12) (h13 : P13) (h14 : P14) : Aside0 P0 ∧ Aside0 P1 ∧ Aside0 P2 ∧ Aside0 P3 ∧ Aside0 P4 ∧ Aside0 P5 ∧ Aside0 P6 ∧ Aside0 P7 ∧ Aside0 P8 ∧ Aside0 P9 ∧ Aside0 P10 ∧ Aside0 P11 ∧ Aside0 P12 ∧ Aside0 P13 ∧ Aside0 P14 := ⟨⟨h0⟩, ⟨h1⟩, ⟨h2⟩, ⟨h3⟩, ⟨h4⟩, ⟨h5⟩, ⟨h6⟩, ⟨h7⟩, ⟨h8⟩, ⟨h9⟩, ⟨h10⟩, ⟨h11⟩, ⟨h12⟩, ⟨h13⟩, ⟨h14⟩⟩
theorem qC2 {w : World} {g t : Nat} {v0 v1 : Value} (h : w.heap[g]? = some (.cells #[v0, v1] t (0, 0))) : w.cell? ⟨g, 0, none⟩ = some v0 ∧ w.cell? ⟨g, 1, none⟩ = some v1 := ⟨(blk_cell h 0).trans rfl, (blk_cell h 1).trans rfl⟩
theorem qF2 {w : World} {g t : Nat} {cs : Array Value} (h : w.heap[g]? = some (.cells cs t (0, 0))) : w.frozen? ⟨g, 0, none⟩ = false ∧ w.frozen? ⟨g, 1, none⟩ = false := ⟨blk_frozen h 0, blk_frozen h 1⟩
theorem qC3 {w : World} {g t : Nat} {v0 v1 v2 : Value} (h : w.heap[g]? = some (.cells #[v0, v1, v2] t (0, 0))) : w.cell? ⟨g, 0, none⟩ = some v0 ∧ w.cell? ⟨g, 1, none⟩ = some v1 ∧ w.cell? ⟨g, 2, none⟩ = some v2 := ⟨(blk_cell h 0).trans rfl, (blk_cell h 1).trans rfl, (blk_cell h 2).trans rfl⟩
theorem qF3 {w : World} {g t : Nat} {cs : Array Value} (h : w.heap[g]? = some (.cells cs t (0, 0))) : w.frozen? ⟨g, 0, none⟩ = false ∧ w.frozen? ⟨g, 1, none⟩ = false ∧ w.frozen? ⟨g, 2, none⟩ = false := ⟨blk_frozen h 0, blk_frozen h 1, blk_frozen h 2⟩
theorem qC4 {w : World} {g t : Nat} {v0 v1 v2 v3 : Value} (h : w.heap[g]? = some (.cells #[v0, v1, v2, v3] t (0, 0))) : w.cell? ⟨g, 0, none⟩ = some v0 ∧ w.cell? ⟨g, 1, none⟩ = some v1 ∧ w.cell? ⟨g, 2, none⟩ = some v2 ∧ w.cell? ⟨g, 3, none⟩ = some v3 := ⟨(blk_cell h 0).trans rfl, (blk_cell h 1).trans rfl, (blk_cell h 2).trans rfl, (blk_cell h 3).trans rfl⟩
theorem qF4 {w : World} {g t : Nat} {cs : Array Value} (h : w.heap[g]? = some (.cells cs t (0, 0))) : w.frozen? ⟨g, 0, none⟩ = false ∧ w.frozen? ⟨g, 1, none⟩ = false ∧ w.frozen? ⟨g, 2, none⟩ = false ∧ w.frozen? ⟨g, 3, none⟩ = false := ⟨blk_frozen h 0, blk_frozen h 1, blk_frozen h 2, blk_frozen h 3⟩
theorem qC7 {w : World} {g t : Nat} {v0 v1 v2 v3 v4 v5 v6 : Value} (h : w.heap[g]? = some (.cells #[v0, v1, v2, v3, v4, v5, v6] t (0, 0))) : w.cell? ⟨g, 0, none⟩ = some v0 ∧ w.cell? ⟨g, 1, none⟩ = some v1 ∧ w.cell? ⟨g, 2, none⟩ = some v2 ∧ w.cell? ⟨g, 3, none⟩ = some v3 ∧ w.cell? ⟨g, 4, none⟩ = some v4 ∧ w.cell? ⟨g, 5, none⟩ = some v5 ∧ w.cell? ⟨g, 6, none⟩ = some v6 := ⟨(blk_cell h 0).trans rfl, (blk_cell h 1).trans rfl, (blk_cell h 2).trans rfl, (blk_cell h 3).trans rfl, (blk_cell h 4).trans rfl, (blk_cell h 5).trans rfl, (blk_cell h 6).trans rfl⟩
theorem qF7 {w : World} {g t : Nat} {cs : Array Value} (h : w.heap[g]? = some (.cells cs t (0, 0))) : w.frozen? ⟨g, 0, none⟩ = false ∧ w.frozen? ⟨g, 1, none⟩ = false ∧ w.frozen? ⟨g, 2, none⟩ = false ∧ w.frozen? ⟨g, 3, none⟩ = false ∧ w.frozen? ⟨g, 4, none⟩ = false ∧ w.frozen? ⟨g, 5, none⟩ = false ∧ w.frozen? ⟨g, 6, none⟩ = false := ⟨blk_frozen h 0, blk_frozen h 1, blk_frozen h 2, blk_frozen h 3, blk_frozen h 4, blk_frozen h 5, blk_frozen h 6⟩
abbrev qb36 : Array Bool := #[false, false, false, false, false, false, false, false, false, false]
abbrev qb43 : Array Bool := #[true, true, true, true, true, true, true, false, false, false]
abbrev qb44 : Array Bool := #[true, true, true, true, true, true, true, true, false, false]
abbrev qb45 : Array Bool := #[true, true, true, true, true, true, true, true, true, false]
abbrev qb46 : Array Bool := #[true, true, true, true, true, true, true, true, true, true]
abbrev qb175 : Array Bool := #[false, false, false, false, false, false, false, false, false, false, false, false, false, false, false, false, false, false, false, false, false, false]
abbrev qb176 : Array Bool := #[true, false, false, false, false, false, false, false, false, false, false, false, false, false, false, false, false, false, false, false, false, false]
abbrev qb177 : Array Bool := #[true, true, false, false, false, false, false, false, false, false, false, false, false, false, false, false, false, false, false, false, false, false]
abbrev qb178 : Array Bool := #[true, true, true, false, false, false, false, false, false, false, false, false, false, false, false, false, false, false, false, false, false, false]
abbrev qb189 : Array Bool := #[true, true, true, true, true, true, true, true, true, true, true, true, true, true, false, false, false, false, false, false, false, false]
abbrev qb190 : Array Bool := #[true, true, true, true, true, true, true, true, true, true, true, true, true, true, true, false, false, false, false, false, false, false]
abbrev qb191 : Array Bool := #[true, true, true, true, true, true, true, true, true, true, true, true, true, true, true, true, false, false, false, false, false, false]
abbrev qb193 : Array Bool := #[true, true, true, true, true, true, true, true, true, true, true, true, true, true, true, true, true, true, false, false, false, false]
abbrev qb194 : Array Bool := #[true, true, true, true, true, true, true, true, true, true, true, true, true, true, true, true, true, true, true, false, false, false]
abbrev qb195 : Array Bool := #[true, true, true, true, true, true, true, true, true, true, true, true, true, true, true, true, true, true, true, true, false, false]
abbrev qb196 : Array Bool := #[true, true, true, true, true, true, true, true, true, true, true, true, true, true, true, true, true, true, true, true, true, false]
abbrev qb197 : Array Bool := #[true, true, true, true, true, true, true, true, true, true, true, true, true, true, true, true, true, true, true, true, true, true]
abbrev qb198 : Array Bool := #[true, true, true, true, true, true, true, true, true, true, true, true, true, true, true, true, true, false, false, false, false, false]
abbrev qb199 : Array Bool := #[true, true, true, true, false, false, false, false, false, false, false, false, false, false, false, false, false, false, false, false, false, false]
abbrev qb278 : Array Bool := #[true, false, false, false, false, false, false, false, false, false]
abbrev qb342 : Array Bool := #[true, false, true, false, false, false, false, false, false, false]
abbrev qb343 : Array Bool := #[true, false, true, true, false, false, false, false, false, false]
abbrev qb345 : Array Bool := #[true, true, true, true, true, false, false, false, false, false]
abbrev qb346 : Array Bool := #[true, true, true, true, true, true, false, false, false, false]
abbrev qb524 : Array Bool := #[false, false, false, false, false, false, false, false, false, false, false, false, false, false, false, false, false]
abbrev qb542 : Array Bool := #[true, true, true, true, false, true, false, false, false, false, false, false, false, false, false, false, false, false, false, false, false, false]
abbrev qb543 : Array Bool := #[true, true, true, true, false, true, true, false, false, false, false, false, false, false, false, false, false, false, false, false, false, false]
abbrev qb544 : Array Bool := #[true, true, true, true, false, true, true, true, false, false, false, false, false, false, false, false, false, false, false, false, false, false]
abbrev qb545 : Array Bool := #[true, true, true, true, false, true, true, true, true, false, false, false, false, false, false, false, false, false, false, false, false, false]
abbrev qb546 : Array Bool := #[true, true, true, true, false, true, true, true, true, false, true, false, false, false, false, false, false, false, false, false, false, false]
abbrev qb547 : Array Bool := #[true, true, true, true, false, true, true, true, true, false, true, true, false, false, false, false, false, false, false, false, false, false]
abbrev qb548 : Array Bool := #[true, true, true, true, false, true, true, true, true, false, true, true, true, false, false, false, false, false, false, false, false, false]
abbrev qb549 : Array Bool := #[true, true, true, true, false, true, true, true, true, false, true, true, true, true, false, false, false, false, false, false, false, false]
abbrev qb550 : Array Bool := #[true, true, true, true, true, true, true, true, true, false, true, true, true, true, false, false, false, false, false, false, false, false]
abbrev qb551 : Array Bool := #[true, true, true, true, true, true, true, true, true, true, true, true, true, true, true, false, false, false, false, true, false, false]
abbrev qb552 : Array Bool := #[true, true, true, true, true, true, true, true, true, true, true, true, true, true, true, true, false, false, false, true, false, false]
abbrev qb553 : Array Bool := #[true, true, true, true, true, true, true, true, true, true, true, true, true, true, true, true, true, false, false, true, false, false]
abbrev qb554 : Array Bool := #[true, true, true, true, true, true, true, true, true, true, true, true, true, true, true, true, true, true, false, true, false, false]
abbrev qb569 : Array Bool := #[false, false, false, false, false, false, false, false, false, false, false, false, false, false]
abbrev qb570 : Array Bool := #[true, false, false, false, false, false, false, false, false, false, false, false, false, false]
abbrev qb581 : Array Bool := #[true, true, true, true, true, true, true, true, true, true, true, true, false, false]
abbrev qb582 : Array Bool := #[true, true, true, true, true, true, true, true, true, true, true, true, true, false]
abbrev qb583 : Array Bool := #[true, true, true, true, true, true, true, true, true, true, true, true, true, true]
abbrev qb589 : Array Bool := #[true, true, true, true, true, true, true, true, true, false, false, false, false, false]
abbrev qb590 : Array Bool := #[true, true, true, true, true, true, true, true, true, true, false, false, false, false]
abbrev qb591 : Array Bool := #[true, true, true, true, true, true, true, true, true, true, true, false, false, false]
abbrev qb700 : Array Bool := #[true, false, false, false, false, false, false, false, false, false, false, false, false, false, false, false, false]
abbrev qb701 : Array Bool := #[true, true, false, false, false, false, false, false, false, false, false, false, false, false, false, false, false]
abbrev qb702 : Array Bool := #[true, true, false, false, true, false, false, false, false, false, false, false, false, false, false, false, false]
abbrev qb703 : Array Bool := #[true, true, false, false, true, false, false, false, true, false, false, false, false, false, false, false, false]
abbrev qb704 : Array Bool := #[true, true, false, false, true, false, false, false, true, false, false, true, false, false, false, false, false]
abbrev qb734 : Array Bool := #[true, false, true, false, false, false, false, false, false, false, false, false, false, false]
abbrev qb735 : Array Bool := #[true, false, true, false, true, false, false, false, false, false, false, false, false, false]
abbrev qb736 : Array Bool := #[true, false, true, false, true, false, false, false, true, false, false, false, false, false]
abbrev qb737 : Array Bool := #[true, false, true, true, true, false, false, false, true, false, false, false, false, false]
abbrev qb738 : Array Bool := #[true, false, true, true, true, true, false, false, true, false, false, false, false, false]
abbrev qb739 : Array Bool := #[true, false, true, true, true, true, true, false, true, false, false, false, false, false]
abbrev qb740 : Array Bool := #[true, true, true, true, true, true, true, false, true, false, false, false, false, false]
abbrev qb741 : Array Bool := #[true, true, true, true, true, true, true, false, true, true, false, false, false, false]
abbrev qb813 : Array Bool := #[true, true, true, true, false, false, false, false, false, false]
abbrev qb889 : Array Bool := #[false, false, false, false, false, false, false, false, false, false, false, false, false, false, false, false, false, false, false, false, false]
abbrev qb890 : Array Bool := #[true, false, false, false, false, false, false, false, false, false, false, false, false, false, false, false, false, false, false, false, false]
abbrev qb891 : Array Bool := #[true, false, true, false, false, false, false, false, false, false, false, false, false, false, false, false, false, false, false, false, false]
abbrev qb892 : Array Bool := #[true, false, true, false, true, false, false, false, false, false, false, false, false, false, false, false, false, false, false, false, false]
abbrev qb893 : Array Bool := #[true, false, true, false, true, false, false, true, false, false, false, false, false, false, false, false, false, false, false, false, false]
abbrev qb894 : Array Bool := #[true, false, true, false, true, false, false, true, false, false, true, false, false, false, false, false, false, false, false, false, false]
abbrev qb895 : Array Bool := #[true, false, true, false, true, false, false, true, false, false, true, false, false, true, false, false, false, false, false, false, false]
abbrev qb896 : Array Bool := #[true, false, true, false, true, false, false, true, false, false, true, false, false, true, false, false, false, true, false, false, false]
end Go.Proofs.Ytjhfjnknajhanaa.P
-- Closing tactics that the printed proofs name (wip/tools/mz.py).
namespace Go.Proofs.Ytjhfjnknajhanaa.P
open Go.RowKit Go.Proofs.YtjhfjnknajhanaaW.PrintWords Go.Proofs.YtjhfjnknajhanaaW.PrintLast Go.Proofs.YtjhfjnknajhanaaW.PrintMore
attribute [local go_sem] max2_int min2_int max_two min_two max_three min_three max_four min_four   -- for this text's walks alone
set_option linter.unusedVariables false
set_option linter.unusedSimpArgs false
theorem qcb {w w' : World} {a : Addr} {v : Value} (HB : Aside0 (Below w.heap.size w w')) (h : w.cell? a = some v) : w'.cell? a = some v := (HB.out.cell (World.block_lt_of_cell? w _ h)).trans h
theorem qz1 {P : Prop} (h : P := by (try simp only [List.map_toArray, List.map_cons, List.map_nil]); first | done | rfl | (simp only [List.length_drop, List.length_take]; rfl)) : P := h
theorem qz2 {P : Prop} (h : P := by first | rfl | (simp; done) | (simp [*]; done)) : P := h
theorem qz3 {P : Prop} (h : P := by repeat (first | exact Drawn0.refl _ | apply Drawn0.step)) : P := h
theorem qz4 {P : Prop} (h : P := by first | (with_reducible assumption) | assumption) : P := h
theorem qz5 {P : Prop} (h : P := by first | (go_simp; done) | (go_simp; rfl)) : P := h
theorem qz6 {P : Prop} (h : P := by repeat (first | (with_reducible first | exact HB.out | apply below_alloc | apply pw_below_drewN | apply below_drew1) | exact HB.out)) : P := h
theorem qz7 {P : Prop} (h : P := by rw [hg]; exact (below_size qz6)) : P := h
theorem qz8 {Q0 P : Prop} (q0 : Q0) (h : Q0 → P := by intro q0; (with_reducible repeat (first | refine blk_drewN ?_ _ | refine blk_drew ?_ | refine blk_alloc ?_ _)); exact q0) : P := h q0
theorem qz9 {Q0 P : Prop} (q0 : Q0) (h : Q0 → P := by intro q0; rw [← hq_]; exact (qz8 q0)) : P := h q0
theorem qz10 {Q0 P : Prop} (q0 : Q0) (h : Q0 → P := by intro q0; repeat (first | (with_reducible first | exact HB.out | apply below_alloc | apply pw_below_drewN | apply below_drew1 | refine below_set ?_ q0) | exact HB.out)) : P := h q0
theorem qz11 {Q0 P : Prop} (q0 : Q0) (h : Q0 → P := by intro q0; rw [← hq_]; exact (qz10 q0)) : P := h q0
theorem qz13 {P : Prop} (h : P := by first | rfl | (simp [errW_none, errW_some] <;> rfl) | (simp [*, errW_none, errW_some] <;> rfl)) : P := h
theorem qz15 {P : Prop} (h : P := by first | exact Kd.R_nil _ _ _ _ _ | exact Kd.N_nil _ _ _ _ _ | exact Kd.V_nil _ _ _ _ _ | exact Kd.Q_nil _ _ _ _ _ | exact Kd.S_nil _ _ _ _ _) : P := h
theorem qz17 {Q0 P : Prop} (q0 : Q0) (h : Q0 → P := by intro q0; repeat (first | exact (Kd.C_below q0 HB.out) | (with_reducible refine Kd.C_alloc ?_ _) | (with_reducible refine Kd.C_drewN ?_ _) | (with_reducible refine Kd.C_drew ?_))) : P := h q0
theorem qz19 {Q0 P : Prop} (q0 : Q0) (h : Q0 → P := by intro q0; repeat (first | exact (Kd.R_reads' q0).2.2 | (with_reducible refine Kd.C_alloc ?_ _) | (with_reducible refine Kd.C_drewN ?_ _) | (with_reducible refine Kd.C_drew ?_))) : P := h q0
theorem qz20 {Q0 P : Prop} (q0 : Q0) (h : Q0 → P := by intro q0; exact (Kd.R_reads' q0).2.1) : P := h q0
theorem qz21 {Q0 P : Prop} (q0 : Q0) (h : Q0 → P := by intro q0; (with_reducible repeat (first | apply Kd.R_alloc | apply Kd.R_drewN | apply Kd.R_drew)); exact q0) : P := h q0
theorem qz22 {P : Prop} (h : P := by exact (Reps.none _ _)) : P := h
theorem qz23 {Q0 P : Prop} (q0 : Q0) (h : Q0 → P := by intro q0; (with_reducible repeat (first | apply Kd.R_alloc | apply Kd.R_drewN | apply Kd.R_drew)); exact Kd.R_mono q0 (fun _ hk => trivial)) : P := h q0
theorem qz25 {Q0 P : Prop} (q0 : Q0) (h : Q0 → P := by intro q0; exact (qz10 q0)) : P := h q0
theorem qz26 {P : Prop} (h : P := by exact (fun _ _ => trivial)) : P := h
theorem qz28 {Q0 P : Prop} (q0 : Q0) (h : Q0 → P := by intro q0; exact (below_size (qz10 q0))) : P := h q0
theorem qz29 {P : Prop} (h : P := by (with_reducible repeat (first | apply Kd.R_alloc | apply Kd.R_drewN | apply Kd.R_drew)); exact HO_3.out) : P := h
theorem qz33 {P : Prop} (h : P := by exact qz29) : P := h
theorem qz34 {Q0 Q1 P : Prop} (q0 : Q0) (q1 : Q1) (h : Q0 → Q1 → P := by intro q0 q1; have := q0; have := q1; omega) : P := h q0 q1
theorem qz36 {P : Prop} (h : P := by first | omega | exact Nat.le_refl _) : P := h
theorem qz38 {Q0 P : Prop} (q0 : Q0) (h : Q0 → P := by intro q0; rw [hg]; exact (below_size (qz10 q0))) : P := h q0
theorem qz41 {Q0 Q1 P : Prop} (q0 : Q0) (q1 : Q1) (h : Q0 → Q1 → P := by intro q0 q1; (with_reducible repeat (first | refine blk_drewN ?_ _ | refine blk_drew ?_ | refine blk_alloc ?_ _)); refine blk_far ?_ q0 _; (with_reducible repeat (first | refine blk_drewN ?_ _ | refine blk_drew ?_ | refine blk_alloc ?_ _)); refine blk_far ?_ q0 _; (with_reducible repeat (first | refine blk_drewN ?_ _ | refine blk_drew ?_ | refine blk_alloc ?_ _)); exact q1) : P := h q0 q1
theorem qz43 {Q0 Q1 P : Prop} (q0 : Q0) (q1 : Q1) (h : Q0 → Q1 → P := by intro q0 q1; repeat (first | (with_reducible first | exact HB.out | apply below_alloc | apply pw_below_drewN | apply below_drew1 | refine below_set ?_ q0 | refine below_set ?_ q1) | exact HB.out)) : P := h q0 q1
theorem qz46 {Q0 Q1 Q2 P : Prop} (q0 : Q0) (q1 : Q1) (q2 : Q2) (h : Q0 → Q1 → Q2 → P := by intro q0 q1 q2; repeat (first | (with_reducible first | exact HB.out | apply below_alloc | apply pw_below_drewN | apply below_drew1 | refine below_set ?_ q0 | refine below_set ?_ q1 | refine below_set ?_ q2) | exact HB.out)) : P := h q0 q1 q2
theorem qz48 {Q0 Q1 P : Prop} (q0 : Q0) (q1 : Q1) (h : Q0 → Q1 → P := by intro q0 q1; rw [hg]; exact (below_size (qz43 q0 q1))) : P := h q0 q1
theorem qz62 {Q0 P : Prop} (q0 : Q0) (h : Q0 → P := by intro q0; repeat (first | exact q0 | (with_reducible refine Kd.C_alloc ?_ _) | (with_reducible refine Kd.C_drewN ?_ _) | (with_reducible refine Kd.C_drew ?_))) : P := h q0
theorem qz65 {P : Prop} (h : P := by have := LMc6.out; omega) : P := h
theorem qz77 {Q0 P : Prop} (q0 : Q0) (h : Q0 → P := by intro q0; rw [hg]; exact Nat.ne_of_lt (blk_lt (g := gb101) (o := .cells #[.slice A0_0 l0_0.length c0_0, .slice A0_1 l0_1.length c0_1, .int .i64 a0_2, .int .i64 a0_3, .int .i64 a0_4, .int .i64 a0_5, .int .i64 a0_6] 102 (0, 0)) (qz8 q0))) : P := h q0
theorem qz78 {Q0 P : Prop} (q0 : Q0) (h : Q0 → P := by intro q0; rw [hg]; exact Nat.ne_of_gt (blk_lt (g := gb101) (o := .cells #[.slice A0_0 l0_0.length c0_0, .slice A0_1 l0_1.length c0_1, .int .i64 a0_2, .int .i64 a0_3, .int .i64 a0_4, .int .i64 a0_5, .int .i64 a0_6] 102 (0, 0)) (qz8 q0))) : P := h q0
theorem qz80 {Q0 P : Prop} (q0 : Q0) (h : Q0 → P := by intro q0; exact (qz21 q0)) : P := h q0
theorem qz85 {P : Prop} (h : P := by simp only [putAll, Act.put, List.setIfInBounds_toArray, List.set_cons_zero, List.set_cons_succ]) : P := h
theorem qz88 {Q0 P : Prop} (q0 : Q0) (h : Q0 → P := by intro q0; rw [hg]; exact Nat.ne_of_lt (blk_lt (g := gb101) (o := .cells #[.int .i64 a0_0, .int .i64 a0_1] 231 (0, 0)) (qz8 q0))) : P := h q0
theorem qz89 {Q0 P : Prop} (q0 : Q0) (h : Q0 → P := by intro q0; rw [hg]; exact Nat.ne_of_gt (blk_lt (g := gb101) (o := .cells #[.int .i64 a0_0, .int .i64 a0_1] 231 (0, 0)) (qz8 q0))) : P := h q0
theorem qz90 {P : Prop} (h : P := by have := LMc9.out; omega) : P := h
theorem qz93 {Q0 P : Prop} (q0 : Q0) (h : Q0 → P := by intro q0; (with_reducible repeat (first | refine blk_drewN ?_ _ | refine blk_drew ?_ | refine blk_alloc ?_ _)); refine blk_put (cs := #[.int .i64 ((rd_T231 l0 x13_1).f0), .int .i64 0]) ?_ 1 _ rfl; (with_reducible repeat (first | refine blk_drewN ?_ _ | refine blk_drew ?_ | refine blk_alloc ?_ _)); refine blk_put (cs := #[.int .i64 0, .int .i64 0]) ?_ 0 _ rfl; (with_reducible repeat (first | refine blk_drewN ?_ _ | refine blk_drew ?_ | refine blk_alloc ?_ _)); exact q0) : P := h q0
theorem qz94 {Q0 P : Prop} (q0 : Q0) (h : Q0 → P := by intro q0; have := q0; first | omega | exact Nat.le_refl _) : P := h q0
theorem qz102 {Q0 Q1 P : Prop} (q0 : Q0) (q1 : Q1) (h : Q0 → Q1 → P := by intro q0 q1; (with_reducible repeat (first | refine blk_drewN ?_ _ | refine blk_drew ?_ | refine blk_alloc ?_ _)); refine blk_far ?_ q0 _; (with_reducible repeat (first | refine blk_drewN ?_ _ | refine blk_drew ?_ | refine blk_alloc ?_ _)); refine blk_far ?_ q0 _; (with_reducible repeat (first | refine blk_drewN ?_ _ | refine blk_drew ?_ | refine blk_alloc ?_ _)); refine blk_far ?_ q0 _; (with_reducible repeat (first | refine blk_drewN ?_ _ | refine blk_drew ?_ | refine blk_alloc ?_ _)); exact q1) : P := h q0 q1
theorem qz109 {Q0 P : Prop} (q0 : Q0) (h : Q0 → P := by intro q0; have := World.block_lt_of_cell? _ _ q0; first | rwa [add_block] at this | exact this) : P := h q0
theorem qz110 {Q0 Q1 P : Prop} (q0 : Q0) (q1 : Q1) (h : Q0 → Q1 → P := by intro q0 q1; first | exact Nat.ne_of_lt (Nat.lt_of_lt_of_le (qz109 q0) q1) | (rw [add_block]; exact Nat.ne_of_lt (Nat.lt_of_lt_of_le (qz109 q0) q1)) | (show (Addr.add _ _).block ≠ _; rw [add_block]; exact Nat.ne_of_lt (Nat.lt_of_lt_of_le (qz109 q0) q1)) | (dsimp only; exact Nat.ne_of_lt (Nat.lt_of_lt_of_le (qz109 q0) q1))) : P := h q0 q1
theorem qz117 {Q0 Q1 P : Prop} (q0 : Q0) (q1 : Q1) (h : Q0 → Q1 → P := by intro q0 q1; (with_reducible repeat (first | refine blk_drewN ?_ _ | refine blk_drew ?_ | refine blk_alloc ?_ _)); refine blk_far ?_ q0 _; (with_reducible repeat (first | refine blk_drewN ?_ _ | refine blk_drew ?_ | refine blk_alloc ?_ _)); refine blk_far ?_ q0 _; (with_reducible repeat (first | refine blk_drewN ?_ _ | refine blk_drew ?_ | refine blk_alloc ?_ _)); refine blk_far ?_ q0 _; (with_reducible repeat (first | refine blk_drewN ?_ _ | refine blk_drew ?_ | refine blk_alloc ?_ _)); refine blk_far ?_ q0 _; (with_reducible repeat (first | refine blk_drewN ?_ _ | refine blk_drew ?_ | refine blk_alloc ?_ _)); exact q1) : P := h q0 q1
theorem qz123 {P : Prop} (h : P := by first | rfl | (simp [errW_none, errW_some] <;> rfl) | (simp only [← hji10]; first | rfl | (simp [errW_none, errW_some] <;> rfl)) | (simp [*, errW_none, errW_some] <;> rfl)) : P := h
theorem qz153 {P : Prop} (h : P := by (with_reducible repeat (first | apply Kd.R_alloc | apply Kd.R_drewN | apply Kd.R_drew)); exact HO_6.out) : P := h
theorem qz154 {Q0 P : Prop} (q0 : Q0) (h : Q0 → P := by intro q0; rw [hg]; exact Nat.ne_of_lt (blk_lt (g := gb101) (o := .cells #[.int .i64 a1_0, .int .i64 a1_1, .int .i64 a1_2, .int .i64 a1_3] 75 (0, 0)) (qz8 q0))) : P := h q0
theorem qz155 {Q0 P : Prop} (q0 : Q0) (h : Q0 → P := by intro q0; rw [hg]; exact Nat.ne_of_gt (blk_lt (g := gb101) (o := .cells #[.int .i64 a1_0, .int .i64 a1_1, .int .i64 a1_2, .int .i64 a1_3] 75 (0, 0)) (qz8 q0))) : P := h q0
theorem qz156 {Q0 P : Prop} (q0 : Q0) (h : Q0 → P := by intro q0; (with_reducible repeat (first | apply Kd.R_alloc | apply Kd.R_drewN | apply Kd.R_drew)); exact (Kd.R_mono (Kd.R_far (p := ⟨gb107, 1, none⟩) (Kd.R_far (p := ⟨gb107, 0, none⟩) (Kd.R_types HO_6.out q0 (by decide)) (fun _ hk => hk.2) (.int .i64 ((rd_T231 l0 x15_1).f0))) (fun _ hk => hk.2) (.int .i64 ((rd_T231 l0 x15_1).f1))) (fun _ h_ => h_.1))) : P := h q0
theorem qz157 {Q0 P : Prop} (q0 : Q0) (h : Q0 → P := by intro q0; (with_reducible repeat (first | refine blk_drewN ?_ _ | refine blk_drew ?_ | refine blk_alloc ?_ _)); refine blk_put (cs := #[.int .i64 ((rd_T231 l0 x15_1).f0), .int .i64 0]) ?_ 1 _ rfl; (with_reducible repeat (first | refine blk_drewN ?_ _ | refine blk_drew ?_ | refine blk_alloc ?_ _)); refine blk_put (cs := #[.int .i64 0, .int .i64 0]) ?_ 0 _ rfl; (with_reducible repeat (first | refine blk_drewN ?_ _ | refine blk_drew ?_ | refine blk_alloc ?_ _)); exact q0) : P := h q0
theorem qz158 {Q0 Q1 P : Prop} (q0 : Q0) (q1 : Q1) (h : Q0 → Q1 → P := by intro q0 q1; exact (qz43 q0 q1)) : P := h q0 q1
theorem qz159 {P : Prop} (h : P := by exact qz153) : P := h
theorem qz160 {Q0 Q1 P : Prop} (q0 : Q0) (q1 : Q1) (h : Q0 → Q1 → P := by intro q0 q1; exact (below_size (qz43 q0 q1))) : P := h q0 q1
theorem qz161 {P : Prop} (h : P := by have := LMc12.out; omega) : P := h
theorem qz162 {P : Prop} (h : P := by rw [hw, Ny115.out]; exact HP33.1) : P := h
theorem qz163 {Q0 P : Prop} (q0 : Q0) (h : Q0 → P := by intro q0; rw [hw]; exact below_set (HB.out) q0) : P := h q0
theorem qz164 {P : Prop} (h : P := by rw [Ny120.out, List.length_take]; omega) : P := h
theorem qz165 {P : Prop} (h : P := by have := LMc44.out; omega) : P := h
theorem qz194 {Q0 Q1 Q2 P : Prop} (q0 : Q0) (q1 : Q1) (q2 : Q2) (h : Q0 → Q1 → Q2 → P := by intro q0 q1 q2; (with_reducible repeat (first | apply Kd.R_alloc | apply Kd.R_drewN | apply Kd.R_drew)); exact (Kd.R_mono (Kd.R_mono (Kd.R_far (p := ⟨gb118, 3, none⟩) (Kd.R_far (p := ⟨gb118, 2, none⟩) (Kd.R_far (p := ⟨gb118, 1, none⟩) (Kd.R_far (p := ⟨gb118, 0, none⟩) (Kd.R_far (p := ⟨gb117, 6, none⟩) (Kd.R_far (p := ⟨gb117, 5, none⟩) (Kd.R_far (p := ⟨gb117, 4, none⟩) (Kd.R_far (p := ⟨gb117, 3, none⟩) (Kd.R_far (p := ⟨gb117, 2, none⟩) (Kd.R_far (p := ⟨gb117, 1, none⟩) (Kd.R_far (p := ⟨gb117, 0, none⟩) (Kd.R_types (Kd.R_types q0 q1 (by decide)) q2 (by decide)) (fun _ hk => hk.1.2) (.slice Ao11 t102.length co11)) (fun _ hk => hk.1.2) (.slice Ao14 t105.length co14)) (fun _ hk => hk.1.2) (.int .i64 t108)) (fun _ hk => hk.1.2) (.int .i64 t109)) (fun _ hk => hk.1.2) (.int .i64 t110)) (fun _ hk => hk.1.2) (.int .i64 t111)) (fun _ hk => hk.1.2) (.int .i64 t112)) (fun _ hk => hk.2) (.int .i64 t113)) (fun _ hk => hk.2) (.int .i64 t114)) (fun _ hk => hk.2) (.int .i64 t115)) (fun _ hk => hk.2) (.int .i64 t116)) (fun _ h_ => h_.1)) (fun _ h_ => h_.1))) : P := h q0 q1 q2
theorem qz195 {P : Prop} (h : P := by repeat (first | exact (Kd.R_reads' HO_118000.out).2.2 | (with_reducible refine Kd.C_alloc ?_ _) | (with_reducible refine Kd.C_drewN ?_ _) | (with_reducible refine Kd.C_drew ?_))) : P := h
theorem qz196 {P : Prop} (h : P := by exact (Kd.R_reads' HO_118000.out).2.1) : P := h
theorem qz197 {P : Prop} (h : P := by repeat (first | exact (Kd.R_reads' HO_118001.out).2.2 | (with_reducible refine Kd.C_alloc ?_ _) | (with_reducible refine Kd.C_drewN ?_ _) | (with_reducible refine Kd.C_drew ?_))) : P := h
theorem qz198 {P : Prop} (h : P := by exact (Kd.R_reads' HO_118001.out).2.1) : P := h
theorem qz199 {P : Prop} (h : P := by (with_reducible repeat (first | apply Kd.R_alloc | apply Kd.R_drewN | apply Kd.R_drew)); exact HO_118000.out) : P := h
theorem qz200 {P : Prop} (h : P := by (with_reducible repeat (first | apply Kd.R_alloc | apply Kd.R_drewN | apply Kd.R_drew)); exact HO_118001.out) : P := h
theorem qz211 {Q0 P : Prop} (q0 : Q0) (h : Q0 → P := by intro q0; rw [hg]; exact Nat.ne_of_lt (blk_lt (g := gb102) (o := .cells #[.int .i64 0, .int .i64 0, .int .i64 0, .int .i64 0] 75 (0, 0)) (qz8 q0))) : P := h q0
theorem qz212 {Q0 P : Prop} (q0 : Q0) (h : Q0 → P := by intro q0; rw [hg]; exact Nat.ne_of_gt (blk_lt (g := gb102) (o := .cells #[.int .i64 0, .int .i64 0, .int .i64 0, .int .i64 0] 75 (0, 0)) (qz8 q0))) : P := h q0
theorem qz218 {Q0 Q1 P : Prop} (q0 : Q0) (q1 : Q1) (h : Q0 → Q1 → P := by intro q0 q1; (with_reducible repeat (first | refine blk_drewN ?_ _ | refine blk_drew ?_ | refine blk_alloc ?_ _)); refine blk_far ?_ q0 _; (with_reducible repeat (first | refine blk_drewN ?_ _ | refine blk_drew ?_ | refine blk_alloc ?_ _)); exact q1) : P := h q0 q1
theorem qz233 {Q0 P : Prop} (q0 : Q0) (h : Q0 → P := by intro q0; (with_reducible repeat (first | refine blk_drewN ?_ _ | refine blk_drew ?_ | refine blk_alloc ?_ _)); refine blk_put (cs := #[.int .i64 0, .int .u64 0]) ?_ 1 _ rfl; (with_reducible repeat (first | refine blk_drewN ?_ _ | refine blk_drew ?_ | refine blk_alloc ?_ _)); refine blk_put (cs := #[.int .i64 0, .int .u64 0]) ?_ 0 _ rfl; (with_reducible repeat (first | refine blk_drewN ?_ _ | refine blk_drew ?_ | refine blk_alloc ?_ _)); exact q0) : P := h q0
theorem qz244 {Q0 P : Prop} (q0 : Q0) (h : Q0 → P := by intro q0; (with_reducible repeat (first | refine blk_drewN ?_ _ | refine blk_drew ?_ | refine blk_alloc ?_ _)); refine blk_put (cs := #[.int .i64 t127, .int .u64 0]) ?_ 1 _ rfl; (with_reducible repeat (first | refine blk_drewN ?_ _ | refine blk_drew ?_ | refine blk_alloc ?_ _)); refine blk_put (cs := #[.int .i64 0, .int .u64 0]) ?_ 0 _ rfl; (with_reducible repeat (first | refine blk_drewN ?_ _ | refine blk_drew ?_ | refine blk_alloc ?_ _)); exact q0) : P := h q0
theorem qz260 {P : Prop} (h : P := by have := LMc16.out; omega) : P := h
theorem qz289 {Q0 Q1 P : Prop} (q0 : Q0) (q1 : Q1) (h : Q0 → Q1 → P := by intro q0 q1; repeat (first | (with_reducible first | exact q0 | apply IsS213.alloc | apply IsS213.drewN | apply IsS213.drew | apply IsS213.set_1 | apply IsS213.set_2 | refine IsS213.far ?_ q1 _) | exact q0)) : P := h q0 q1
theorem qz290 {Q0 Q1 P : Prop} (q0 : Q0) (q1 : Q1) (h : Q0 → Q1 → P := by intro q0 q1; repeat (first | (with_reducible first | exact HB.out | apply below_alloc | apply pw_below_drewN | apply below_drew1 | refine below_set ?_ (IsS213.ge q0) | refine below_set ?_ q1) | exact HB.out)) : P := h q0 q1
theorem qz295 {Q0 Q1 Q2 P : Prop} (q0 : Q0) (q1 : Q1) (q2 : Q2) (h : Q0 → Q1 → Q2 → P := by intro q0 q1 q2; repeat (first | (with_reducible first | exact q0 | apply IsS213.alloc | apply IsS213.drewN | apply IsS213.drew | apply IsS213.set_1 | apply IsS213.set_2 | refine IsS213.far ?_ q1 _ | refine IsS213.far ?_ q2 _) | exact q0)) : P := h q0 q1 q2
theorem qz296 {Q0 Q1 Q2 P : Prop} (q0 : Q0) (q1 : Q1) (q2 : Q2) (h : Q0 → Q1 → Q2 → P := by intro q0 q1 q2; repeat (first | (with_reducible first | exact HB.out | apply below_alloc | apply pw_below_drewN | apply below_drew1 | refine below_set ?_ (IsS213.ge q0) | refine below_set ?_ q1 | refine below_set ?_ q2) | exact HB.out)) : P := h q0 q1 q2
theorem qz297 {P : Prop} (h : P := by simp only [putSel, Bool.false_eq_true, if_false]) : P := h
theorem qz298 {P : Prop} (h : P := by rw [ha.out]; exact putSel_upk 0 hb_ rfl rfl rfl) : P := h
theorem qz299 {P : Prop} (h : P := by rw [ha.out]; exact putSel_upk 1 hb_ rfl rfl rfl) : P := h
theorem qz300 {P : Prop} (h : P := by first | (simp only [List.map_toArray, List.map_cons, List.map_nil, Act.eval, Array.getD_eq_getD_getElem?, Option.getD_some, e13]; done) | (simp only [List.map_toArray, List.map_cons, List.map_nil, Act.eval, Array.getD_eq_getD_getElem?, Option.getD_some, e13]; rfl)) : P := h
theorem qz301 {P : Prop} (h : P := by rw [ha.out]; exact putSel_upk 2 hb_ rfl rfl rfl) : P := h
theorem qz302 {P : Prop} (h : P := by rw [ha.out]; exact putSel_upk 3 hb_ rfl rfl rfl) : P := h
theorem qz303 {P : Prop} (h : P := by rw [ha.out]; exact putSel_upk 4 hb_ rfl rfl rfl) : P := h
theorem qz304 {P : Prop} (h : P := by rw [ha.out]; exact putSel_upk 5 hb_ rfl rfl rfl) : P := h
theorem qz305 {P : Prop} (h : P := by rw [ha.out]; exact putSel_upk 6 hb_ rfl rfl rfl) : P := h
theorem qz306 {P : Prop} (h : P := by rw [ha.out]; exact putSel_upk 7 hb_ rfl rfl rfl) : P := h
theorem qz308 {P : Prop} (h : P := by rw [ha.out]; exact putSel_upk 8 hb_ rfl rfl rfl) : P := h
theorem qz309 {P : Prop} (h : P := by rw [ha.out]; exact putSel_upk 9 hb_ rfl rfl rfl) : P := h
theorem qz310 {P : Prop} (h : P := by rw [ha.out]; exact putSel_upk 10 hb_ rfl rfl rfl) : P := h
theorem qz311 {P : Prop} (h : P := by rw [ha.out]; exact putSel_none (v := undef) rfl) : P := h
theorem qz312 {P : Prop} (h : P := by rw [ha.out]; exact putSel_upk 11 hb_ rfl rfl rfl) : P := h
theorem qz313 {Q0 P : Prop} (q0 : Q0) (h : Q0 → P := by intro q0; repeat (first | (with_reducible first | exact q0 | apply IsS213.alloc | apply IsS213.drewN | apply IsS213.drew | apply IsS213.set_1 | apply IsS213.set_2) | exact q0)) : P := h q0
theorem qz314 {Q0 P : Prop} (q0 : Q0) (h : Q0 → P := by intro q0; repeat (first | (with_reducible first | exact HB.out | apply below_alloc | apply pw_below_drewN | apply below_drew1 | refine below_set ?_ (IsS213.ge q0)) | exact HB.out)) : P := h q0
theorem qz324 {Q0 P : Prop} (q0 : Q0) (h : Q0 → P := by intro q0; rw [hg]; exact Nat.ne_of_lt (blk_lt (g := gb101) (o := .cells #[.slice none 0 0, .slice none 0 0, .int .i64 0, .int .i64 0, .int .i64 0, .int .i64 0, .int .i64 0] 102 (0, 0)) (qz8 q0))) : P := h q0
theorem qz325 {Q0 P : Prop} (q0 : Q0) (h : Q0 → P := by intro q0; rw [hg]; exact Nat.ne_of_gt (blk_lt (g := gb101) (o := .cells #[.slice none 0 0, .slice none 0 0, .int .i64 0, .int .i64 0, .int .i64 0, .int .i64 0, .int .i64 0] 102 (0, 0)) (qz8 q0))) : P := h q0
theorem qz326 {Q0 Q1 Q2 P : Prop} (q0 : Q0) (q1 : Q1) (q2 : Q2) (h : Q0 → Q1 → Q2 → P := by intro q0 q1 q2; rw [hg]; exact (below_size (qz296 q0 q1 q2))) : P := h q0 q1 q2
theorem qz327 {Q0 Q1 P : Prop} (q0 : Q0) (q1 : Q1) (h : Q0 → Q1 → P := by intro q0 q1; (with_reducible repeat (first | apply Kd.R_alloc | apply Kd.R_drewN | apply Kd.R_drew)); exact Kd.R_mono (Kd.R_far (p := ⟨gb120, 6, none⟩) (Kd.R_far (p := ⟨gb120, 5, none⟩) (Kd.R_far (p := ⟨gb120, 4, none⟩) (Kd.R_far (p := ⟨gb120, 3, none⟩) (Kd.R_far (p := ⟨gb120, 2, none⟩) (Kd.R_far (p := ⟨gb120, 1, none⟩) (Kd.R_far (p := ⟨gb120, 0, none⟩) (Kd.R_types q0 q1 (by decide)) (fun _ hk => hk.2) (.slice Ao10 t107.length co10)) (fun _ hk => hk.2) (.slice Ao15 t110.length co15)) (fun _ hk => hk.2) (.int .i64 t113)) (fun _ hk => hk.2) (.int .i64 t114)) (fun _ hk => hk.2) (.int .i64 t115)) (fun _ hk => hk.2) (.int .i64 t116)) (fun _ hk => hk.2) (.int .i64 t117)) (fun _ hk => hk.1)) : P := h q0 q1
theorem qz328 {Q0 Q1 P : Prop} (q0 : Q0) (q1 : Q1) (h : Q0 → Q1 → P := by intro q0 q1; (with_reducible repeat (first | refine blk_drewN ?_ _ | refine blk_drew ?_ | refine blk_alloc ?_ _)); refine blk_far ?_ q0 _; (with_reducible repeat (first | refine blk_drewN ?_ _ | refine blk_drew ?_ | refine blk_alloc ?_ _)); refine blk_far ?_ q0 _; (with_reducible repeat (first | refine blk_drewN ?_ _ | refine blk_drew ?_ | refine blk_alloc ?_ _)); refine blk_far ?_ q0 _; (with_reducible repeat (first | refine blk_drewN ?_ _ | refine blk_drew ?_ | refine blk_alloc ?_ _)); refine blk_far ?_ q0 _; (with_reducible repeat (first | refine blk_drewN ?_ _ | refine blk_drew ?_ | refine blk_alloc ?_ _)); refine blk_far ?_ q0 _; (with_reducible repeat (first | refine blk_drewN ?_ _ | refine blk_drew ?_ | refine blk_alloc ?_ _)); refine blk_far ?_ q0 _; (with_reducible repeat (first | refine blk_drewN ?_ _ | refine blk_drew ?_ | refine blk_alloc ?_ _)); refine blk_far ?_ q0 _; (with_reducible repeat (first | refine blk_drewN ?_ _ | refine blk_drew ?_ | refine blk_alloc ?_ _)); exact q1) : P := h q0 q1
theorem qz329 {Q0 Q1 Q2 Q3 P : Prop} (q0 : Q0) (q1 : Q1) (q2 : Q2) (q3 : Q3) (h : Q0 → Q1 → Q2 → Q3 → P := by intro q0 q1 q2 q3; repeat (first | (with_reducible first | exact q0 | apply IsS213.alloc | apply IsS213.drewN | apply IsS213.drew | apply IsS213.set_1 | apply IsS213.set_2 | refine IsS213.far ?_ q1 _ | refine IsS213.far ?_ q2 _ | refine IsS213.far ?_ q3 _) | exact q0)) : P := h q0 q1 q2 q3
theorem qz330 {Q0 Q1 Q2 Q3 P : Prop} (q0 : Q0) (q1 : Q1) (q2 : Q2) (q3 : Q3) (h : Q0 → Q1 → Q2 → Q3 → P := by intro q0 q1 q2 q3; repeat (first | (with_reducible first | exact HB.out | apply below_alloc | apply pw_below_drewN | apply below_drew1 | refine below_set ?_ (IsS213.ge q0) | refine below_set ?_ q1 | refine below_set ?_ q2 | refine below_set ?_ q3) | exact HB.out)) : P := h q0 q1 q2 q3
theorem qz331 {Q0 Q1 Q2 P : Prop} (q0 : Q0) (q1 : Q1) (q2 : Q2) (h : Q0 → Q1 → Q2 → P := by intro q0 q1 q2; (with_reducible repeat (first | apply Kd.R_alloc | apply Kd.R_drewN | apply Kd.R_drew)); exact Kd.R_mono (Kd.R_far (p := ⟨gb102, 3, none⟩) (Kd.R_far (p := ⟨gb102, 2, none⟩) (Kd.R_far (p := ⟨gb102, 1, none⟩) (Kd.R_far (p := ⟨gb102, 0, none⟩) (Kd.R_far (p := ⟨gb101, 6, none⟩) (Kd.R_far (p := ⟨gb101, 5, none⟩) (Kd.R_far (p := ⟨gb101, 4, none⟩) (Kd.R_far (p := ⟨gb101, 3, none⟩) (Kd.R_far (p := ⟨gb101, 2, none⟩) (Kd.R_far (p := ⟨gb101, 1, none⟩) (Kd.R_far (p := ⟨gb101, 0, none⟩) (Kd.R_types (Kd.R_types q0 q1 (by decide)) q2 (by decide)) (fun _ hk => hk.1.2) (.slice Ao10 t107.length co10)) (fun _ hk => hk.1.2) (.slice Ao15 t110.length co15)) (fun _ hk => hk.1.2) (.int .i64 t113)) (fun _ hk => hk.1.2) (.int .i64 t114)) (fun _ hk => hk.1.2) (.int .i64 t115)) (fun _ hk => hk.1.2) (.int .i64 t116)) (fun _ hk => hk.1.2) (.int .i64 t117)) (fun _ hk => hk.2) (.int .i64 t121)) (fun _ hk => hk.2) (.int .i64 t122)) (fun _ hk => hk.2) (.int .i64 t123)) (fun _ hk => hk.2) (.int .i64 t124)) (fun _ hk => hk.1.1)) : P := h q0 q1 q2
theorem qz339 {P : Prop} (h : P := by (try simp only [List.map_toArray, List.map_cons, List.map_nil]); first | done | (simp only [hji39, hji42]; rfl) | rfl | (simp only [List.length_drop, List.length_take]; rfl)) : P := h
theorem qz340 {Q0 P : Prop} (q0 : Q0) (h : Q0 → P := by intro q0; first | exact Kd.own_blk (Kd.R_ne HO_6.out q0 (by decide)) | (rw [add_block]; exact Kd.own_blk (Kd.R_ne HO_6.out q0 (by decide))) | (show (Addr.add _ _).block ≠ _; rw [add_block]; exact Kd.own_blk (Kd.R_ne HO_6.out q0 (by decide))) | (dsimp only; exact Kd.own_blk (Kd.R_ne HO_6.out q0 (by decide)))) : P := h q0
theorem qz341 {Q0 P : Prop} (q0 : Q0) (h : Q0 → P := by intro q0; (with_reducible repeat (first | apply Kd.R_alloc | apply Kd.R_drewN | apply Kd.R_drew)); exact (Kd.R_mono (Kd.R_far (p := ⟨gb130, 1, none⟩) (Kd.R_far (p := ⟨gb130, 0, none⟩) (Kd.R_types HO_6.out q0 (by decide)) (fun _ hk => hk.2) (.int .i64 t127)) (fun _ hk => hk.2) (.int .u64 t128)) (fun _ h_ => h_.1))) : P := h q0
theorem qz342 {P : Prop} (h : P := by first | rfl | (simp [errW_none, errW_some] <;> rfl) | (simp only [← hji39, ← hji42]; first | rfl | (simp [errW_none, errW_some] <;> rfl)) | (simp [*, errW_none, errW_some] <;> rfl)) : P := h
theorem qz399 {Q0 P : Prop} (q0 : Q0) (h : Q0 → P := by intro q0; rw [hg]; exact Nat.ne_of_lt (blk_lt (g := gb101) (o := .cells #[.int .i64 a0_0, .int .u64 a0_1] 234 (0, 0)) (qz8 q0))) : P := h q0
theorem qz400 {Q0 P : Prop} (q0 : Q0) (h : Q0 → P := by intro q0; rw [hg]; exact Nat.ne_of_gt (blk_lt (g := gb101) (o := .cells #[.int .i64 a0_0, .int .u64 a0_1] 234 (0, 0)) (qz8 q0))) : P := h q0
theorem qz401 {Q0 P : Prop} (q0 : Q0) (h : Q0 → P := by intro q0; rw [hg]; exact Nat.ne_of_lt (blk_lt (g := gb102) (o := .cells #[.int .i64 a1_0, .int .u64 a1_1] 234 (0, 0)) (qz8 q0))) : P := h q0
theorem qz402 {Q0 P : Prop} (q0 : Q0) (h : Q0 → P := by intro q0; rw [hg]; exact Nat.ne_of_gt (blk_lt (g := gb102) (o := .cells #[.int .i64 a1_0, .int .u64 a1_1] 234 (0, 0)) (qz8 q0))) : P := h q0
theorem qz407 {Q0 P : Prop} (q0 : Q0) (h : Q0 → P := by intro q0; (with_reducible repeat (first | refine blk_drewN ?_ _ | refine blk_drew ?_ | refine blk_alloc ?_ _)); refine blk_put (cs := #[.int .i64 t103, .int .u64 0]) ?_ 1 _ rfl; (with_reducible repeat (first | refine blk_drewN ?_ _ | refine blk_drew ?_ | refine blk_alloc ?_ _)); refine blk_put (cs := #[.int .i64 0, .int .u64 0]) ?_ 0 _ rfl; (with_reducible repeat (first | refine blk_drewN ?_ _ | refine blk_drew ?_ | refine blk_alloc ?_ _)); exact q0) : P := h q0
theorem qz408 {P : Prop} (h : P := by repeat (first | (with_reducible first | exact HK.out | apply KeepBut.set_ | apply keep_drewN | apply keep_drew | apply keep_alloc) | exact HK.out)) : P := h
theorem qz409 {P : Prop} (h : P := by repeat (first | (with_reducible first | exact (Q_HI0_e9 h0_ h1_) | apply IsS213.alloc | apply IsS213.drewN | apply IsS213.drew | apply IsS213.set_1 | apply IsS213.set_2) | exact (Q_HI0_e9 h0_ h1_))) : P := h
theorem qz410 {P : Prop} (h : P := by (with_reducible repeat (first | apply Kd.R_alloc | apply Kd.R_drewN | apply Kd.R_drew)); exact (Q_HO125 h0_)) : P := h
theorem qz411 {P : Prop} (h : P := by repeat (first | (with_reducible first | exact (Q_HI0_e12 h0_) | apply IsS213.alloc | apply IsS213.drewN | apply IsS213.drew | apply IsS213.set_1 | apply IsS213.set_2) | exact (Q_HI0_e12 h0_))) : P := h
theorem qz412 {P : Prop} (h : P := by first | (simp only [List.map_toArray, List.map_cons, List.map_nil, Act.eval, Array.getD_eq_getD_getElem?, Option.getD_some, e20]; done) | (simp only [List.map_toArray, List.map_cons, List.map_nil, Act.eval, Array.getD_eq_getD_getElem?, Option.getD_some, e20]; rfl)) : P := h
theorem qz413 {P : Prop} (h : P := by (with_reducible repeat (first | apply Kd.R_alloc | apply Kd.R_drewN | apply Kd.R_drew)); exact (Q_HO115 h0_)) : P := h
theorem qz414 {P : Prop} (h : P := by rw [hg]; exact (keep_size (w := w) (g := g) (row := none) qz408)) : P := h
theorem qz415 {Q0 P : Prop} (q0 : Q0) (h : Q0 → P := by intro q0; rw [hg]; exact Nat.ne_of_lt (IsS213.lt (show IsS213 w0 _ g s0_0 s0_1 s0_2 from by repeat (first | (with_reducible first | exact q0 | apply IsS213.alloc | apply IsS213.drewN | apply IsS213.drew | apply IsS213.set_1 | apply IsS213.set_2) | exact q0)))) : P := h q0
theorem qz416 {Q0 P : Prop} (q0 : Q0) (h : Q0 → P := by intro q0; rw [hg]; exact Nat.ne_of_gt (IsS213.lt (show IsS213 w0 _ g s0_0 s0_1 s0_2 from by repeat (first | (with_reducible first | exact q0 | apply IsS213.alloc | apply IsS213.drewN | apply IsS213.drew | apply IsS213.set_1 | apply IsS213.set_2) | exact q0)))) : P := h q0
theorem qz417 {Q0 P : Prop} (q0 : Q0) (h : Q0 → P := by intro q0; repeat (first | (with_reducible first | exact HK.out | apply KeepBut.set_ | apply keep_drewN | apply keep_drew | apply keep_alloc | refine keep_far ?_ q0 _) | exact HK.out)) : P := h q0
theorem qz418 {Q0 P : Prop} (q0 : Q0) (h : Q0 → P := by intro q0; rw [hg]; exact (keep_size (w := w) (g := g) (row := none) (qz417 q0))) : P := h q0
theorem qz421 {Q0 Q1 P : Prop} (q0 : Q0) (q1 : Q1) (h : Q0 → Q1 → P := by intro q0 q1; repeat (first | (with_reducible first | exact HK.out | apply KeepBut.set_ | apply keep_drewN | apply keep_drew | apply keep_alloc | refine keep_far ?_ q0 _ | refine keep_far ?_ q1 _) | exact HK.out)) : P := h q0 q1
theorem qz433 {Q0 P : Prop} (q0 : Q0) (h : Q0 → P := by intro q0; rw [hg]; exact Nat.ne_of_lt (blk_lt (g := gb101) (o := .cells #[.int .i64 0, .int .i64 0, .int .i64 0, .int .i64 0] 75 (0, 0)) (qz8 q0))) : P := h q0
theorem qz434 {Q0 P : Prop} (q0 : Q0) (h : Q0 → P := by intro q0; rw [hg]; exact Nat.ne_of_gt (blk_lt (g := gb101) (o := .cells #[.int .i64 0, .int .i64 0, .int .i64 0, .int .i64 0] 75 (0, 0)) (qz8 q0))) : P := h q0
theorem qz435 {Q0 Q1 P : Prop} (q0 : Q0) (q1 : Q1) (h : Q0 → Q1 → P := by intro q0 q1; rw [hg]; exact Nat.ne_of_lt (IsS213.lt (show IsS213 w0 _ g s0_0 t106 t107 from by repeat (first | (with_reducible first | exact q0 | apply IsS213.alloc | apply IsS213.drewN | apply IsS213.drew | apply IsS213.set_1 | apply IsS213.set_2 | refine IsS213.far ?_ q1 _) | exact q0)))) : P := h q0 q1
theorem qz436 {Q0 Q1 P : Prop} (q0 : Q0) (q1 : Q1) (h : Q0 → Q1 → P := by intro q0 q1; rw [hg]; exact Nat.ne_of_gt (IsS213.lt (show IsS213 w0 _ g s0_0 t106 t107 from by repeat (first | (with_reducible first | exact q0 | apply IsS213.alloc | apply IsS213.drewN | apply IsS213.drew | apply IsS213.set_1 | apply IsS213.set_2 | refine IsS213.far ?_ q1 _) | exact q0)))) : P := h q0 q1
theorem qz437 {Q0 P : Prop} (q0 : Q0) (h : Q0 → P := by intro q0; (with_reducible repeat (first | refine blk_drewN ?_ _ | refine blk_drew ?_ | refine blk_alloc ?_ _)); refine blk_put (cs := #[.int .i64 t102, .int .i64 t103, .int .i64 t104, .int .i64 0]) ?_ 3 _ rfl; (with_reducible repeat (first | refine blk_drewN ?_ _ | refine blk_drew ?_ | refine blk_alloc ?_ _)); refine blk_put (cs := #[.int .i64 t102, .int .i64 t103, .int .i64 0, .int .i64 0]) ?_ 2 _ rfl; (with_reducible repeat (first | refine blk_drewN ?_ _ | refine blk_drew ?_ | refine blk_alloc ?_ _)); refine blk_put (cs := #[.int .i64 t102, .int .i64 0, .int .i64 0, .int .i64 0]) ?_ 1 _ rfl; (with_reducible repeat (first | refine blk_drewN ?_ _ | refine blk_drew ?_ | refine blk_alloc ?_ _)); refine blk_put (cs := #[.int .i64 0, .int .i64 0, .int .i64 0, .int .i64 0]) ?_ 0 _ rfl; (with_reducible repeat (first | refine blk_drewN ?_ _ | refine blk_drew ?_ | refine blk_alloc ?_ _)); exact q0) : P := h q0
theorem qz438 {P : Prop} (h : P := by exact (keep_size (w := w) (g := g) (row := none) qz408)) : P := h
theorem qz439 {Q0 P : Prop} (q0 : Q0) (h : Q0 → P := by intro q0; have h_ : (t115 : Int) < ((t101.length : Int) : Int) := of_decide_eq_true qz4; first | exact h_ | (have e_ := (Kd.R_reads' q0).1; omega) | simpa using h_) : P := h q0
theorem qz440 {Q0 P : Prop} (q0 : Q0) (h : Q0 → P := by intro q0; rw [hw]; exact below_set (HB.out) (Nat.le_trans HL.out q0)) : P := h q0
theorem qz441 {Q0 P : Prop} (q0 : Q0) (h : Q0 → P := by intro q0; have h_ : (t129 : Int) < ((t101.length : Int) : Int) := of_decide_eq_true qz4; first | exact h_ | (have e_ := (Kd.R_reads' q0).1; omega) | simpa using h_) : P := h q0
theorem qz456 {Q0 Q1 P : Prop} (q0 : Q0) (q1 : Q1) (h : Q0 → Q1 → P := by intro q0 q1; rw [hg]; exact Nat.ne_of_lt (IsS213.lt (show IsS213 w0 _ g s0_0 t113 t114 from by repeat (first | (with_reducible first | exact q0 | apply IsS213.alloc | apply IsS213.drewN | apply IsS213.drew | apply IsS213.set_1 | apply IsS213.set_2 | refine IsS213.far ?_ q1 _) | exact q0)))) : P := h q0 q1
theorem qz457 {Q0 Q1 P : Prop} (q0 : Q0) (q1 : Q1) (h : Q0 → Q1 → P := by intro q0 q1; rw [hg]; exact Nat.ne_of_gt (IsS213.lt (show IsS213 w0 _ g s0_0 t113 t114 from by repeat (first | (with_reducible first | exact q0 | apply IsS213.alloc | apply IsS213.drewN | apply IsS213.drew | apply IsS213.set_1 | apply IsS213.set_2 | refine IsS213.far ?_ q1 _) | exact q0)))) : P := h q0 q1
theorem qz458 {Q0 Q1 P : Prop} (q0 : Q0) (q1 : Q1) (h : Q0 → Q1 → P := by intro q0 q1; (with_reducible repeat (first | apply Kd.R_alloc | apply Kd.R_drewN | apply Kd.R_drew)); exact (Kd.R_mono (Kd.R_far (p := ⟨gb115, 6, none⟩) (Kd.R_far (p := ⟨gb115, 5, none⟩) (Kd.R_far (p := ⟨gb115, 4, none⟩) (Kd.R_far (p := ⟨gb115, 3, none⟩) (Kd.R_far (p := ⟨gb115, 2, none⟩) (Kd.R_far (p := ⟨gb115, 1, none⟩) (Kd.R_far (p := ⟨gb115, 0, none⟩) (Kd.R_types q0 q1 (by decide)) (fun _ hk => hk.2) (.slice Ao9 t102.length co9)) (fun _ hk => hk.2) (.slice Ao13 t105.length co13)) (fun _ hk => hk.2) (.int .i64 t108)) (fun _ hk => hk.2) (.int .i64 t109)) (fun _ hk => hk.2) (.int .i64 t110)) (fun _ hk => hk.2) (.int .i64 t111)) (fun _ hk => hk.2) (.int .i64 t112)) (fun _ h_ => h_.1))) : P := h q0 q1
theorem qz459 {Q0 Q1 Q2 P : Prop} (q0 : Q0) (q1 : Q1) (q2 : Q2) (h : Q0 → Q1 → Q2 → P := by intro q0 q1 q2; (with_reducible repeat (first | apply Kd.R_alloc | apply Kd.R_drewN | apply Kd.R_drew)); exact Kd.R_mono (Kd.R_far (p := ⟨gb101, 6, none⟩) (Kd.R_far (p := ⟨gb101, 5, none⟩) (Kd.R_far (p := ⟨gb101, 4, none⟩) (Kd.R_far (p := ⟨gb101, 3, none⟩) (Kd.R_far (p := ⟨gb101, 2, none⟩) (Kd.R_far (p := ⟨gb101, 1, none⟩) (Kd.R_far (p := ⟨gb101, 0, none⟩) (Kd.R_far (p := ⟨gb115, 0, none⟩) (Kd.R_types (Kd.R_types q0 q1 (by decide)) q2 (by decide)) (fun _ hk => hk.1.2) (.slice Ao16 t119.length co16)) (fun _ hk => hk.2) (.slice Ao16 t119.length co16)) (fun _ hk => hk.2) (.slice Ao13 t105.length co13)) (fun _ hk => hk.2) (.int .i64 t108)) (fun _ hk => hk.2) (.int .i64 t109)) (fun _ hk => hk.2) (.int .i64 t110)) (fun _ hk => hk.2) (.int .i64 t111)) (fun _ hk => hk.2) (.int .i64 t112)) (fun _ hk => hk.1.1.2)) : P := h q0 q1 q2
theorem qz460 {Q0 Q1 P : Prop} (q0 : Q0) (q1 : Q1) (h : Q0 → Q1 → P := by intro q0 q1; (with_reducible repeat (first | apply Kd.R_alloc | apply Kd.R_drewN | apply Kd.R_drew)); exact (Kd.R_mono (Kd.R_far (p := ⟨gb115, 6, none⟩) (Kd.R_far (p := ⟨gb115, 5, none⟩) (Kd.R_far (p := ⟨gb115, 4, none⟩) (Kd.R_far (p := ⟨gb115, 3, none⟩) (Kd.R_far (p := ⟨gb115, 2, none⟩) (Kd.R_far (p := ⟨gb115, 1, none⟩) (Kd.R_far (p := ⟨gb115, 0, none⟩) (Kd.R_types q0 q1 (by decide)) (fun _ hk => hk.2) (.slice Ao24 t102.length co24)) (fun _ hk => hk.2) (.slice Ao28 t105.length co28)) (fun _ hk => hk.2) (.int .i64 t108)) (fun _ hk => hk.2) (.int .i64 t109)) (fun _ hk => hk.2) (.int .i64 t110)) (fun _ hk => hk.2) (.int .i64 t111)) (fun _ hk => hk.2) (.int .i64 t112)) (fun _ h_ => h_.1))) : P := h q0 q1
theorem qz461 {Q0 Q1 P : Prop} (q0 : Q0) (q1 : Q1) (h : Q0 → Q1 → P := by intro q0 q1; (with_reducible repeat (first | apply Kd.R_alloc | apply Kd.R_drewN | apply Kd.R_drew)); exact (Kd.R_mono (Kd.R_far (p := ⟨gb115, 6, none⟩) (Kd.R_far (p := ⟨gb115, 5, none⟩) (Kd.R_far (p := ⟨gb115, 4, none⟩) (Kd.R_far (p := ⟨gb115, 3, none⟩) (Kd.R_far (p := ⟨gb115, 2, none⟩) (Kd.R_far (p := ⟨gb115, 1, none⟩) (Kd.R_far (p := ⟨gb115, 0, none⟩) (Kd.R_types q0 q1 (by decide)) (fun _ hk => hk.2) (.slice Ao38 t102.length co38)) (fun _ hk => hk.2) (.slice Ao42 t105.length co42)) (fun _ hk => hk.2) (.int .i64 t108)) (fun _ hk => hk.2) (.int .i64 t109)) (fun _ hk => hk.2) (.int .i64 t110)) (fun _ hk => hk.2) (.int .i64 t111)) (fun _ hk => hk.2) (.int .i64 t112)) (fun _ h_ => h_.1))) : P := h q0 q1
theorem qz462 {Q0 Q1 Q2 P : Prop} (q0 : Q0) (q1 : Q1) (q2 : Q2) (h : Q0 → Q1 → Q2 → P := by intro q0 q1 q2; (with_reducible repeat (first | apply Kd.R_alloc | apply Kd.R_drewN | apply Kd.R_drew)); exact Kd.R_mono (Kd.R_far (p := ⟨gb101, 6, none⟩) (Kd.R_far (p := ⟨gb101, 5, none⟩) (Kd.R_far (p := ⟨gb101, 4, none⟩) (Kd.R_far (p := ⟨gb101, 3, none⟩) (Kd.R_far (p := ⟨gb101, 2, none⟩) (Kd.R_far (p := ⟨gb101, 1, none⟩) (Kd.R_far (p := ⟨gb101, 0, none⟩) (Kd.R_far (p := ⟨gb115, 4, none⟩) (Kd.R_far (p := ⟨gb115, 3, none⟩) (Kd.R_far (p := ⟨gb115, 2, none⟩) (Kd.R_types (Kd.R_types q0 q1 (by decide)) q2 (by decide)) (fun _ hk => hk.1.2) (.int .i64 t124)) (fun _ hk => hk.1.2) (.int .i64 t125)) (fun _ hk => hk.1.2) (.int .i64 t126)) (fun _ hk => hk.2) (.slice Ao38 t102.length co38)) (fun _ hk => hk.2) (.slice Ao42 t105.length co42)) (fun _ hk => hk.2) (.int .i64 t124)) (fun _ hk => hk.2) (.int .i64 t125)) (fun _ hk => hk.2) (.int .i64 t126)) (fun _ hk => hk.2) (.int .i64 t111)) (fun _ hk => hk.2) (.int .i64 t112)) (fun _ hk => hk.1.1)) : P := h q0 q1 q2
theorem qz463 {Q0 Q1 P : Prop} (q0 : Q0) (q1 : Q1) (h : Q0 → Q1 → P := by intro q0 q1; (with_reducible repeat (first | apply Kd.R_alloc | apply Kd.R_drewN | apply Kd.R_drew)); exact (Kd.R_mono (Kd.R_far (p := ⟨gb115, 6, none⟩) (Kd.R_far (p := ⟨gb115, 5, none⟩) (Kd.R_far (p := ⟨gb115, 4, none⟩) (Kd.R_far (p := ⟨gb115, 3, none⟩) (Kd.R_far (p := ⟨gb115, 2, none⟩) (Kd.R_far (p := ⟨gb115, 1, none⟩) (Kd.R_far (p := ⟨gb115, 0, none⟩) (Kd.R_types q0 q1 (by decide)) (fun _ hk => hk.2) (.slice Ao53 t102.length co53)) (fun _ hk => hk.2) (.slice Ao57 t105.length co57)) (fun _ hk => hk.2) (.int .i64 t108)) (fun _ hk => hk.2) (.int .i64 t109)) (fun _ hk => hk.2) (.int .i64 t110)) (fun _ hk => hk.2) (.int .i64 t111)) (fun _ hk => hk.2) (.int .i64 t112)) (fun _ h_ => h_.1))) : P := h q0 q1
theorem qz464 {Q0 Q1 Q2 P : Prop} (q0 : Q0) (q1 : Q1) (q2 : Q2) (h : Q0 → Q1 → Q2 → P := by intro q0 q1 q2; (with_reducible repeat (first | apply Kd.R_alloc | apply Kd.R_drewN | apply Kd.R_drew)); exact Kd.R_mono (Kd.R_far (p := ⟨gb101, 6, none⟩) (Kd.R_far (p := ⟨gb101, 5, none⟩) (Kd.R_far (p := ⟨gb101, 4, none⟩) (Kd.R_far (p := ⟨gb101, 3, none⟩) (Kd.R_far (p := ⟨gb101, 2, none⟩) (Kd.R_far (p := ⟨gb101, 1, none⟩) (Kd.R_far (p := ⟨gb101, 0, none⟩) (Kd.R_far (p := ⟨gb115, 6, none⟩) (Kd.R_far (p := ⟨gb115, 5, none⟩) (Kd.R_types (Kd.R_types q0 q1 (by decide)) q2 (by decide)) (fun _ hk => hk.1.2) (.int .i64 t129)) (fun _ hk => hk.1.2) (.int .i64 t130)) (fun _ hk => hk.2) (.slice Ao53 t102.length co53)) (fun _ hk => hk.2) (.slice Ao57 t105.length co57)) (fun _ hk => hk.2) (.int .i64 t108)) (fun _ hk => hk.2) (.int .i64 t109)) (fun _ hk => hk.2) (.int .i64 t110)) (fun _ hk => hk.2) (.int .i64 t129)) (fun _ hk => hk.2) (.int .i64 t130)) (fun _ hk => hk.1.1)) : P := h q0 q1 q2
theorem qz465 {Q0 Q1 P : Prop} (q0 : Q0) (q1 : Q1) (h : Q0 → Q1 → P := by intro q0 q1; (with_reducible repeat (first | apply Kd.R_alloc | apply Kd.R_drewN | apply Kd.R_drew)); exact (Kd.R_mono (Kd.R_far (p := ⟨gb115, 6, none⟩) (Kd.R_far (p := ⟨gb115, 5, none⟩) (Kd.R_far (p := ⟨gb115, 4, none⟩) (Kd.R_far (p := ⟨gb115, 3, none⟩) (Kd.R_far (p := ⟨gb115, 2, none⟩) (Kd.R_far (p := ⟨gb115, 1, none⟩) (Kd.R_far (p := ⟨gb115, 0, none⟩) (Kd.R_types q0 q1 (by decide)) (fun _ hk => hk.2) (.slice Ao66 t102.length co66)) (fun _ hk => hk.2) (.slice Ao70 t105.length co70)) (fun _ hk => hk.2) (.int .i64 t108)) (fun _ hk => hk.2) (.int .i64 t109)) (fun _ hk => hk.2) (.int .i64 t110)) (fun _ hk => hk.2) (.int .i64 t111)) (fun _ hk => hk.2) (.int .i64 t112)) (fun _ h_ => h_.1))) : P := h q0 q1
theorem qz466 {Q0 P : Prop} (q0 : Q0) (h : Q0 → P := by intro q0; (with_reducible repeat (first | refine blk_drewN ?_ _ | refine blk_drew ?_ | refine blk_alloc ?_ _)); refine blk_put (cs := #[.slice Ao66 t102.length co66, .slice Ao70 t105.length co70, .int .i64 t108, .int .i64 t109, .int .i64 t110, .int .i64 t111, .int .i64 0]) ?_ 6 _ rfl; (with_reducible repeat (first | refine blk_drewN ?_ _ | refine blk_drew ?_ | refine blk_alloc ?_ _)); refine blk_put (cs := #[.slice Ao66 t102.length co66, .slice Ao70 t105.length co70, .int .i64 t108, .int .i64 t109, .int .i64 t110, .int .i64 0, .int .i64 0]) ?_ 5 _ rfl; (with_reducible repeat (first | refine blk_drewN ?_ _ | refine blk_drew ?_ | refine blk_alloc ?_ _)); refine blk_put (cs := #[.slice Ao66 t102.length co66, .slice Ao70 t105.length co70, .int .i64 t108, .int .i64 t109, .int .i64 0, .int .i64 0, .int .i64 0]) ?_ 4 _ rfl; (with_reducible repeat (first | refine blk_drewN ?_ _ | refine blk_drew ?_ | refine blk_alloc ?_ _)); refine blk_put (cs := #[.slice Ao66 t102.length co66, .slice Ao70 t105.length co70, .int .i64 t108, .int .i64 0, .int .i64 0, .int .i64 0, .int .i64 0]) ?_ 3 _ rfl; (with_reducible repeat (first | refine blk_drewN ?_ _ | refine blk_drew ?_ | refine blk_alloc ?_ _)); refine blk_put (cs := #[.slice Ao66 t102.length co66, .slice Ao70 t105.length co70, .int .i64 0, .int .i64 0, .int .i64 0, .int .i64 0, .int .i64 0]) ?_ 2 _ rfl; (with_reducible repeat (first | refine blk_drewN ?_ _ | refine blk_drew ?_ | refine blk_alloc ?_ _)); refine blk_put (cs := #[.slice Ao66 t102.length co66, .slice none 0 0, .int .i64 0, .int .i64 0, .int .i64 0, .int .i64 0, .int .i64 0]) ?_ 1 _ rfl; (with_reducible repeat (first | refine blk_drewN ?_ _ | refine blk_drew ?_ | refine blk_alloc ?_ _)); refine blk_put (cs := #[.slice none 0 0, .slice none 0 0, .int .i64 0, .int .i64 0, .int .i64 0, .int .i64 0, .int .i64 0]) ?_ 0 _ rfl; (with_reducible repeat (first | refine blk_drewN ?_ _ | refine blk_drew ?_ | refine blk_alloc ?_ _)); exact q0) : P := h q0
theorem qz467 {Q0 Q1 P : Prop} (q0 : Q0) (q1 : Q1) (h : Q0 → Q1 → P := by intro q0 q1; (with_reducible repeat (first | apply Kd.R_alloc | apply Kd.R_drewN | apply Kd.R_drew)); exact Kd.R_mono (Kd.R_far (p := ⟨gb101, 6, none⟩) (Kd.R_far (p := ⟨gb101, 5, none⟩) (Kd.R_far (p := ⟨gb101, 4, none⟩) (Kd.R_far (p := ⟨gb101, 3, none⟩) (Kd.R_far (p := ⟨gb101, 2, none⟩) (Kd.R_far (p := ⟨gb101, 1, none⟩) (Kd.R_far (p := ⟨gb101, 0, none⟩) (Kd.R_types q0 q1 (by decide)) (fun _ hk => hk.2) (.slice Ao66 t102.length co66)) (fun _ hk => hk.2) (.slice Ao70 t105.length co70)) (fun _ hk => hk.2) (.int .i64 t108)) (fun _ hk => hk.2) (.int .i64 t109)) (fun _ hk => hk.2) (.int .i64 t110)) (fun _ hk => hk.2) (.int .i64 t111)) (fun _ hk => hk.2) (.int .i64 t112)) (fun _ hk => hk.1)) : P := h q0 q1
theorem qz468 {Q0 P : Prop} (q0 : Q0) (h : Q0 → P := by intro q0; rw [hg]; exact Nat.ne_of_lt (blk_lt (g := gb101) (o := .cells #[.int .i64 0, .int .i64 0, .int .i64 0] 100 (0, 0)) (qz8 q0))) : P := h q0
theorem qz469 {Q0 P : Prop} (q0 : Q0) (h : Q0 → P := by intro q0; rw [hg]; exact Nat.ne_of_gt (blk_lt (g := gb101) (o := .cells #[.int .i64 0, .int .i64 0, .int .i64 0] 100 (0, 0)) (qz8 q0))) : P := h q0
theorem qz470 {Q0 Q1 P : Prop} (q0 : Q0) (q1 : Q1) (h : Q0 → Q1 → P := by intro q0 q1; rw [hg]; exact Nat.ne_of_lt (IsS213.lt (show IsS213 w0 _ g s0_0 t105 t106 from by repeat (first | (with_reducible first | exact q0 | apply IsS213.alloc | apply IsS213.drewN | apply IsS213.drew | apply IsS213.set_1 | apply IsS213.set_2 | refine IsS213.far ?_ q1 _) | exact q0)))) : P := h q0 q1
theorem qz471 {Q0 Q1 P : Prop} (q0 : Q0) (q1 : Q1) (h : Q0 → Q1 → P := by intro q0 q1; rw [hg]; exact Nat.ne_of_gt (IsS213.lt (show IsS213 w0 _ g s0_0 t105 t106 from by repeat (first | (with_reducible first | exact q0 | apply IsS213.alloc | apply IsS213.drewN | apply IsS213.drew | apply IsS213.set_1 | apply IsS213.set_2 | refine IsS213.far ?_ q1 _) | exact q0)))) : P := h q0 q1
theorem qz472 {Q0 P : Prop} (q0 : Q0) (h : Q0 → P := by intro q0; (with_reducible repeat (first | refine blk_drewN ?_ _ | refine blk_drew ?_ | refine blk_alloc ?_ _)); refine blk_put (cs := #[.int .i64 t102, .int .i64 t103, .int .i64 0]) ?_ 2 _ rfl; (with_reducible repeat (first | refine blk_drewN ?_ _ | refine blk_drew ?_ | refine blk_alloc ?_ _)); refine blk_put (cs := #[.int .i64 t102, .int .i64 0, .int .i64 0]) ?_ 1 _ rfl; (with_reducible repeat (first | refine blk_drewN ?_ _ | refine blk_drew ?_ | refine blk_alloc ?_ _)); refine blk_put (cs := #[.int .i64 0, .int .i64 0, .int .i64 0]) ?_ 0 _ rfl; (with_reducible repeat (first | refine blk_drewN ?_ _ | refine blk_drew ?_ | refine blk_alloc ?_ _)); exact q0) : P := h q0
theorem qz473 {P : Prop} (h : P := by exact (Reps.one (show Kd.M (Kd.int .i64) _ _ _ t131 [.int .i64 t131] from rfl) (Reps.one (show Kd.M (Kd.int .i64) _ _ _ t103 [.int .i64 t103] from rfl) (Reps.one (show Kd.M (Kd.int .i64) _ _ _ (wrap64 (t103 + 1)) [.int .i64 (wrap64 (t103 + 1))] from rfl) (Reps.none _ _))))) : P := h
theorem qz523 {P : Prop} (h : P := by (with_reducible repeat (first | apply Kd.R_alloc | apply Kd.R_drewN | apply Kd.R_drew)); exact (Q_HO119 h0_)) : P := h
theorem qz524 {Q0 P : Prop} (q0 : Q0) (h : Q0 → P := by intro q0; (with_reducible repeat (first | refine blk_drewN ?_ _ | refine blk_drew ?_ | refine blk_alloc ?_ _)); refine blk_put (cs := #[.int .i64 t107, .int .i64 0]) ?_ 1 _ rfl; (with_reducible repeat (first | refine blk_drewN ?_ _ | refine blk_drew ?_ | refine blk_alloc ?_ _)); refine blk_put (cs := #[.int .i64 0, .int .i64 0]) ?_ 0 _ rfl; (with_reducible repeat (first | refine blk_drewN ?_ _ | refine blk_drew ?_ | refine blk_alloc ?_ _)); exact q0) : P := h q0
theorem qz525 {Q0 P : Prop} (q0 : Q0) (h : Q0 → P := by intro q0; exact (keep_size (w := w) (g := g) (row := none) (qz417 q0))) : P := h q0
theorem qz600 {Q0 Q1 P : Prop} (q0 : Q0) (q1 : Q1) (h : Q0 → Q1 → P := by intro q0 q1; (with_reducible repeat (first | apply Kd.R_alloc | apply Kd.R_drewN | apply Kd.R_drew)); exact (Kd.R_mono (Kd.R_far (p := ⟨gb116, 6, none⟩) (Kd.R_far (p := ⟨gb116, 5, none⟩) (Kd.R_far (p := ⟨gb116, 4, none⟩) (Kd.R_far (p := ⟨gb116, 3, none⟩) (Kd.R_far (p := ⟨gb116, 2, none⟩) (Kd.R_far (p := ⟨gb116, 1, none⟩) (Kd.R_far (p := ⟨gb116, 0, none⟩) (Kd.R_types q0 q1 (by decide)) (fun _ hk => hk.2) (.slice Ao13 y102.length co13)) (fun _ hk => hk.2) (.slice Ao12 y105.length co12)) (fun _ hk => hk.2) (.int .i64 t108)) (fun _ hk => hk.2) (.int .i64 t109)) (fun _ hk => hk.2) (.int .i64 t110)) (fun _ hk => hk.2) (.int .i64 (wrap64 (1 + t113)))) (fun _ hk => hk.2) (.int .i64 0)) (fun _ h_ => h_.1))) : P := h q0 q1
theorem qz601 {Q0 P : Prop} (q0 : Q0) (h : Q0 → P := by intro q0; (with_reducible repeat (first | refine blk_drewN ?_ _ | refine blk_drew ?_ | refine blk_alloc ?_ _)); refine blk_put (cs := #[.slice Ao13 y102.length co13, .slice Ao12 y105.length co12, .int .i64 t108, .int .i64 t109, .int .i64 t110, .int .i64 (wrap64 (1 + t113)), .int .i64 0]) ?_ 6 _ rfl; (with_reducible repeat (first | refine blk_drewN ?_ _ | refine blk_drew ?_ | refine blk_alloc ?_ _)); refine blk_put (cs := #[.slice Ao13 y102.length co13, .slice Ao12 y105.length co12, .int .i64 t108, .int .i64 t109, .int .i64 t110, .int .i64 0, .int .i64 0]) ?_ 5 _ rfl; (with_reducible repeat (first | refine blk_drewN ?_ _ | refine blk_drew ?_ | refine blk_alloc ?_ _)); refine blk_put (cs := #[.slice Ao13 y102.length co13, .slice Ao12 y105.length co12, .int .i64 t108, .int .i64 t109, .int .i64 0, .int .i64 0, .int .i64 0]) ?_ 4 _ rfl; (with_reducible repeat (first | refine blk_drewN ?_ _ | refine blk_drew ?_ | refine blk_alloc ?_ _)); refine blk_put (cs := #[.slice Ao13 y102.length co13, .slice Ao12 y105.length co12, .int .i64 t108, .int .i64 0, .int .i64 0, .int .i64 0, .int .i64 0]) ?_ 3 _ rfl; (with_reducible repeat (first | refine blk_drewN ?_ _ | refine blk_drew ?_ | refine blk_alloc ?_ _)); refine blk_put (cs := #[.slice Ao13 y102.length co13, .slice Ao12 y105.length co12, .int .i64 0, .int .i64 0, .int .i64 0, .int .i64 0, .int .i64 0]) ?_ 2 _ rfl; (with_reducible repeat (first | refine blk_drewN ?_ _ | refine blk_drew ?_ | refine blk_alloc ?_ _)); refine blk_put (cs := #[.slice Ao13 y102.length co13, .slice none 0 0, .int .i64 0, .int .i64 0, .int .i64 0, .int .i64 0, .int .i64 0]) ?_ 1 _ rfl; (with_reducible repeat (first | refine blk_drewN ?_ _ | refine blk_drew ?_ | refine blk_alloc ?_ _)); refine blk_put (cs := #[.slice none 0 0, .slice none 0 0, .int .i64 0, .int .i64 0, .int .i64 0, .int .i64 0, .int .i64 0]) ?_ 0 _ rfl; (with_reducible repeat (first | refine blk_drewN ?_ _ | refine blk_drew ?_ | refine blk_alloc ?_ _)); exact q0) : P := h q0
theorem qz602 {Q0 Q1 P : Prop} (q0 : Q0) (q1 : Q1) (h : Q0 → Q1 → P := by intro q0 q1; (with_reducible repeat (first | apply Kd.R_alloc | apply Kd.R_drewN | apply Kd.R_drew)); exact Kd.R_mono (Kd.R_far (p := ⟨gb116, 6, none⟩) (Kd.R_types q0 q1 (by decide)) (fun _ hk => hk.2) (.int .i64 (wrap64 (1 + t117)))) (fun _ hk => hk.1.2)) : P := h q0 q1
theorem qz603 {Q0 Q1 P : Prop} (q0 : Q0) (q1 : Q1) (h : Q0 → Q1 → P := by intro q0 q1; (with_reducible repeat (first | apply Kd.R_alloc | apply Kd.R_drewN | apply Kd.R_drew)); exact Kd.R_mono (Kd.R_far (p := ⟨gb116, 6, none⟩) (Kd.R_far (p := ⟨gb116, 5, none⟩) (Kd.R_far (p := ⟨gb116, 4, none⟩) (Kd.R_far (p := ⟨gb116, 3, none⟩) (Kd.R_far (p := ⟨gb116, 2, none⟩) (Kd.R_far (p := ⟨gb116, 1, none⟩) (Kd.R_far (p := ⟨gb116, 0, none⟩) (Kd.R_types q0 q1 (by decide)) (fun _ hk => hk.2) (.slice Ao13 y102.length co13)) (fun _ hk => hk.2) (.slice Ao12 y105.length co12)) (fun _ hk => hk.2) (.int .i64 t108)) (fun _ hk => hk.2) (.int .i64 t109)) (fun _ hk => hk.2) (.int .i64 t110)) (fun _ hk => hk.2) (.int .i64 (wrap64 (1 + t113)))) (fun _ hk => hk.2) (.int .i64 0)) (fun _ hk => hk.1.2)) : P := h q0 q1
theorem qz604 {P : Prop} (h : P := by (with_reducible repeat (first | apply Kd.R_alloc | apply Kd.R_drewN | apply Kd.R_drew)); exact HO_117000.out) : P := h
theorem qz605 {P : Prop} (h : P := by (with_reducible repeat (first | apply Kd.R_alloc | apply Kd.R_drewN | apply Kd.R_drew)); exact HO_117001.out) : P := h
theorem qz612 {Q0 P : Prop} (q0 : Q0) (h : Q0 → P := by intro q0; (with_reducible repeat (first | refine blk_drewN ?_ _ | refine blk_drew ?_ | refine blk_alloc ?_ _)); refine blk_put (cs := #[.int .i64 (wrap64 (1 + t102)), .int .i64 x113001_6, .int .i64 0]) ?_ 2 _ rfl; (with_reducible repeat (first | refine blk_drewN ?_ _ | refine blk_drew ?_ | refine blk_alloc ?_ _)); exact q0) : P := h q0
theorem qz613 {Q0 P : Prop} (q0 : Q0) (h : Q0 → P := by intro q0; (with_reducible repeat (first | refine blk_drewN ?_ _ | refine blk_drew ?_ | refine blk_alloc ?_ _)); refine blk_put (cs := #[.int .i64 (wrap64 (1 + t102)), .int .i64 x113001_6, .int .i64 0]) ?_ 2 _ rfl; (with_reducible repeat (first | refine blk_drewN ?_ _ | refine blk_drew ?_ | refine blk_alloc ?_ _)); refine blk_put (cs := #[.int .i64 (wrap64 (1 + t102)), .int .i64 0, .int .i64 0]) ?_ 1 _ rfl; (with_reducible repeat (first | refine blk_drewN ?_ _ | refine blk_drew ?_ | refine blk_alloc ?_ _)); refine blk_put (cs := #[.int .i64 0, .int .i64 0, .int .i64 0]) ?_ 0 _ rfl; (with_reducible repeat (first | refine blk_drewN ?_ _ | refine blk_drew ?_ | refine blk_alloc ?_ _)); exact q0) : P := h q0
theorem qz614 {P : Prop} (h : P := by repeat (first | (with_reducible first | exact HBW.out | apply below_alloc | apply pw_below_drewN | apply below_drew1) | exact HBW.out)) : P := h
theorem qz615 {P : Prop} (h : P := by rw [hg]; exact (below_size qz614)) : P := h
theorem qz616 {Q0 P : Prop} (q0 : Q0) (h : Q0 → P := by intro q0; rw [hg]; exact Nat.ne_of_lt (blk_lt (g := gb101) (o := .cells #[.int .i64 0, .int .u64 0] 234 (0, 0)) (qz8 q0))) : P := h q0
theorem qz617 {Q0 P : Prop} (q0 : Q0) (h : Q0 → P := by intro q0; rw [hg]; exact Nat.ne_of_gt (blk_lt (g := gb101) (o := .cells #[.int .i64 0, .int .u64 0] 234 (0, 0)) (qz8 q0))) : P := h q0
end Go.Proofs.Ytjhfjnknajhanaa.P
namespace Go.Proofs.Ytjhfjnknajhanaa.P
open Go.RowKit Go.Proofs.YtjhfjnknajhanaaW.PrintWords Go.Proofs.YtjhfjnknajhanaaW.PrintLast Go.Proofs.YtjhfjnknajhanaaW.PrintMore
attribute [local go_sem] max2_int min2_int max_two min_two max_three min_three max_four min_four
set_option linter.unusedVariables false
set_option linter.unusedSimpArgs false
/-! ### impl_Tok_takes: function 245 -/
def impl_Tok_takes.f (a0_0 : Int) (a0_1 : Int) : Option (Int) := if a0_0 ≤ 3 then (some 0) else (if a0_0 = 11 then (some 1) else (some 2))
/-! ### impl_in: function 123 -/
def impl_in.f (a0 : Int) (a1 : Int) (a2 : Int) : Option (Bool) := if a1 ≤ a0 then (some (decide (a0 ≤ a2))) else (some false)
/-! ### impl_depth: function 244 -/
def impl_depth.l0 : Nat → Int → Int → List (S231) → Int → Int → Option (Int)
 | 0, _, _, _, _, _ => none
 | k + 1, x3, x4, x11, x12, x13 => if x13 < x12 then (if 0 ≤ x13 then (if x13 < (x11.length : Int) then ((impl_in.f ((rd_T231 x11 x13).f0) 0 11).bind fun t104 => (if t104 = true then (if ((rd_T231 x11 x13).f0) = 0 then ((impl_Tok_takes.f ((rd_T231 x11 x13).f0) ((rd_T231 x11 x13).f1)).bind fun t105 => (if x3 < t105 then (some (-1)) else ((impl_Tok_takes.f ((rd_T231 x11 x13).f0) ((rd_T231 x11 x13).f1)).bind fun t106 => (impl_depth.l0 k (wrap64 (x3 + (wrap64 (1 - t106)))) (mx x4 (wrap64 (x3 + (wrap64 (1 - t106))))) x11 x12 (wrap64 (x13 + 1)))))) else (if ((rd_T231 x11 x13).f1) = 0 then ((impl_Tok_takes.f ((rd_T231 x11 x13).f0) ((rd_T231 x11 x13).f1)).bind fun t107 => (if x3 < t107 then (some (-1)) else ((impl_Tok_takes.f ((rd_T231 x11 x13).f0) ((rd_T231 x11 x13).f1)).bind fun t108 => (impl_depth.l0 k (wrap64 (x3 + (wrap64 (1 - t108)))) (mx x4 (wrap64 (x3 + (wrap64 (1 - t108))))) x11 x12 (wrap64 (x13 + 1)))))) else (some (-1)))) else (some (-1)))) else (none)) else (none)) else (if x3 = 1 then (some x4) else (some (-1)))
def impl_depth.f (k : Nat) (l0 : List (S231)) : Option (Int) := (impl_in.f (l0.length : Int) 1 20).bind fun t101 => (if t101 = true then (impl_depth.l0 k 0 0 l0 (l0.length : Int) 0) else (some (-1)))
theorem impl_depth.mono_l : ∀ k, (∀ y0 y1 y2 y3 y4, LeO (impl_depth.l0 k y0 y1 y2 y3 y4) (impl_depth.l0 (k + 1) y0 y1 y2 y3 y4))
 | 0 => fun _ _ _ _ _ r h => by simp [impl_depth.l0] at h
 | k + 1 => by
  have ih0 := impl_depth.mono_l k
  ·intro y0 y1 y2 y3 y4
   unfold impl_depth.l0
   repeat' first
   | with_reducible first | apply ih0 | exact LeO.refl _ | exact LeO.none _ | refine LeO.ite ?_ ?_ | refine LeO.bind ?_ (fun _ => ?_)
   | apply ih0 | exact LeO.none _ | refine LeO.ite ?_ ?_ | refine LeO.bind ?_ (fun _ => ?_)
theorem impl_depth.mono : ∀ a0 k, LeO (impl_depth.f k a0) (impl_depth.f (k + 1) a0) := by
 intro a0 k
 have ih0 := impl_depth.mono_l k
 unfold impl_depth.f
 repeat' first
 | with_reducible first | apply ih0 | exact LeO.refl _ | exact LeO.none _ | refine LeO.ite ?_ ?_ | refine LeO.bind ?_ (fun _ => ?_)
 | apply ih0 | exact LeO.none _ | refine LeO.ite ?_ ?_ | refine LeO.bind ?_ (fun _ => ?_)
/-! ### impl_isExpr: function 168 -/
def impl_isExpr.f (k : Nat) (l0 : List (S231)) : Option (Bool) := (impl_depth.f k l0).bind fun t101 => (some (decide (t101 > 0)))
theorem impl_isExpr.mono : ∀ a0 k, LeO (impl_isExpr.f k a0) (impl_isExpr.f (k + 1) a0) := by
 intro a0 k
 unfold impl_isExpr.f
 repeat' first
 | with_reducible first | apply impl_depth.mono | exact LeO.refl _ | exact LeO.none _ | refine LeO.ite ?_ ?_ | refine LeO.bind ?_ (fun _ => ?_)
 | apply impl_depth.mono | exact LeO.none _ | refine LeO.ite ?_ ?_ | refine LeO.bind ?_ (fun _ => ?_)
/-! ### impl_Tok_push: function 246 -/
def impl_Tok_push.f (a0_0 : Int) (a0_1 : Int) (a1_0 : Int) (a1_1 : Int) (a1_2 : Int) (a1_3 : Int) : Option (Int) := if a0_0 = 1 then (some a1_1) else (if a0_0 = 2 then (some a1_2) else (if a0_0 = 3 then (some a1_3) else (some a0_1)))
/-! ### impl_added: function 284 -/
def impl_added.f (a0 : Int) (a1 : Int) : Option (Int × Bool) := some (wrap64 (a0 + a1), ((decide ((wrap64 (a0 + a1)) > a0)) == (decide (a1 > 0))))
/-! ### impl_minus: function 285 -/
def impl_minus.f (a0 : Int) (a1 : Int) : Option (Int × Bool) := some (wrap64 (a0 - a1), ((decide ((wrap64 (a0 - a1)) < a0)) == (decide (a1 > 0))))
/-! ### impl_times: function 286 -/
def impl_times.f (a0 : Int) (a1 : Int) : Option (Int × Bool) := if a0 = 0 then (some (0, true)) else (if a1 = 0 then (some (0, true)) else (if (wrap64 (Int.tdiv (wrap64 (a0 * a1)) a1)) = a0 then (if a0 = (-1) then (if (a1 = (-9223372036854775808)) then (some (wrap64 (a0 * a1), false)) else (if a1 = (-1) then (some (wrap64 (a0 * a1), !(a0 == (-9223372036854775808)))) else (some (wrap64 (a0 * a1), !false)))) else (if a1 = (-1) then (some (wrap64 (a0 * a1), !(a0 == (-9223372036854775808)))) else (some (wrap64 (a0 * a1), !false)))) else (some (wrap64 (a0 * a1), false))))
/-! ### impl_truth: function 247 -/
def impl_truth.f (a0 : Bool) : Option (Int) := if a0 = true then (some 1) else (some 0)
/-! ### impl_apply: function 248 -/
def impl_apply.j0 : Nat → Int → Int → Bool → Option (Int × Int)
 | 0, _, _, _ => none
 | k + 1, x1, x2, x9 => if x9 = true then (if x2 = 0 then (none) else (some (wrap64 (Int.tdiv x1 x2), 0))) else (some (0, 2))
def impl_apply.f (k : Nat) (a0 : Int) (a1 : Int) (a2 : Int) : Option (Int × Int) := if a0 = 4 then ((impl_added.f a1 a2).bind fun bt101 => (if bt101.2 = true then (some (bt101.1, 0)) else (some (0, 2)))) else (if a0 = 5 then ((impl_minus.f a1 a2).bind fun bt103 => (if bt103.2 = true then (some (bt103.1, 0)) else (some (0, 2)))) else (if a0 = 6 then ((impl_times.f a1 a2).bind fun bt105 => (if bt105.2 = true then (some (bt105.1, 0)) else (some (0, 2)))) else (if a0 = 7 then (if a2 = 0 then (some (0, 3)) else (if a1 = (-9223372036854775808) then (impl_apply.j0 k a1 a2 (a2 != (-1))) else (impl_apply.j0 k a1 a2 true))) else (if a0 = 8 then ((impl_truth.f (decide (a1 < a2))).bind fun t107 => (some (t107, 0))) else (if a0 = 9 then ((impl_truth.f (a1 == a2)).bind fun t108 => (some (t108, 0))) else (if a0 = 10 then (if a1 = 0 then ((impl_truth.f false).bind fun t109 => (some (t109, 0))) else ((impl_truth.f (a2 != 0)).bind fun t110 => (some (t110, 0)))) else (some (0, 0))))))))
theorem impl_apply.mono_l : ∀ k, (∀ y0 y1 y2, LeO (impl_apply.j0 k y0 y1 y2) (impl_apply.j0 (k + 1) y0 y1 y2))
 | 0 => fun _ _ _ r h => by simp [impl_apply.j0] at h
 | k + 1 => by
  have ih0 := impl_apply.mono_l k
  ·intro y0 y1 y2
   unfold impl_apply.j0
   repeat' first
   | with_reducible first | apply ih0 | exact LeO.refl _ | exact LeO.none _ | refine LeO.ite ?_ ?_ | refine LeO.bind ?_ (fun _ => ?_)
   | apply ih0 | exact LeO.none _ | refine LeO.ite ?_ ?_ | refine LeO.bind ?_ (fun _ => ?_)
theorem impl_apply.mono : ∀ a0 a1 a2 k, LeO (impl_apply.f k a0 a1 a2) (impl_apply.f (k + 1) a0 a1 a2) := by
 intro a0 a1 a2 k
 have ih0 := impl_apply.mono_l k
 unfold impl_apply.f
 repeat' first
 | with_reducible first | apply ih0 | exact LeO.refl _ | exact LeO.none _ | refine LeO.ite ?_ ?_ | refine LeO.bind ?_ (fun _ => ?_)
 | apply ih0 | exact LeO.none _ | refine LeO.ite ?_ ?_ | refine LeO.bind ?_ (fun _ => ?_)
/-! ### impl_run: function 169 -/
def impl_run.l0 : Nat → List Int → List (S231) → Int → Int → Int → Int → Int → Int → Option (Int × Int)
 | 0, _, _, _, _, _, _, _, _ => none
 | k + 1, x6, x13, x14, x15, x102000, x102001, x102002, x102003 => if x15 < x14 then (if 0 ≤ x15 then (if x15 < (x13.length : Int) then ((impl_Tok_takes.f ((rd_T231 x13 x15).f0) ((rd_T231 x13 x15).f1)).bind fun t108 => (if t108 = 0 then ((impl_Tok_push.f ((rd_T231 x13 x15).f0) ((rd_T231 x13 x15).f1) x102000 x102001 x102002 x102003).bind fun t109 => (if x6.length < 17592186044416 then (impl_run.l0 k (x6 ++ [t109]) x13 x14 (wrap64 (x15 + 1)) x102000 x102001 x102002 x102003) else (none))) else (if t108 = 1 then (if 0 ≤ (wrap64 ((x6.length : Int) - 1)) then (if (wrap64 ((x6.length : Int) - 1)) < (x6.length : Int) then ((impl_truth.f ((rd x6 (wrap64 ((x6.length : Int) - 1))) == 0)).bind fun t114 => (impl_run.l0 k (x6.set ((wrap64 ((x6.length : Int) - 1)) : Int).toNat t114) x13 x14 (wrap64 (x15 + 1)) x102000 x102001 x102002 x102003)) else (none)) else (none)) else (if 0 ≤ (wrap64 ((x6.length : Int) - 2)) then (if (wrap64 ((x6.length : Int) - 2)) < (x6.length : Int) then (if 0 ≤ (wrap64 ((x6.length : Int) - 1)) then (if (wrap64 ((x6.length : Int) - 1)) < (x6.length : Int) then ((impl_apply.f k ((rd_T231 x13 x15).f0) (rd x6 (wrap64 ((x6.length : Int) - 2))) (rd x6 (wrap64 ((x6.length : Int) - 1)))).bind fun bt118 => (if bt118.2 = 0 then (if (wrap64 ((x6.length : Int) - 2)) ≤ (x6.length : Int) then ((some (x6.take ((wrap64 ((x6.length : Int) - 2)) : Int).toNat : List Int)).bind fun y120 => (if y120.length < 17592186044416 then (impl_run.l0 k (y120 ++ [bt118.1]) x13 x14 (wrap64 (x15 + 1)) x102000 x102001 x102002 x102003) else (none))) else (none)) else (some (0, bt118.2)))) else (none)) else (none)) else (none)) else (none))))) else (none)) else (none)) else (if 0 < (x6.length : Int) then (some (rd x6 0, 0)) else (none))
def impl_run.f (k : Nat) (l0 : List (S231)) (a1_0 : Int) (a1_1 : Int) (a1_2 : Int) (a1_3 : Int) : Option (Int × Int) := impl_run.l0 k (([] : List Int)) l0 (l0.length : Int) 0 a1_0 a1_1 a1_2 a1_3
theorem impl_run.mono_l : ∀ k, (∀ y0 y1 y2 y3 y4 y5 y6 y7, LeO (impl_run.l0 k y0 y1 y2 y3 y4 y5 y6 y7) (impl_run.l0 (k + 1) y0 y1 y2 y3 y4 y5 y6 y7))
 | 0 => fun _ _ _ _ _ _ _ _ r h => by simp [impl_run.l0] at h
 | k + 1 => by
  have ih0 := impl_run.mono_l k
  ·intro y0 y1 y2 y3 y4 y5 y6 y7
   unfold impl_run.l0
   repeat' first
   | with_reducible first | apply ih0 | apply impl_apply.mono | exact LeO.refl _ | exact LeO.none _ | refine LeO.ite ?_ ?_ | refine LeO.bind ?_ (fun _ => ?_)
   | apply ih0 | apply impl_apply.mono | exact LeO.none _ | refine LeO.ite ?_ ?_ | refine LeO.bind ?_ (fun _ => ?_)
theorem impl_run.mono : ∀ a0 a1 a2 a3 a4 k, LeO (impl_run.f k a0 a1 a2 a3 a4) (impl_run.f (k + 1) a0 a1 a2 a3 a4) := by
 intro a0 a1 a2 a3 a4 k
 have ih0 := impl_run.mono_l k
 unfold impl_run.f
 repeat' first
 | with_reducible first | apply ih0 | apply impl_apply.mono | exact LeO.refl _ | exact LeO.none _ | refine LeO.ite ?_ ?_ | refine LeO.bind ?_ (fun _ => ?_)
 | apply ih0 | apply impl_apply.mono | exact LeO.none _ | refine LeO.ite ?_ ?_ | refine LeO.bind ?_ (fun _ => ?_)
/-! ### impl_ExprRun: function 72 -/
def impl_ExprRun.f (k : Nat) (l0 : List (S231)) (a1_0 : Int) (a1_1 : Int) (a1_2 : Int) (a1_3 : Int) : Option (Int × Int) := (impl_isExpr.f k l0).bind fun t102 => (if t102 = true then ((impl_run.f k l0 a1_0 a1_1 a1_2 a1_3).bind fun bt103 => (some (bt103.1, bt103.2))) else (some (0, 1)))
theorem impl_ExprRun.mono : ∀ a0 a1 a2 a3 a4 k, LeO (impl_ExprRun.f k a0 a1 a2 a3 a4) (impl_ExprRun.f (k + 1) a0 a1 a2 a3 a4) := by
 intro a0 a1 a2 a3 a4 k
 unfold impl_ExprRun.f
 repeat' first
 | with_reducible first | apply impl_isExpr.mono | apply impl_run.mono | exact LeO.refl _ | exact LeO.none _ | refine LeO.ite ?_ ?_ | refine LeO.bind ?_ (fun _ => ?_)
 | apply impl_isExpr.mono | apply impl_run.mono | exact LeO.none _ | refine LeO.ite ?_ ?_ | refine LeO.bind ?_ (fun _ => ?_)
/-! ### impl_isKey: function 145 -/
def impl_isKey.f (a0 : Int) : Option (Bool) := (impl_in.f a0 0 15).bind fun t101 => (some t101)
/-! ### impl_isSource: function 144 -/
def impl_isSource.f (a0 : Int) : Option (Bool) := (impl_in.f a0 0 3).bind fun t101 => (some t101)
/-! ### impl_isTime: function 229 -/
def impl_isTime.f (a0 : Int) : Option (Bool) := (impl_in.f a0 0 1000).bind fun t101 => (some t101)
/-! ### impl_isElem: function 162 -/
def impl_isElem.f (a0_0 : Int) (a0_1 : Int) (a0_2 : Int) (a0_3 : Int) : Option (Bool) := (impl_isSource.f a0_0).bind fun t102 => (if t102 = true then ((impl_isKey.f a0_1).bind fun t103 => (if t103 = true then ((impl_isTime.f a0_3).bind fun t104 => (some t104)) else (some false))) else (some false))
/-! ### impl_isAggKind: function 239 -/
def impl_isAggKind.f (a0 : Int) (a1 : Int) : Option (Bool) := if a0 = 6 then ((impl_in.f a1 1 4).bind fun t101 => (some t101)) else ((impl_in.f a0 1 5).bind fun t102 => (if t102 = true then (some (a1 == 0)) else (some false)))
/-! ### impl_isWinDef: function 238 -/
def impl_isWinDef.j0 : Nat → Int → Bool → Int → Int → Int → Option (Bool)
 | 0, _, _, _, _, _ => none
 | k + 1, x8, x9, x102000, x102001, x102002 => if x9 = true then (some (x102002 == 0)) else (if x8 = 2 then ((impl_in.f x102002 1 x102001).bind fun t103 => (if t103 = true then (some (decide (x102001 ≤ (wrap64 (8 * x102002))))) else (some false))) else (some false))
def impl_isWinDef.f (k : Nat) (a0_0 : Int) (a0_1 : Int) (a0_2 : Int) : Option (Bool) := (impl_in.f a0_1 1 100).bind fun t102 => (if t102 = true then (if a0_0 = 1 then (impl_isWinDef.j0 k a0_0 (a0_0 == 1) a0_0 a0_1 a0_2) else (impl_isWinDef.j0 k a0_0 (a0_0 == 3) a0_0 a0_1 a0_2)) else (some false))
theorem impl_isWinDef.mono_l : ∀ k, (∀ y0 y1 y2 y3 y4, LeO (impl_isWinDef.j0 k y0 y1 y2 y3 y4) (impl_isWinDef.j0 (k + 1) y0 y1 y2 y3 y4))
 | 0 => fun _ _ _ _ _ r h => by simp [impl_isWinDef.j0] at h
 | k + 1 => by
  have ih0 := impl_isWinDef.mono_l k
  ·intro y0 y1 y2 y3 y4
   unfold impl_isWinDef.j0
   repeat' first
   | with_reducible first | apply ih0 | exact LeO.refl _ | exact LeO.none _ | refine LeO.ite ?_ ?_ | refine LeO.bind ?_ (fun _ => ?_)
   | apply ih0 | exact LeO.none _ | refine LeO.ite ?_ ?_ | refine LeO.bind ?_ (fun _ => ?_)
theorem impl_isWinDef.mono : ∀ a0 a1 a2 k, LeO (impl_isWinDef.f k a0 a1 a2) (impl_isWinDef.f (k + 1) a0 a1 a2) := by
 intro a0 a1 a2 k
 have ih0 := impl_isWinDef.mono_l k
 unfold impl_isWinDef.f
 repeat' first
 | with_reducible first | apply ih0 | exact LeO.refl _ | exact LeO.none _ | refine LeO.ite ?_ ?_ | refine LeO.bind ?_ (fun _ => ?_)
 | apply ih0 | exact LeO.none _ | refine LeO.ite ?_ ?_ | refine LeO.bind ?_ (fun _ => ?_)
/-! ### impl_isQuery: function 161 -/
def impl_isQuery.f (k : Nat) (l0_0 : List (S231)) (l0_1 : List (S231)) (a0_2 : Int) (a0_3 : Int) (a0_4 : Int) (a0_5 : Int) (a0_6 : Int) : Option (Bool) := (impl_isExpr.f k l0_0).bind fun t102 => (if t102 = true then ((impl_isExpr.f k l0_1).bind fun t103 => (if t103 = true then ((impl_isWinDef.f k a0_2 a0_3 a0_4).bind fun t104 => (if t104 = true then ((impl_isAggKind.f a0_5 a0_6).bind fun t105 => (some t105)) else (some false))) else (some false))) else (some false))
theorem impl_isQuery.mono : ∀ a0 a1 a2 a3 a4 a5 a6 k, LeO (impl_isQuery.f k a0 a1 a2 a3 a4 a5 a6) (impl_isQuery.f (k + 1) a0 a1 a2 a3 a4 a5 a6) := by
 intro a0 a1 a2 a3 a4 a5 a6 k
 unfold impl_isQuery.f
 repeat' first
 | with_reducible first | apply impl_isExpr.mono | apply impl_isWinDef.mono | exact LeO.refl _ | exact LeO.none _ | refine LeO.ite ?_ ?_ | refine LeO.bind ?_ (fun _ => ?_)
 | apply impl_isExpr.mono | apply impl_isWinDef.mono | exact LeO.none _ | refine LeO.ite ?_ ?_ | refine LeO.bind ?_ (fun _ => ?_)
/-! ### impl_take: function 163 -/
def impl_take.f (k : Nat) (l0_0 : List (S231)) (l0_1 : List (S231)) (a0_2 : Int) (a0_3 : Int) (a0_4 : Int) (a0_5 : Int) (a0_6 : Int) (a1_0 : Int) (a1_1 : Int) (a1_2 : Int) (a1_3 : Int) : Option (Int × Int) := (impl_run.f k l0_0 a1_0 a1_1 a1_2 a1_3).bind fun bt103 => (if bt103.2 = 0 then (if bt103.1 = 0 then (some (0, 1)) else ((impl_run.f k l0_1 a1_0 a1_1 a1_2 a1_3).bind fun bt105 => (if bt105.2 = 0 then (some (bt105.1, 0)) else (some (0, 3))))) else (some (0, 3)))
theorem impl_take.mono : ∀ a0 a1 a2 a3 a4 a5 a6 a7 a8 a9 a10 k, LeO (impl_take.f k a0 a1 a2 a3 a4 a5 a6 a7 a8 a9 a10) (impl_take.f (k + 1) a0 a1 a2 a3 a4 a5 a6 a7 a8 a9 a10) := by
 intro a0 a1 a2 a3 a4 a5 a6 a7 a8 a9 a10 k
 unfold impl_take.f
 repeat' first
 | with_reducible first | apply impl_run.mono | exact LeO.refl _ | exact LeO.none _ | refine LeO.ite ?_ ?_ | refine LeO.bind ?_ (fun _ => ?_)
 | apply impl_run.mono | exact LeO.none _ | refine LeO.ite ?_ ?_ | refine LeO.bind ?_ (fun _ => ?_)
/-! ### impl_QueryTake: function 68 -/
def impl_QueryTake.f (k : Nat) (l0_0 : List (S231)) (l0_1 : List (S231)) (a0_2 : Int) (a0_3 : Int) (a0_4 : Int) (a0_5 : Int) (a0_6 : Int) (a1_0 : Int) (a1_1 : Int) (a1_2 : Int) (a1_3 : Int) : Option (Int × Int) := (impl_isQuery.f k l0_0 l0_1 a0_2 a0_3 a0_4 a0_5 a0_6).bind fun t103 => (if t103 = true then ((impl_isElem.f a1_0 a1_1 a1_2 a1_3).bind fun t104 => (if t104 = true then ((impl_take.f k l0_0 l0_1 a0_2 a0_3 a0_4 a0_5 a0_6 a1_0 a1_1 a1_2 a1_3).bind fun bt105 => (some (bt105.1, bt105.2))) else (some (0, 2)))) else (some (0, 2)))
theorem impl_QueryTake.mono : ∀ a0 a1 a2 a3 a4 a5 a6 a7 a8 a9 a10 k, LeO (impl_QueryTake.f k a0 a1 a2 a3 a4 a5 a6 a7 a8 a9 a10) (impl_QueryTake.f (k + 1) a0 a1 a2 a3 a4 a5 a6 a7 a8 a9 a10) := by
 intro a0 a1 a2 a3 a4 a5 a6 a7 a8 a9 a10 k
 unfold impl_QueryTake.f
 repeat' first
 | with_reducible first | apply impl_isQuery.mono | apply impl_take.mono | exact LeO.refl _ | exact LeO.none _ | refine LeO.ite ?_ ?_ | refine LeO.bind ?_ (fun _ => ?_)
 | apply impl_isQuery.mono | apply impl_take.mono | exact LeO.none _ | refine LeO.ite ?_ ?_ | refine LeO.bind ?_ (fun _ => ?_)
/-! ### laws_big: function 19 -/
def laws_big.f (l0 : List Int) : Option (Bool) := some (decide ((l0.length : Int) > 1048576))
/-! ### spec_l01Cur_pick: function 134 -/
def spec_l01Cur_pick.f (s0_0 : List Int) (s0_1 : Int) (s0_2 : Int) (a1 : Int) : Option (Int × Int × Int) := if a1 < 2 then (some (0, s0_1, s0_2)) else (if s0_1 < (s0_0.length : Int) then (if 0 ≤ s0_1 then (if a1 = 0 then (none) else (some (Int.tmod (wrap64 (rd s0_0 s0_1)) a1, wrap64 (s0_1 + 1), s0_2))) else (none)) else (if (s0_0.length : Int) > 0 then (if (s0_0.length : Int) = 0 then (none) else (if 0 ≤ (Int.tmod s0_1 (s0_0.length : Int)) then (if (Int.tmod s0_1 (s0_0.length : Int)) < (s0_0.length : Int) then (if a1 = 0 then (none) else (some (Int.tmod (wrap64 ((wrap64 (Int.tdiv (Int.tmod (wrap64 ((wrap64 (s0_2 * 1103)) + 12345)) 65521) 7)) + (wrap64 (rd s0_0 (Int.tmod s0_1 (s0_0.length : Int)))))) a1, wrap64 (s0_1 + 1), Int.tmod (wrap64 ((wrap64 (s0_2 * 1103)) + 12345)) 65521))) else (none)) else (none))) else (if a1 = 0 then (none) else (some ((0 : Int) % a1, wrap64 (s0_1 + 1), Int.tmod (wrap64 ((wrap64 (s0_2 * 1103)) + 12345)) 65521)))))
/-! ### spec_l01Cur_raw: function 135 -/
def spec_l01Cur_raw.f (s0_0 : List Int) (s0_1 : Int) (s0_2 : Int) : Option (Int × Int × Int) := (spec_l01Cur_pick.f s0_0 s0_1 s0_2 8).bind fun bt101 => (if bt101.1 = 0 then ((spec_l01Cur_pick.f s0_0 bt101.2.1 bt101.2.2 256).bind fun bt104 => (some (wrap64 (bt104.1 - 128), bt104.2.1, bt104.2.2))) else (if bt101.1 = 1 then ((some (([9223372036854775807, (-9223372036854775808), 4611686018427387904, 9223372036854775806, 4294967296, (-1000), 1000, 16] : List Int) : List Int)).bind fun y107 => ((spec_l01Cur_pick.f s0_0 bt101.2.1 bt101.2.2 8).bind fun bt110 => (if 0 ≤ bt110.1 then (if bt110.1 < (y107.length : Int) then (some (rd y107 bt110.1, bt110.2.1, bt110.2.2)) else (none)) else (none)))) else ((spec_l01Cur_pick.f s0_0 bt101.2.1 bt101.2.2 14).bind fun bt114 => (some (wrap64 (bt114.1 - 3), bt114.2.1, bt114.2.2)))))
/-! ### spec_l01Cur_elem: function 236 -/
def spec_l01Cur_elem.f (s0_0 : List Int) (s0_1 : Int) (s0_2 : Int) : Option (Int × Int × Int × Int × Int × Int) := (spec_l01Cur_pick.f s0_0 s0_1 s0_2 3).bind fun bt102 => ((spec_l01Cur_pick.f s0_0 bt102.2.1 bt102.2.2 4).bind fun bt105 => ((spec_l01Cur_pick.f s0_0 bt105.2.1 bt105.2.2 20).bind fun bt108 => ((spec_l01Cur_pick.f s0_0 bt108.2.1 bt108.2.2 20).bind fun bt111 => ((spec_l01Cur_raw.f s0_0 bt111.2.1 bt111.2.2).bind fun bt114 => ((some (([wrap64 (bt108.1 - 5), wrap64 (bt111.1 - 5), bt114.1] : List Int) : List Int)).bind fun y117 => ((spec_l01Cur_pick.f s0_0 bt114.2.1 bt114.2.2 3).bind fun bt120 => (if 0 ≤ bt120.1 then (if bt120.1 < (y117.length : Int) then ((spec_l01Cur_pick.f s0_0 bt120.2.1 bt120.2.2 40).bind fun bt124 => (some (bt102.1, bt105.1, rd y117 bt120.1, bt124.1, bt124.2.1, bt124.2.2))) else (none)) else (none))))))))
/-! ### spec_l01Cur_time: function 237 -/
def spec_l01Cur_time.f (s0_0 : List Int) (s0_1 : Int) (s0_2 : Int) : Option (Int × Int × Int) := (spec_l01Cur_pick.f s0_0 s0_1 s0_2 60).bind fun bt101 => ((spec_l01Cur_pick.f s0_0 bt101.2.1 bt101.2.2 60).bind fun bt104 => ((spec_l01Cur_raw.f s0_0 bt104.2.1 bt104.2.2).bind fun bt107 => ((some (([bt101.1, bt104.1, bt107.1, 1000, 1001] : List Int) : List Int)).bind fun y110 => ((spec_l01Cur_pick.f s0_0 bt107.2.1 bt107.2.2 5).bind fun bt113 => (if 0 ≤ bt113.1 then (if bt113.1 < (y110.length : Int) then (some (rd y110 bt113.1, bt113.2.1, bt113.2.2)) else (none)) else (none))))))
/-! ### spec_l01Cur_badElem: function 160 -/
def spec_l01Cur_badElem.f (s0_0 : List Int) (s0_1 : Int) (s0_2 : Int) : Option (Int × Int × Int × Int × Int × Int) := (spec_l01Cur_elem.f s0_0 s0_1 s0_2).bind fun bt102 => ((spec_l01Cur_pick.f s0_0 bt102.2.2.2.2.1 bt102.2.2.2.2.2 12).bind fun bt109 => (if bt109.1 = 0 then ((spec_l01Cur_raw.f s0_0 bt109.2.1 bt109.2.2).bind fun bt112 => ((some (([bt112.1, 3, 4] : List Int) : List Int)).bind fun y115 => ((spec_l01Cur_pick.f s0_0 bt112.2.1 bt112.2.2 3).bind fun bt118 => (if 0 ≤ bt118.1 then (if bt118.1 < (y115.length : Int) then (some (rd y115 bt118.1, bt102.2.1, bt102.2.2.1, bt102.2.2.2.1, bt118.2.1, bt118.2.2)) else (none)) else (none))))) else (if bt109.1 = 1 then ((spec_l01Cur_raw.f s0_0 bt109.2.1 bt109.2.2).bind fun bt122 => ((some (([bt122.1, 15, 16] : List Int) : List Int)).bind fun y125 => ((spec_l01Cur_pick.f s0_0 bt122.2.1 bt122.2.2 3).bind fun bt128 => (if 0 ≤ bt128.1 then (if bt128.1 < (y125.length : Int) then (some (bt102.1, rd y125 bt128.1, bt102.2.2.1, bt102.2.2.2.1, bt128.2.1, bt128.2.2)) else (none)) else (none))))) else (if bt109.1 = 2 then ((spec_l01Cur_time.f s0_0 bt109.2.1 bt109.2.2).bind fun bt132 => (some (bt102.1, bt102.2.1, bt102.2.2.1, bt132.1, bt132.2.1, bt132.2.2))) else (some (bt102.1, bt102.2.1, bt102.2.2.1, bt102.2.2.2.1, bt109.2.1, bt109.2.2))))))
/-! ### spec_l01Cur_once: function 133 -/
def spec_l01Cur_once.f (s0_0 : List Int) (s0_1 : Int) (s0_2 : Int) (a1 : Int) : Option (Bool × Int × Int) := (spec_l01Cur_pick.f s0_0 s0_1 s0_2 a1).bind fun bt101 => (some ((bt101.1 == (wrap64 (a1 - 1))), bt101.2.1, bt101.2.2))
/-! ### spec_l01Cur_aggKind: function 235 -/
def spec_l01Cur_aggKind.j0 : Nat → Int → Int → List Int → Int → Int → Option (Int × Int × Int × Int)
 | 0, _, _, _, _, _ => none
 | k + 1, x4, x5, x1000, x1001, x1002 => (spec_l01Cur_once.f x1000 x1001 x1002 12).bind fun bt107 => (if bt107.1 = true then ((spec_l01Cur_raw.f x1000 bt107.2.1 bt107.2.2).bind fun bt110 => ((some (([x4, bt110.1] : List Int) : List Int)).bind fun y113 => ((spec_l01Cur_pick.f x1000 bt110.2.1 bt110.2.2 2).bind fun bt116 => (if 0 ≤ bt116.1 then (if bt116.1 < (y113.length : Int) then ((spec_l01Cur_raw.f x1000 bt116.2.1 bt116.2.2).bind fun bt120 => ((some (([bt120.1, 4, 5] : List Int) : List Int)).bind fun y123 => ((spec_l01Cur_pick.f x1000 bt120.2.1 bt120.2.2 3).bind fun bt126 => (if 0 ≤ bt126.1 then (if bt126.1 < (y123.length : Int) then (some (rd y113 bt116.1, rd y123 bt126.1, bt126.2.1, bt126.2.2)) else (none)) else (none))))) else (none)) else (none))))) else (some (x4, x5, bt107.2.1, bt107.2.2)))
def spec_l01Cur_aggKind.f (k : Nat) (s0_0 : List Int) (s0_1 : Int) (s0_2 : Int) : Option (Int × Int × Int × Int) := (spec_l01Cur_pick.f s0_0 s0_1 s0_2 6).bind fun bt101 => (if (wrap64 (1 + bt101.1)) = 6 then ((spec_l01Cur_pick.f s0_0 bt101.2.1 bt101.2.2 4).bind fun bt104 => (spec_l01Cur_aggKind.j0 k (wrap64 (1 + bt101.1)) (wrap64 (1 + bt104.1)) s0_0 bt104.2.1 bt104.2.2)) else (spec_l01Cur_aggKind.j0 k (wrap64 (1 + bt101.1)) 0 s0_0 bt101.2.1 bt101.2.2))
theorem spec_l01Cur_aggKind.mono_l : ∀ k, (∀ y0 y1 y2 y3 y4, LeO (spec_l01Cur_aggKind.j0 k y0 y1 y2 y3 y4) (spec_l01Cur_aggKind.j0 (k + 1) y0 y1 y2 y3 y4))
 | 0 => fun _ _ _ _ _ r h => by simp [spec_l01Cur_aggKind.j0] at h
 | k + 1 => by
  have ih0 := spec_l01Cur_aggKind.mono_l k
  ·intro y0 y1 y2 y3 y4
   unfold spec_l01Cur_aggKind.j0
   repeat' first
   | with_reducible first | apply ih0 | exact LeO.refl _ | exact LeO.none _ | refine LeO.ite ?_ ?_ | refine LeO.bind ?_ (fun _ => ?_)
   | apply ih0 | exact LeO.none _ | refine LeO.ite ?_ ?_ | refine LeO.bind ?_ (fun _ => ?_)
theorem spec_l01Cur_aggKind.mono : ∀ a0 a1 a2 k, LeO (spec_l01Cur_aggKind.f k a0 a1 a2) (spec_l01Cur_aggKind.f (k + 1) a0 a1 a2) := by
 intro a0 a1 a2 k
 have ih0 := spec_l01Cur_aggKind.mono_l k
 unfold spec_l01Cur_aggKind.f
 repeat' first
 | with_reducible first | apply ih0 | exact LeO.refl _ | exact LeO.none _ | refine LeO.ite ?_ ?_ | refine LeO.bind ?_ (fun _ => ?_)
 | apply ih0 | exact LeO.none _ | refine LeO.ite ?_ ?_ | refine LeO.bind ?_ (fun _ => ?_)
/-! ### spec_l01Cur_tok: function 301 -/
mutual
def spec_l01Cur_tok.j0 : Nat → Int → Bool → List Int → Int → Int → Option (Int × Int × Int × Int)
 | 0, _, _, _, _, _ => none
 | k + 1, x1, x5, x1000, x1001, x1002 => if x5 = true then (if x1 > 0 then ((spec_l01Cur_once.f x1000 x1001 x1002 5).bind fun bt105 => (spec_l01Cur_tok.j1 k bt105.1 x1000 bt105.2.1 bt105.2.2)) else (spec_l01Cur_tok.j1 k false x1000 x1001 x1002)) else ((spec_l01Cur_pick.f x1000 x1001 x1002 7).bind fun bt127 => (some (wrap64 (4 + bt127.1), 0, bt127.2.1, bt127.2.2)))
def spec_l01Cur_tok.j1 : Nat → Bool → List Int → Int → Int → Option (Int × Int × Int × Int)
 | 0, _, _, _, _ => none
 | k + 1, x17, x1000, x1001, x1002 => if x17 = true then (some (11, 0, x1001, x1002)) else ((spec_l01Cur_once.f x1000 x1001 x1002 2).bind fun bt108 => (if bt108.1 = true then ((spec_l01Cur_pick.f x1000 bt108.2.1 bt108.2.2 3).bind fun bt111 => (some (wrap64 (1 + bt111.1), 0, bt111.2.1, bt111.2.2))) else ((spec_l01Cur_pick.f x1000 bt108.2.1 bt108.2.2 5).bind fun bt114 => ((spec_l01Cur_raw.f x1000 bt114.2.1 bt114.2.2).bind fun bt117 => ((some (([bt114.1, bt117.1] : List Int) : List Int)).bind fun y120 => ((spec_l01Cur_pick.f x1000 bt117.2.1 bt117.2.2 2).bind fun bt123 => (if 0 ≤ bt123.1 then (if bt123.1 < (y120.length : Int) then (some (0, rd y120 bt123.1, bt123.2.1, bt123.2.2)) else (none)) else (none))))))))
end
def spec_l01Cur_tok.f (k : Nat) (s0_0 : List Int) (s0_1 : Int) (s0_2 : Int) (a1 : Int) : Option (Int × Int × Int × Int) := if a1 < 2 then (spec_l01Cur_tok.j0 k a1 true s0_0 s0_1 s0_2) else ((spec_l01Cur_once.f s0_0 s0_1 s0_2 3).bind fun bt102 => (spec_l01Cur_tok.j0 k a1 bt102.1 s0_0 bt102.2.1 bt102.2.2))
theorem spec_l01Cur_tok.mono_l : ∀ k, (∀ y0 y1 y2 y3 y4, LeO (spec_l01Cur_tok.j0 k y0 y1 y2 y3 y4) (spec_l01Cur_tok.j0 (k + 1) y0 y1 y2 y3 y4)) ∧ (∀ y0 y1 y2 y3, LeO (spec_l01Cur_tok.j1 k y0 y1 y2 y3) (spec_l01Cur_tok.j1 (k + 1) y0 y1 y2 y3))
 | 0 => ⟨fun _ _ _ _ _ r h => by simp [spec_l01Cur_tok.j0] at h, fun _ _ _ _ r h => by simp [spec_l01Cur_tok.j1] at h⟩
 | k + 1 => by
  obtain ⟨ih0, ih1⟩ := spec_l01Cur_tok.mono_l k
  refine ⟨?_, ?_⟩
  all_goals
   intros
   first | unfold spec_l01Cur_tok.j0 | unfold spec_l01Cur_tok.j1
   repeat' first
   | with_reducible first | apply ih0 | apply ih1 | exact LeO.refl _ | exact LeO.none _ | refine LeO.ite ?_ ?_ | refine LeO.bind ?_ (fun _ => ?_)
   | apply ih0 | apply ih1 | exact LeO.none _ | refine LeO.ite ?_ ?_ | refine LeO.bind ?_ (fun _ => ?_)
theorem spec_l01Cur_tok.mono : ∀ a0 a1 a2 a3 k, LeO (spec_l01Cur_tok.f k a0 a1 a2 a3) (spec_l01Cur_tok.f (k + 1) a0 a1 a2 a3) := by
 intro a0 a1 a2 a3 k
 obtain ⟨ih0, ih1⟩ := spec_l01Cur_tok.mono_l k
 unfold spec_l01Cur_tok.f
 repeat' first
 | with_reducible first | apply ih0 | apply ih1 | exact LeO.refl _ | exact LeO.none _ | refine LeO.ite ?_ ?_ | refine LeO.bind ?_ (fun _ => ?_)
 | apply ih0 | apply ih1 | exact LeO.none _ | refine LeO.ite ?_ ?_ | refine LeO.bind ?_ (fun _ => ?_)
/-! ### spec_l03Takes: function 283 -/
def spec_l03Takes.f (a0 : Int) : Option (Int) := if a0 ≤ 3 then (some 0) else (if a0 = 11 then (some 1) else (some 2))
/-! ### spec_l01Cur_expr: function 275 -/
mutual
def spec_l01Cur_expr.l0 : Nat → List (S231) → Int → Int → List Int → Int → Int → Option ((List (S231)) × Int × Int)
 | 0, _, _, _, _, _, _ => none
 | k + 1, x3, x4, x5, x1000, x1001, x1002 => if x5 > 0 then ((spec_l01Cur_tok.f k x1000 x1001 x1002 x4).bind fun bt107 => ((spec_l03Takes.f bt107.1).bind fun t112 => (if x3.length < 8796093022208 then (spec_l01Cur_expr.l0 k (x3 ++ [(⟨bt107.1, bt107.2.1⟩ : S231)]) (wrap64 ((wrap64 (x4 - t112)) + 1)) (wrap64 (x5 - 1)) x1000 bt107.2.2.1 bt107.2.2.2) else (none)))) else (if x4 = 0 then (if x3.length < 8796093022208 then (some ((x3 ++ [(⟨2, 0⟩ : S231)]), x1001, x1002)) else (none)) else (spec_l01Cur_expr.l1 k x3 x4 x1000 x1001 x1002))
def spec_l01Cur_expr.l1 : Nat → List (S231) → Int → List Int → Int → Int → Option ((List (S231)) × Int × Int)
 | 0, _, _, _, _, _ => none
 | k + 1, x3, x4, x1000, x1001, x1002 => if x4 > 1 then ((spec_l01Cur_pick.f x1000 x1001 x1002 7).bind fun bt119 => (if x3.length < 8796093022208 then (spec_l01Cur_expr.l1 k (x3 ++ [(⟨wrap64 (4 + bt119.1), 0⟩ : S231)]) (wrap64 (x4 - 1)) x1000 bt119.2.1 bt119.2.2) else (none))) else (some (x3, x1001, x1002))
end
def spec_l01Cur_expr.f (k : Nat) (s0_0 : List Int) (s0_1 : Int) (s0_2 : Int) : Option ((List (S231)) × Int × Int) := (spec_l01Cur_pick.f s0_0 s0_1 s0_2 8).bind fun bt104 => (spec_l01Cur_expr.l0 k (([] : List (S231))) 0 bt104.1 s0_0 bt104.2.1 bt104.2.2)
theorem spec_l01Cur_expr.mono_l : ∀ k, (∀ y0 y1 y2 y3 y4 y5, LeO (spec_l01Cur_expr.l0 k y0 y1 y2 y3 y4 y5) (spec_l01Cur_expr.l0 (k + 1) y0 y1 y2 y3 y4 y5)) ∧ (∀ y0 y1 y2 y3 y4, LeO (spec_l01Cur_expr.l1 k y0 y1 y2 y3 y4) (spec_l01Cur_expr.l1 (k + 1) y0 y1 y2 y3 y4))
 | 0 => ⟨fun _ _ _ _ _ _ r h => by simp [spec_l01Cur_expr.l0] at h, fun _ _ _ _ _ r h => by simp [spec_l01Cur_expr.l1] at h⟩
 | k + 1 => by
  obtain ⟨ih0, ih1⟩ := spec_l01Cur_expr.mono_l k
  refine ⟨?_, ?_⟩
  all_goals
   intros
   first | unfold spec_l01Cur_expr.l0 | unfold spec_l01Cur_expr.l1
   repeat' first
   | with_reducible first | apply ih0 | apply ih1 | apply spec_l01Cur_tok.mono | exact LeO.refl _ | exact LeO.none _ | refine LeO.ite ?_ ?_ | refine LeO.bind ?_ (fun _ => ?_)
   | apply ih0 | apply ih1 | apply spec_l01Cur_tok.mono | exact LeO.none _ | refine LeO.ite ?_ ?_ | refine LeO.bind ?_ (fun _ => ?_)
theorem spec_l01Cur_expr.mono : ∀ a0 a1 a2 k, LeO (spec_l01Cur_expr.f k a0 a1 a2) (spec_l01Cur_expr.f (k + 1) a0 a1 a2) := by
 intro a0 a1 a2 k
 obtain ⟨ih0, ih1⟩ := spec_l01Cur_expr.mono_l k
 unfold spec_l01Cur_expr.f
 repeat' first
 | with_reducible first | apply ih0 | apply ih1 | apply spec_l01Cur_tok.mono | exact LeO.refl _ | exact LeO.none _ | refine LeO.ite ?_ ?_ | refine LeO.bind ?_ (fun _ => ?_)
 | apply ih0 | apply ih1 | apply spec_l01Cur_tok.mono | exact LeO.none _ | refine LeO.ite ?_ ?_ | refine LeO.bind ?_ (fun _ => ?_)
/-! ### spec_l01Cur_badExpr: function 233 -/
def spec_l01Cur_badExpr.f (k : Nat) (s0_0 : List Int) (s0_1 : Int) (s0_2 : Int) : Option ((List (S231)) × Int × Int) := (spec_l01Cur_expr.f k s0_0 s0_1 s0_2).bind fun bt101 => ((spec_l01Cur_pick.f s0_0 bt101.2.1 bt101.2.2 12).bind fun bt106 => (if bt106.1 = 0 then ((spec_l01Cur_pick.f s0_0 bt106.2.1 bt106.2.2 12).bind fun bt109 => (if bt101.1.length < 8796093022208 then (some ((bt101.1 ++ [(⟨bt109.1, 0⟩ : S231)]), bt109.2.1, bt109.2.2)) else (none))) else (if bt106.1 = 1 then ((spec_l01Cur_pick.f s0_0 bt106.2.1 bt106.2.2 (bt101.1.length : Int)).bind fun bt115 => ((spec_l01Cur_raw.f s0_0 bt115.2.1 bt115.2.2).bind fun bt118 => ((some (([bt118.1, 11, 12] : List Int) : List Int)).bind fun y121 => ((spec_l01Cur_pick.f s0_0 bt118.2.1 bt118.2.2 3).bind fun bt124 => (if 0 ≤ bt124.1 then (if bt124.1 < (y121.length : Int) then (if 0 ≤ bt115.1 then (if bt115.1 < (bt101.1.length : Int) then (some ((bt101.1.set (bt115.1 : Int).toNat (⟨rd y121 bt124.1, (rd_T231 bt101.1 bt115.1).f1⟩ : S231)), bt124.2.1, bt124.2.2)) else (none)) else (none)) else (none)) else (none)))))) else (if bt106.1 = 2 then ((spec_l01Cur_pick.f s0_0 bt106.2.1 bt106.2.2 (bt101.1.length : Int)).bind fun bt129 => ((spec_l01Cur_raw.f s0_0 bt129.2.1 bt129.2.2).bind fun bt132 => (if 0 ≤ bt129.1 then (if bt129.1 < (bt101.1.length : Int) then (some ((bt101.1.set (bt129.1 : Int).toNat (⟨(rd_T231 bt101.1 bt129.1).f0, bt132.1⟩ : S231)), bt132.2.1, bt132.2.2)) else (none)) else (none)))) else (if bt106.1 = 3 then (if 0 ≤ (20 - (mn 20 (bt101.1.length : Int))) then (if bt101.1.length + (20 - (mn 20 (bt101.1.length : Int)) : Int).toNat < 8796093022208 then (some ((bt101.1 ++ List.replicate (20 - (mn 20 (bt101.1.length : Int)) : Int).toNat z231), bt106.2.1, bt106.2.2)) else (none)) else (none)) else (some (bt101.1, bt106.2.1, bt106.2.2)))))))
theorem spec_l01Cur_badExpr.mono : ∀ a0 a1 a2 k, LeO (spec_l01Cur_badExpr.f k a0 a1 a2) (spec_l01Cur_badExpr.f (k + 1) a0 a1 a2) := by
 intro a0 a1 a2 k
 unfold spec_l01Cur_badExpr.f
 repeat' first
 | with_reducible first | apply spec_l01Cur_expr.mono | exact LeO.refl _ | exact LeO.none _ | refine LeO.ite ?_ ?_ | refine LeO.bind ?_ (fun _ => ?_)
 | apply spec_l01Cur_expr.mono | exact LeO.none _ | refine LeO.ite ?_ ?_ | refine LeO.bind ?_ (fun _ => ?_)
/-! ### spec_l01Cur_win: function 274 -/
def spec_l01Cur_win.j0 : Nat → List Int → Int → Int → Int → Int → Int → Option (Int × Int × Int × Int × Int)
 | 0, _, _, _, _, _, _ => none
 | k + 1, x1000, x1001, x1002, x113000, x113001, x113002 => if x113000 = 2 then ((spec_l01Cur_once.f x1000 x1001 x1002 2).bind fun bt119 => (if bt119.1 = true then ((spec_l01Cur_pick.f x1000 bt119.2.1 bt119.2.2 x113001).bind fun bt122 => (some (x113000, x113001, mx (mx 1 (wrap64 (Int.tdiv (wrap64 (x113001 + 7)) 8))) (wrap64 (1 + bt122.1)), bt122.2.1, bt122.2.2))) else (some (x113000, x113001, mx 1 (wrap64 (Int.tdiv (wrap64 (x113001 + 7)) 8)), bt119.2.1, bt119.2.2)))) else (some (x113000, x113001, x113002, x1001, x1002))
def spec_l01Cur_win.f (k : Nat) (s0_0 : List Int) (s0_1 : Int) (s0_2 : Int) : Option (Int × Int × Int × Int × Int) := (spec_l01Cur_pick.f s0_0 s0_1 s0_2 3).bind fun bt102 => ((some (([1, 5, 10, 100] : List Int) : List Int)).bind fun y105 => ((spec_l01Cur_pick.f s0_0 bt102.2.1 bt102.2.2 4).bind fun bt108 => (if 0 ≤ bt108.1 then (if bt108.1 < (y105.length : Int) then ((spec_l01Cur_once.f s0_0 bt108.2.1 bt108.2.2 2).bind fun bt113 => (if bt113.1 = true then ((spec_l01Cur_pick.f s0_0 bt113.2.1 bt113.2.2 12).bind fun bt116 => (spec_l01Cur_win.j0 k s0_0 bt116.2.1 bt116.2.2 (wrap64 (1 + bt102.1)) (wrap64 (1 + bt116.1)) 0)) else (spec_l01Cur_win.j0 k s0_0 bt113.2.1 bt113.2.2 (wrap64 (1 + bt102.1)) (rd y105 bt108.1) 0))) else (none)) else (none))))
theorem spec_l01Cur_win.mono_l : ∀ k, (∀ y0 y1 y2 y3 y4 y5, LeO (spec_l01Cur_win.j0 k y0 y1 y2 y3 y4 y5) (spec_l01Cur_win.j0 (k + 1) y0 y1 y2 y3 y4 y5))
 | 0 => fun _ _ _ _ _ _ r h => by simp [spec_l01Cur_win.j0] at h
 | k + 1 => by
  have ih0 := spec_l01Cur_win.mono_l k
  ·intro y0 y1 y2 y3 y4 y5
   unfold spec_l01Cur_win.j0
   repeat' first
   | with_reducible first | apply ih0 | exact LeO.refl _ | exact LeO.none _ | refine LeO.ite ?_ ?_ | refine LeO.bind ?_ (fun _ => ?_)
   | apply ih0 | exact LeO.none _ | refine LeO.ite ?_ ?_ | refine LeO.bind ?_ (fun _ => ?_)
theorem spec_l01Cur_win.mono : ∀ a0 a1 a2 k, LeO (spec_l01Cur_win.f k a0 a1 a2) (spec_l01Cur_win.f (k + 1) a0 a1 a2) := by
 intro a0 a1 a2 k
 have ih0 := spec_l01Cur_win.mono_l k
 unfold spec_l01Cur_win.f
 repeat' first
 | with_reducible first | apply ih0 | exact LeO.refl _ | exact LeO.none _ | refine LeO.ite ?_ ?_ | refine LeO.bind ?_ (fun _ => ?_)
 | apply ih0 | exact LeO.none _ | refine LeO.ite ?_ ?_ | refine LeO.bind ?_ (fun _ => ?_)
/-! ### spec_l01Cur_badWin: function 234 -/
def spec_l01Cur_badWin.f (k : Nat) (s0_0 : List Int) (s0_1 : Int) (s0_2 : Int) : Option (Int × Int × Int × Int × Int) := (spec_l01Cur_win.f k s0_0 s0_1 s0_2).bind fun bt102 => ((spec_l01Cur_pick.f s0_0 bt102.2.2.2.1 bt102.2.2.2.2 12).bind fun bt108 => (if bt108.1 = 0 then ((spec_l01Cur_raw.f s0_0 bt108.2.1 bt108.2.2).bind fun bt111 => ((some (([bt111.1, 3, 4] : List Int) : List Int)).bind fun y114 => ((spec_l01Cur_pick.f s0_0 bt111.2.1 bt111.2.2 3).bind fun bt117 => (if 0 ≤ bt117.1 then (if bt117.1 < (y114.length : Int) then (some (rd y114 bt117.1, bt102.2.1, bt102.2.2.1, bt117.2.1, bt117.2.2)) else (none)) else (none))))) else (if bt108.1 = 1 then ((spec_l01Cur_raw.f s0_0 bt108.2.1 bt108.2.2).bind fun bt121 => ((some (([bt121.1, 100, 101] : List Int) : List Int)).bind fun y124 => ((spec_l01Cur_pick.f s0_0 bt121.2.1 bt121.2.2 3).bind fun bt127 => (if 0 ≤ bt127.1 then (if bt127.1 < (y124.length : Int) then (some (bt102.1, rd y124 bt127.1, bt102.2.2.1, bt127.2.1, bt127.2.2)) else (none)) else (none))))) else (if bt108.1 = 2 then ((spec_l01Cur_raw.f s0_0 bt108.2.1 bt108.2.2).bind fun bt131 => ((some (([bt131.1, bt102.2.1, wrap64 (bt102.2.1 + 1)] : List Int) : List Int)).bind fun y134 => ((spec_l01Cur_pick.f s0_0 bt131.2.1 bt131.2.2 3).bind fun bt137 => (if 0 ≤ bt137.1 then (if bt137.1 < (y134.length : Int) then (some (bt102.1, bt102.2.1, rd y134 bt137.1, bt137.2.1, bt137.2.2)) else (none)) else (none))))) else (some (bt102.1, bt102.2.1, bt102.2.2.1, bt108.2.1, bt108.2.2))))))
theorem spec_l01Cur_badWin.mono : ∀ a0 a1 a2 k, LeO (spec_l01Cur_badWin.f k a0 a1 a2) (spec_l01Cur_badWin.f (k + 1) a0 a1 a2) := by
 intro a0 a1 a2 k
 unfold spec_l01Cur_badWin.f
 repeat' first
 | with_reducible first | apply spec_l01Cur_win.mono | exact LeO.refl _ | exact LeO.none _ | refine LeO.ite ?_ ?_ | refine LeO.bind ?_ (fun _ => ?_)
 | apply spec_l01Cur_win.mono | exact LeO.none _ | refine LeO.ite ?_ ?_ | refine LeO.bind ?_ (fun _ => ?_)
/-! ### spec_l01Cur_query: function 228 -/
mutual
def spec_l01Cur_query.j0 : Nat → List Int → Int → Int → List (S231) → List (S231) → Int → Int → Int → Int → Int → Option ((List (S231)) × (List (S231)) × Int × Int × Int × Int × Int × Int × Int)
 | 0, _, _, _, _, _, _, _, _, _, _ => none
 | k + 1, x1000, x1001, x1002, x117000, x117001, x117002, x117003, x117004, x117005, x117006 => (spec_l01Cur_once.f x1000 x1001 x1002 3).bind fun bt120 => (if bt120.1 = true then ((spec_l01Cur_expr.f k x1000 bt120.2.1 bt120.2.2).bind fun bt123 => (spec_l01Cur_query.j1 k x1000 bt123.2.1 bt123.2.2 bt123.1 x117001 x117002 x117003 x117004 x117005 x117006)) else (spec_l01Cur_query.j1 k x1000 bt120.2.1 bt120.2.2 x117000 x117001 x117002 x117003 x117004 x117005 x117006))
def spec_l01Cur_query.j1 : Nat → List Int → Int → Int → List (S231) → List (S231) → Int → Int → Int → Int → Int → Option ((List (S231)) × (List (S231)) × Int × Int × Int × Int × Int × Int × Int)
 | 0, _, _, _, _, _, _, _, _, _, _ => none
 | k + 1, x1000, x1001, x1002, x117000, x117001, x117002, x117003, x117004, x117005, x117006 => (spec_l01Cur_once.f x1000 x1001 x1002 3).bind fun bt128 => (if bt128.1 = true then ((spec_l01Cur_expr.f k x1000 bt128.2.1 bt128.2.2).bind fun bt131 => (if x117003 > 20 then (some (x117000, bt131.1, 1, 10, 0, x117005, x117006, bt131.2.1, bt131.2.2)) else (some (x117000, bt131.1, x117002, x117003, x117004, x117005, x117006, bt131.2.1, bt131.2.2)))) else (if x117003 > 20 then (some (x117000, x117001, 1, 10, 0, x117005, x117006, bt128.2.1, bt128.2.2)) else (some (x117000, x117001, x117002, x117003, x117004, x117005, x117006, bt128.2.1, bt128.2.2))))
end
def spec_l01Cur_query.f (k : Nat) (s0_0 : List Int) (s0_1 : Int) (s0_2 : Int) : Option ((List (S231)) × (List (S231)) × Int × Int × Int × Int × Int × Int × Int) := (some (([(⟨0, 1⟩ : S231)] : List (S231)) : List (S231))).bind fun y102 => ((some (([(⟨2, 0⟩ : S231)] : List (S231)) : List (S231))).bind fun y105 => ((spec_l01Cur_win.f k s0_0 s0_1 s0_2).bind fun bt108 => ((spec_l01Cur_pick.f s0_0 bt108.2.2.2.1 bt108.2.2.2.2 6).bind fun bt113 => (if (wrap64 (1 + bt113.1)) = 6 then ((spec_l01Cur_pick.f s0_0 bt113.2.1 bt113.2.2 4).bind fun bt117 => (spec_l01Cur_query.j0 k s0_0 bt117.2.1 bt117.2.2 y102 y105 bt108.1 bt108.2.1 bt108.2.2.1 (wrap64 (1 + bt113.1)) (wrap64 (1 + bt117.1)))) else (spec_l01Cur_query.j0 k s0_0 bt113.2.1 bt113.2.2 y102 y105 bt108.1 bt108.2.1 bt108.2.2.1 (wrap64 (1 + bt113.1)) 0)))))
theorem spec_l01Cur_query.mono_l : ∀ k, (∀ y0 y1 y2 y3 y4 y5 y6 y7 y8 y9, LeO (spec_l01Cur_query.j0 k y0 y1 y2 y3 y4 y5 y6 y7 y8 y9) (spec_l01Cur_query.j0 (k + 1) y0 y1 y2 y3 y4 y5 y6 y7 y8 y9)) ∧ (∀ y0 y1 y2 y3 y4 y5 y6 y7 y8 y9, LeO (spec_l01Cur_query.j1 k y0 y1 y2 y3 y4 y5 y6 y7 y8 y9) (spec_l01Cur_query.j1 (k + 1) y0 y1 y2 y3 y4 y5 y6 y7 y8 y9))
 | 0 => ⟨fun _ _ _ _ _ _ _ _ _ _ r h => by simp [spec_l01Cur_query.j0] at h, fun _ _ _ _ _ _ _ _ _ _ r h => by simp [spec_l01Cur_query.j1] at h⟩
 | k + 1 => by
  obtain ⟨ih0, ih1⟩ := spec_l01Cur_query.mono_l k
  refine ⟨?_, ?_⟩
  all_goals
   intros
   first | unfold spec_l01Cur_query.j0 | unfold spec_l01Cur_query.j1
   repeat' first
   | with_reducible first | apply ih0 | apply ih1 | apply spec_l01Cur_expr.mono | apply spec_l01Cur_win.mono | exact LeO.refl _ | exact LeO.none _ | refine LeO.ite ?_ ?_ | refine LeO.bind ?_ (fun _ => ?_)
   | apply ih0 | apply ih1 | apply spec_l01Cur_expr.mono | apply spec_l01Cur_win.mono | exact LeO.none _ | refine LeO.ite ?_ ?_ | refine LeO.bind ?_ (fun _ => ?_)
theorem spec_l01Cur_query.mono : ∀ a0 a1 a2 k, LeO (spec_l01Cur_query.f k a0 a1 a2) (spec_l01Cur_query.f (k + 1) a0 a1 a2) := by
 intro a0 a1 a2 k
 obtain ⟨ih0, ih1⟩ := spec_l01Cur_query.mono_l k
 unfold spec_l01Cur_query.f
 repeat' first
 | with_reducible first | apply ih0 | apply ih1 | apply spec_l01Cur_expr.mono | apply spec_l01Cur_win.mono | exact LeO.refl _ | exact LeO.none _ | refine LeO.ite ?_ ?_ | refine LeO.bind ?_ (fun _ => ?_)
 | apply ih0 | apply ih1 | apply spec_l01Cur_expr.mono | apply spec_l01Cur_win.mono | exact LeO.none _ | refine LeO.ite ?_ ?_ | refine LeO.bind ?_ (fun _ => ?_)
/-! ### spec_l01Cur_badQuery: function 159 -/
def spec_l01Cur_badQuery.f (k : Nat) (s0_0 : List Int) (s0_1 : Int) (s0_2 : Int) : Option ((List (S231)) × (List (S231)) × Int × Int × Int × Int × Int × Int × Int) := (spec_l01Cur_query.f k s0_0 s0_1 s0_2).bind fun bt102 => ((spec_l01Cur_pick.f s0_0 bt102.2.2.2.2.2.2.2.1 bt102.2.2.2.2.2.2.2.2 12).bind fun bt116 => (if bt116.1 = 0 then ((spec_l01Cur_badExpr.f k s0_0 bt116.2.1 bt116.2.2).bind fun bt119 => (some (bt119.1, bt102.2.1, bt102.2.2.1, bt102.2.2.2.1, bt102.2.2.2.2.1, bt102.2.2.2.2.2.1, bt102.2.2.2.2.2.2.1, bt119.2.1, bt119.2.2))) else (if bt116.1 = 1 then (some (bt102.1, ([] : List (S231)), bt102.2.2.1, bt102.2.2.2.1, bt102.2.2.2.2.1, bt102.2.2.2.2.2.1, bt102.2.2.2.2.2.2.1, bt116.2.1, bt116.2.2)) else (if bt116.1 = 2 then ((spec_l01Cur_badWin.f k s0_0 bt116.2.1 bt116.2.2).bind fun bt124 => (some (bt102.1, bt102.2.1, bt124.1, bt124.2.1, bt124.2.2.1, bt102.2.2.2.2.2.1, bt102.2.2.2.2.2.2.1, bt124.2.2.2.1, bt124.2.2.2.2))) else (if bt116.1 = 3 then ((spec_l01Cur_aggKind.f k s0_0 bt116.2.1 bt116.2.2).bind fun bt129 => (some (bt102.1, bt102.2.1, bt102.2.2.1, bt102.2.2.2.1, bt102.2.2.2.2.1, bt129.1, bt129.2.1, bt129.2.2.1, bt129.2.2.2))) else (some (bt102.1, bt102.2.1, bt102.2.2.1, bt102.2.2.2.1, bt102.2.2.2.2.1, bt102.2.2.2.2.2.1, bt102.2.2.2.2.2.2.1, bt116.2.1, bt116.2.2)))))))
theorem spec_l01Cur_badQuery.mono : ∀ a0 a1 a2 k, LeO (spec_l01Cur_badQuery.f k a0 a1 a2) (spec_l01Cur_badQuery.f (k + 1) a0 a1 a2) := by
 intro a0 a1 a2 k
 unfold spec_l01Cur_badQuery.f
 repeat' first
 | with_reducible first | apply spec_l01Cur_aggKind.mono | apply spec_l01Cur_badExpr.mono | apply spec_l01Cur_badWin.mono | apply spec_l01Cur_query.mono | exact LeO.refl _ | exact LeO.none _ | refine LeO.ite ?_ ?_ | refine LeO.bind ?_ (fun _ => ?_)
 | apply spec_l01Cur_aggKind.mono | apply spec_l01Cur_badExpr.mono | apply spec_l01Cur_badWin.mono | apply spec_l01Cur_query.mono | exact LeO.none _ | refine LeO.ite ?_ ?_ | refine LeO.bind ?_ (fun _ => ?_)
/-- A state of type 213 at block g of W; what its slices lead to came in by w0. -/
def IsS213 (w0 W : World) (g : Nat) (f0 : List Int) (f1 : Int) (f2 : Int) : Prop := ∃ A0 c0, W.heap[g]? = some (.cells #[.slice A0 f0.length c0, .int .i64 f1, .int .i64 f2] 213 (0, 0)) ∧ w0.heap.size ≤ g ∧ Kd.C (Kd.int .u8) w0 A0 f0.length f0
theorem IsS213.grown {w0 W : World} {g : Nat} {f0 : List Int} {f1 : Int} {f2 : Int} {W1 : World} {row : Option Nat} (h : IsS213 w0 W g f0 f1 f2) (hw : W.grownBy W1 row) (hne : some g ≠ row) : IsS213 w0 W1 g f0 f1 f2 := by
 obtain ⟨A0, c0, hb, hg, hr0⟩ := h
 exact ⟨A0, c0, blk_grown hb hw hne, hg, hr0⟩
theorem IsS213.own_neN {w0 W : World} {g : Nat} {f0 : List Int} {f1 : Int} {f2 : Int} {α : Type} {d : Kd α} {e : Nat} {base : Nat} {ok : Nat → Prop} {v : Value} {xs : List α} (h : IsS213 w0 W g f0 f1 f2) (ho : Kd.N d e W base ok v xs) (ht : e ≠ 213) : some g ≠ v.ownBlock := by
 obtain ⟨A0, c0, hb, hg, hr0⟩ := h
 exact Kd.N_ne ho hb ht
theorem IsS213.fresh {w0 W : World} {g : Nat} {f0 : List Int} {f1 : Int} {f2 : Int} (h : IsS213 w0 W g f0 f1 f2) : ∀ k, W.heap.size ≤ k → k ≠ g := by
 obtain ⟨A0, c0, hb, hg, hr0⟩ := h
 exact Kd.freshB hb
theorem IsS213.kept {w0 W : World} {g : Nat} {f0 : List Int} {f1 : Int} {f2 : Int} {W1 : World} {S : Nat → Prop} (h : IsS213 w0 W g f0 f1 f2) (hk : Kept W W1 S) (hne : ¬ S g) : IsS213 w0 W1 g f0 f1 f2 := by
 obtain ⟨A0, c0, hb, hg, hr0⟩ := h
 exact ⟨A0, c0, blk_kept hb hk hne, hg, hr0⟩
theorem IsS213.below {w0 W : World} {g : Nat} {f0 : List Int} {f1 : Int} {f2 : Int} {W1 : World} (h : IsS213 w0 W g f0 f1 f2) (hw : Below W.heap.size W W1) : IsS213 w0 W1 g f0 f1 f2 := h.grown (grown_of_below hw none) (by simp)
theorem IsS213.alloc {w0 W : World} {g : Nat} {f0 : List Int} {f1 : Int} {f2 : Int} (h : IsS213 w0 W g f0 f1 f2) (o : Obj) : IsS213 w0 (W.alloc o) g f0 f1 f2 := h.below (below_alloc (Below.refl _ _) o)
theorem IsS213.drewN {w0 W : World} {g : Nat} {f0 : List Int} {f1 : Int} {f2 : Int} (h : IsS213 w0 W g f0 f1 f2) (m : Nat) : IsS213 w0 (W.drewN m) g f0 f1 f2 := h
theorem IsS213.drew {w0 W : World} {g : Nat} {f0 : List Int} {f1 : Int} {f2 : Int} (h : IsS213 w0 W g f0 f1 f2) : IsS213 w0 W.drew g f0 f1 f2 := h
theorem IsS213.at_ {w0 W : World} {g : Nat} {f0 : List Int} {f1 : Int} {f2 : Int} {w' : World} {m : Nat} (hq : W.drewN m = w') (h : IsS213 w0 W g f0 f1 f2) : IsS213 w0 w' g f0 f1 f2 := by subst hq; exact IsS213.drewN h m
theorem IsS213.apart {w0 W : World} {g : Nat} {f0 : List Int} {f1 : Int} {f2 : Int} {α : Type} {d : Kd α} {e : Nat} {base : Nat} {ok : Nat → Prop} {v : Value} {xs : List α} (h : IsS213 w0 W g f0 f1 f2) (ho : d.R e W base ok v xs) (ht : ∀ q, q ∈ e :: d.E → q ≠ 213) : d.R e W base (fun k => ok k ∧ k ≠ g) v xs := by
 obtain ⟨A0, c0, hb, hg, hr0⟩ := h
 exact Kd.R_types ho hb ht
theorem IsS213.own_ne {w0 W : World} {g : Nat} {f0 : List Int} {f1 : Int} {f2 : Int} {α : Type} {d : Kd α} {e : Nat} {base : Nat} {ok : Nat → Prop} {v : Value} {xs : List α} (h : IsS213 w0 W g f0 f1 f2) (ho : d.R e W base ok v xs) (ht : e ≠ 213) : some g ≠ v.ownBlock := by
 obtain ⟨A0, c0, hb, hg, hr0⟩ := h
 exact Kd.R_ne ho hb ht
theorem IsS213.apartQ {w0 W : World} {g : Nat} {f0 : List Int} {f1 : Int} {f2 : Int} {α : Type} {d : Kd α} {e : Nat} {base : Nat} {ok : Nat → Prop} {v : Value} {xs : List α} (h : IsS213 w0 W g f0 f1 f2) (ho : d.Q e W base ok v xs) (ht : ∀ q, q ∈ e :: d.E → q ≠ 213) : d.Q e W base (fun k => ok k ∧ k ≠ g) v xs := by
 obtain ⟨A0, c0, hb, hg, hr0⟩ := h
 exact Kd.Q_types ho hb ht
theorem IsS213.own_neQ {w0 W : World} {g : Nat} {f0 : List Int} {f1 : Int} {f2 : Int} {α : Type} {d : Kd α} {e : Nat} {base : Nat} {ok : Nat → Prop} {v : Value} {xs : List α} (h : IsS213 w0 W g f0 f1 f2) (ho : d.Q e W base ok v xs) (ht : e ≠ 213) : some g ≠ v.ownBlock := by
 obtain ⟨A0, c0, hb, hg, hr0⟩ := h
 exact Kd.Q_ne ho hb ht
theorem IsS213.apartS {w0 W : World} {g : Nat} {f0 : List Int} {f1 : Int} {f2 : Int} {α : Type} {d : Kd α} {e : Nat} {base : Nat} {ok : Nat → Prop} {v : Value} {xs : List α} (h : IsS213 w0 W g f0 f1 f2) (ho : d.S e W base ok v xs) (ht : ∀ q, q ∈ e :: d.E → q ≠ 213) : d.S e W base (fun k => ok k ∧ k ≠ g) v xs := by
 obtain ⟨A0, c0, hb, hg, hr0⟩ := h
 exact Kd.S_types ho hb ht
theorem IsS213.own_neS {w0 W : World} {g : Nat} {f0 : List Int} {f1 : Int} {f2 : Int} {α : Type} {d : Kd α} {e : Nat} {base : Nat} {ok : Nat → Prop} {v : Value} {xs : List α} (h : IsS213 w0 W g f0 f1 f2) (ho : d.S e W base ok v xs) (ht : e ≠ 213) : some g ≠ v.ownBlock := by
 obtain ⟨A0, c0, hb, hg, hr0⟩ := h
 exact Kd.S_ne ho hb ht
theorem IsS213.lt {w0 W : World} {g : Nat} {f0 : List Int} {f1 : Int} {f2 : Int} (h : IsS213 w0 W g f0 f1 f2) : g < W.heap.size := by
 obtain ⟨A0, c0, hb, hg, hr0⟩ := h
 exact blk_lt hb
theorem IsS213.ge {w0 W : World} {g : Nat} {f0 : List Int} {f1 : Int} {f2 : Int} (h : IsS213 w0 W g f0 f1 f2) : w0.heap.size ≤ g := by
 obtain ⟨A0, c0, hb, hg, hr0⟩ := h
 exact hg
theorem IsS213.ne_blk {w0 W : World} {g : Nat} {f0 : List Int} {f1 : Int} {f2 : Int} {a : Nat} {cs : Array Value} {t : TypeId} {fr : Nat × Nat} (h : IsS213 w0 W g f0 f1 f2) (hb2 : W.heap[a]? = some (.cells cs t fr)) (ht : t ≠ 213) : g ≠ a := by
 obtain ⟨A0, c0, hb, hg, hr0⟩ := h
 rintro rfl
 rw [hb] at hb2
 injection hb2 with hb2
 injection hb2 with _ ht2
 exact ht ht2.symm
theorem IsS213.far {w0 W : World} {g : Nat} {f0 : List Int} {f1 : Int} {f2 : Int} {p : Addr} (h : IsS213 w0 W g f0 f1 f2) (hne : g ≠ p.block) (u : Value) : IsS213 w0 (W.setCell p u) g f0 f1 f2 := by
 obtain ⟨A0, c0, hb, hg, hr0⟩ := h
 exact ⟨A0, c0, blk_far hb hne u, hg, hr0⟩
theorem cellS213_0 {W : World} {g : Nat} {A0 : Option Addr} {c0 : Nat} {f0 : List Int} {f1 : Int} {f2 : Int} (h : W.heap[g]? = some (.cells #[.slice A0 f0.length c0, .int .i64 f1, .int .i64 f2] 213 (0, 0))) : W.cell? ⟨g, 0, none⟩ = some (.slice A0 f0.length c0) := (blk_cell h 0).trans rfl
theorem cellS213_1 {W : World} {g : Nat} {A0 : Option Addr} {c0 : Nat} {f0 : List Int} {f1 : Int} {f2 : Int} (h : W.heap[g]? = some (.cells #[.slice A0 f0.length c0, .int .i64 f1, .int .i64 f2] 213 (0, 0))) : W.cell? ⟨g, 1, none⟩ = some (.int .i64 f1) := (blk_cell h 1).trans rfl
theorem IsS213.set_1 {w0 W : World} {g : Nat} {f0 : List Int} {f1 : Int} {f2 : Int} (h : IsS213 w0 W g f0 f1 f2) (x : Int) : IsS213 w0 (W.setCell ⟨g, 1, none⟩ (.int .i64 x)) g f0 x f2 := by
 obtain ⟨A0, c0, hb, hg, hr0⟩ := h
 exact ⟨A0, c0, by simpa using blk_set hb 1 (.int .i64 x), hg, hr0⟩
theorem cellS213_2 {W : World} {g : Nat} {A0 : Option Addr} {c0 : Nat} {f0 : List Int} {f1 : Int} {f2 : Int} (h : W.heap[g]? = some (.cells #[.slice A0 f0.length c0, .int .i64 f1, .int .i64 f2] 213 (0, 0))) : W.cell? ⟨g, 2, none⟩ = some (.int .i64 f2) := (blk_cell h 2).trans rfl
theorem IsS213.set_2 {w0 W : World} {g : Nat} {f0 : List Int} {f1 : Int} {f2 : Int} (h : IsS213 w0 W g f0 f1 f2) (x : Int) : IsS213 w0 (W.setCell ⟨g, 2, none⟩ (.int .i64 x)) g f0 f1 x := by
 obtain ⟨A0, c0, hb, hg, hr0⟩ := h
 exact ⟨A0, c0, by simpa using blk_set hb 2 (.int .i64 x), hg, hr0⟩
theorem IsS213.new (w0 W : World) (A0 : Option Addr) (c0 : Nat) (f0 : List Int) (f1 : Int) (f2 : Int) (hB : Below w0.heap.size w0 W) (hr0 : Kd.C (Kd.int .u8) w0 A0 f0.length f0) : IsS213 w0 (W.alloc (.cells #[.slice A0 f0.length c0, .int .i64 f1, .int .i64 f2] 213)) W.heap.size f0 f1 f2 := ⟨A0, c0, by simpa using heap_alloc_new W _, hB.size, hr0⟩

/-! ### spec_l01Open: function 116 -/
def spec_l01Open.f (l0 : List Int) : Option (List Int × Int × Int) := some (l0, 0, 101 + ((l0.length : Int) % 1000))
/-! ### spec_DrawQueryTake: function 67 -/
def spec_DrawQueryTake.f (k : Nat) (l0 : List Int) : Option ((List (S231)) × (List (S231)) × Int × Int × Int × Int × Int × Int × Int × Int × Int) := (spec_l01Open.f l0).bind fun bt103 => ((spec_l01Cur_badQuery.f k bt103.1 bt103.2.1 bt103.2.2).bind fun bt107 => ((spec_l01Cur_badElem.f bt103.1 bt107.2.2.2.2.2.2.2.1 bt107.2.2.2.2.2.2.2.2).bind fun bt121 => (some (bt107.1, bt107.2.1, bt107.2.2.1, bt107.2.2.2.1, bt107.2.2.2.2.1, bt107.2.2.2.2.2.1, bt107.2.2.2.2.2.2.1, bt121.1, bt121.2.1, bt121.2.2.1, bt121.2.2.2.1))))
theorem spec_DrawQueryTake.mono : ∀ a0 k, LeO (spec_DrawQueryTake.f k a0) (spec_DrawQueryTake.f (k + 1) a0) := by
 intro a0 k
 unfold spec_DrawQueryTake.f
 repeat' first
 | with_reducible first | apply spec_l01Cur_badQuery.mono | exact LeO.refl _ | exact LeO.none _ | refine LeO.ite ?_ ?_ | refine LeO.bind ?_ (fun _ => ?_)
 | apply spec_l01Cur_badQuery.mono | exact LeO.none _ | refine LeO.ite ?_ ?_ | refine LeO.bind ?_ (fun _ => ?_)
/-! ### spec_l04Key: function 148 -/
def spec_l04Key.f (a0 : Int) : Option (Bool) := if a0 ≥ 0 then (some (decide (a0 ≤ 15))) else (some false)
/-! ### spec_l04Src: function 147 -/
def spec_l04Src.f (a0 : Int) : Option (Bool) := if a0 ≥ 0 then (some (decide (a0 < 4))) else (some false)
/-! ### spec_l05Time: function 155 -/
def spec_l05Time.f (a0 : Int) : Option (Bool) := if a0 ≥ 0 then (some (decide (a0 ≤ 1000))) else (some false)
/-! ### spec_ElemOk: function 71 -/
def spec_ElemOk.f (a0_0 : Int) (a0_1 : Int) (a0_2 : Int) (a0_3 : Int) : Option (Bool) := (spec_l04Src.f a0_0).bind fun t102 => (if t102 = true then ((spec_l04Key.f a0_1).bind fun t103 => (if t103 = true then ((spec_l05Time.f a0_3).bind fun t104 => (some t104)) else (some false))) else (some false))
/-! ### spec_AggKind: function 167 -/
def spec_AggKind.f (a0 : Int) (a1 : Int) : Option (Bool) := if a0 = 6 then (if a1 ≥ 1 then (some (decide (a1 ≤ 4))) else (some false)) else (if a0 ≥ 1 then (if a0 < 6 then (some (a1 == 0)) else (some false)) else (some false))
/-! ### spec_l03Depth: function 243 -/
mutual
def spec_l03Depth.j0 : Nat → List (S231) → Bool → Option (Int)
 | 0, _, _ => none
 | k + 1, x0, x13 => if x13 = true then (some (-1)) else (spec_l03Depth.l0 k x0 0 0 0)
def spec_l03Depth.l0 : Nat → List (S231) → Int → Int → Int → Option (Int)
 | 0, _, _, _, _ => none
 | k + 1, x0, x3, x4, x5 => if x5 < (x0.length : Int) then (if 0 ≤ x5 then (if ((rd_T231 x0 x5).f0) < 0 then (some (-1)) else (if ((rd_T231 x0 x5).f0) > 11 then (some (-1)) else (if ((rd_T231 x0 x5).f0) = 0 then ((spec_l03Takes.f ((rd_T231 x0 x5).f0)).bind fun t105 => (if t105 > x3 then (some (-1)) else ((spec_l03Takes.f ((rd_T231 x0 x5).f0)).bind fun t107 => (spec_l03Depth.l0 k x0 (wrap64 ((wrap64 (x3 - t107)) + 1)) (mx x4 (wrap64 ((wrap64 (x3 - t107)) + 1))) (wrap64 (x5 + 1)))))) else (if ((rd_T231 x0 x5).f1) = 0 then ((spec_l03Takes.f ((rd_T231 x0 x5).f0)).bind fun t110 => (if t110 > x3 then (some (-1)) else ((spec_l03Takes.f ((rd_T231 x0 x5).f0)).bind fun t112 => (spec_l03Depth.l0 k x0 (wrap64 ((wrap64 (x3 - t112)) + 1)) (mx x4 (wrap64 ((wrap64 (x3 - t112)) + 1))) (wrap64 (x5 + 1)))))) else (some (-1)))))) else (none)) else (if x3 = 1 then (some x4) else (some (-1)))
end
def spec_l03Depth.f (k : Nat) (l0 : List (S231)) : Option (Int) := if (l0.length : Int) < 1 then (spec_l03Depth.j0 k l0 true) else (spec_l03Depth.j0 k l0 (decide ((l0.length : Int) > 20)))
theorem spec_l03Depth.mono_l : ∀ k, (∀ y0 y1, LeO (spec_l03Depth.j0 k y0 y1) (spec_l03Depth.j0 (k + 1) y0 y1)) ∧ (∀ y0 y1 y2 y3, LeO (spec_l03Depth.l0 k y0 y1 y2 y3) (spec_l03Depth.l0 (k + 1) y0 y1 y2 y3))
 | 0 => ⟨fun _ _ r h => by simp [spec_l03Depth.j0] at h, fun _ _ _ _ r h => by simp [spec_l03Depth.l0] at h⟩
 | k + 1 => by
  obtain ⟨ih0, ih1⟩ := spec_l03Depth.mono_l k
  refine ⟨?_, ?_⟩
  all_goals
   intros
   first | unfold spec_l03Depth.j0 | unfold spec_l03Depth.l0
   repeat' first
   | with_reducible first | apply ih0 | apply ih1 | exact LeO.refl _ | exact LeO.none _ | refine LeO.ite ?_ ?_ | refine LeO.bind ?_ (fun _ => ?_)
   | apply ih0 | apply ih1 | exact LeO.none _ | refine LeO.ite ?_ ?_ | refine LeO.bind ?_ (fun _ => ?_)
theorem spec_l03Depth.mono : ∀ a0 k, LeO (spec_l03Depth.f k a0) (spec_l03Depth.f (k + 1) a0) := by
 intro a0 k
 obtain ⟨ih0, ih1⟩ := spec_l03Depth.mono_l k
 unfold spec_l03Depth.f
 repeat' first
 | with_reducible first | apply ih0 | apply ih1 | exact LeO.refl _ | exact LeO.none _ | refine LeO.ite ?_ ?_ | refine LeO.bind ?_ (fun _ => ?_)
 | apply ih0 | apply ih1 | exact LeO.none _ | refine LeO.ite ?_ ?_ | refine LeO.bind ?_ (fun _ => ?_)
/-! ### spec_ExprOk: function 165 -/
def spec_ExprOk.f (k : Nat) (l0 : List (S231)) : Option (Bool) := (spec_l03Depth.f k l0).bind fun t101 => (some (decide (t101 ≥ 0)))
theorem spec_ExprOk.mono : ∀ a0 k, LeO (spec_ExprOk.f k a0) (spec_ExprOk.f (k + 1) a0) := by
 intro a0 k
 unfold spec_ExprOk.f
 repeat' first
 | with_reducible first | apply spec_l03Depth.mono | exact LeO.refl _ | exact LeO.none _ | refine LeO.ite ?_ ?_ | refine LeO.bind ?_ (fun _ => ?_)
 | apply spec_l03Depth.mono | exact LeO.none _ | refine LeO.ite ?_ ?_ | refine LeO.bind ?_ (fun _ => ?_)
/-! ### spec_WinOk: function 166 -/
def spec_WinOk.j0 : Nat → Bool → Int → Int → Int → Option (Bool)
 | 0, _, _, _, _ => none
 | k + 1, x20, x102000, x102001, x102002 => if x20 = true then (some false) else (if x102000 = 2 then (if x102002 ≥ 1 then (if x102002 ≤ x102001 then (some (decide (x102001 ≤ (wrap64 (8 * x102002))))) else (some false)) else (some false)) else (some (x102002 == 0)))
def spec_WinOk.f (k : Nat) (a0_0 : Int) (a0_1 : Int) (a0_2 : Int) : Option (Bool) := if a0_0 < 1 then (spec_WinOk.j0 k true a0_0 a0_1 a0_2) else (if a0_0 > 3 then (spec_WinOk.j0 k true a0_0 a0_1 a0_2) else (if a0_1 < 1 then (spec_WinOk.j0 k true a0_0 a0_1 a0_2) else (spec_WinOk.j0 k (decide (a0_1 > 100)) a0_0 a0_1 a0_2)))
theorem spec_WinOk.mono_l : ∀ k, (∀ y0 y1 y2 y3, LeO (spec_WinOk.j0 k y0 y1 y2 y3) (spec_WinOk.j0 (k + 1) y0 y1 y2 y3))
 | 0 => fun _ _ _ _ r h => by simp [spec_WinOk.j0] at h
 | k + 1 => by
  have ih0 := spec_WinOk.mono_l k
  ·intro y0 y1 y2 y3
   unfold spec_WinOk.j0
   repeat' first
   | with_reducible first | apply ih0 | exact LeO.refl _ | exact LeO.none _ | refine LeO.ite ?_ ?_ | refine LeO.bind ?_ (fun _ => ?_)
   | apply ih0 | exact LeO.none _ | refine LeO.ite ?_ ?_ | refine LeO.bind ?_ (fun _ => ?_)
theorem spec_WinOk.mono : ∀ a0 a1 a2 k, LeO (spec_WinOk.f k a0 a1 a2) (spec_WinOk.f (k + 1) a0 a1 a2) := by
 intro a0 a1 a2 k
 have ih0 := spec_WinOk.mono_l k
 unfold spec_WinOk.f
 repeat' first
 | with_reducible first | apply ih0 | exact LeO.refl _ | exact LeO.none _ | refine LeO.ite ?_ ?_ | refine LeO.bind ?_ (fun _ => ?_)
 | apply ih0 | exact LeO.none _ | refine LeO.ite ?_ ?_ | refine LeO.bind ?_ (fun _ => ?_)
/-! ### spec_QueryOk: function 70 -/
def spec_QueryOk.f (k : Nat) (l0_0 : List (S231)) (l0_1 : List (S231)) (a0_2 : Int) (a0_3 : Int) (a0_4 : Int) (a0_5 : Int) (a0_6 : Int) : Option (Bool) := (spec_ExprOk.f k l0_0).bind fun t102 => (if t102 = true then ((spec_ExprOk.f k l0_1).bind fun t103 => (if t103 = true then ((spec_WinOk.f k a0_2 a0_3 a0_4).bind fun t104 => (if t104 = true then ((spec_AggKind.f a0_5 a0_6).bind fun t105 => (some t105)) else (some false))) else (some false))) else (some false))
theorem spec_QueryOk.mono : ∀ a0 a1 a2 a3 a4 a5 a6 k, LeO (spec_QueryOk.f k a0 a1 a2 a3 a4 a5 a6) (spec_QueryOk.f (k + 1) a0 a1 a2 a3 a4 a5 a6) := by
 intro a0 a1 a2 a3 a4 a5 a6 k
 unfold spec_QueryOk.f
 repeat' first
 | with_reducible first | apply spec_ExprOk.mono | apply spec_WinOk.mono | exact LeO.refl _ | exact LeO.none _ | refine LeO.ite ?_ ?_ | refine LeO.bind ?_ (fun _ => ?_)
 | apply spec_ExprOk.mono | apply spec_WinOk.mono | exact LeO.none _ | refine LeO.ite ?_ ?_ | refine LeO.bind ?_ (fun _ => ?_)
/-! ### spec_WideOf: function 280 -/
def spec_WideOf.f (a0 : Int) : Option (Int × Int) := if a0 < 0 then (some ((-1), IntKind.u64.wrap (a0))) else (some (0, IntKind.u64.wrap (a0)))
/-! ### spec_WideInt: function 242 -/
def spec_WideInt.f (a0_0 : Int) (a0_1 : Int) : Option (Int × Bool) := (spec_WideOf.f (wrap64 (a0_1))).bind fun bt102 => (if (!(bt102.1 == a0_0) || (!(bt102.2 == a0_1))) = true then (some (0, false)) else (some (wrap64 (a0_1), true)))
/-! ### spec_l03Bool: function 240 -/
def spec_l03Bool.f (a0 : Bool) : Option (Int) := if a0 = true then (some 1) else (some 0)
/-! ### spec_WideAdd: function 279 -/
def spec_WideAdd.f (a0_0 : Int) (a0_1 : Int) (a1_0 : Int) (a1_1 : Int) : Option (Int × Int) := if (IntKind.u64.wrap (a0_1 + a1_1)) < a0_1 then (some (wrap64 (IntKind.u64.wrap ((IntKind.u64.wrap ((IntKind.u64.wrap (a0_0)) + (IntKind.u64.wrap (a1_0)))) + 1)), IntKind.u64.wrap (a0_1 + a1_1))) else (some (wrap64 (IntKind.u64.wrap ((IntKind.u64.wrap (a0_0)) + (IntKind.u64.wrap (a1_0)))), IntKind.u64.wrap (a0_1 + a1_1)))
/-! ### spec_WideNeg: function 281 -/
def spec_WideNeg.f (a0_0 : Int) (a0_1 : Int) : Option (Int × Int) := (spec_WideAdd.f (wrap64 ((-1) - a0_0)) (IntKind.u64.wrap (18446744073709551615 - a0_1)) 0 1).bind fun bt103 => (some (bt103.1, bt103.2))
/-! ### spec_l03Times: function 282 -/
mutual
def spec_l03Times.j0 : Nat → Int → Int → Int → Int → Int → Option (Int × Int)
 | 0, _, _, _, _, _ => none
 | k + 1, x7, x103000, x103001, x106000, x106001 => spec_l03Times.l0 k x7 x103000 x103001 x106000 x106001
def spec_l03Times.l0 : Nat → Int → Int → Int → Int → Int → Option (Int × Int)
 | 0, _, _, _, _, _ => none
 | k + 1, x7, x103000, x103001, x106000, x106001 => if x7 > 0 then (if (Int.tmod x7 2) = 1 then ((spec_WideAdd.f x103000 x103001 x106000 x106001).bind fun bt108 => ((spec_WideAdd.f x106000 x106001 x106000 x106001).bind fun bt110 => (spec_l03Times.l0 k (IntKind.u64.wrap (Int.tdiv x7 2)) bt108.1 bt108.2 bt110.1 bt110.2))) else ((spec_WideAdd.f x106000 x106001 x106000 x106001).bind fun bt112 => (spec_l03Times.l0 k (IntKind.u64.wrap (Int.tdiv x7 2)) x103000 x103001 bt112.1 bt112.2))) else (some (x103000, x103001))
end
def spec_l03Times.f (k : Nat) (a0 : Int) (a1 : Int) : Option (Int × Int) := (spec_WideOf.f a0).bind fun bt103 => (if a1 < 0 then ((spec_WideNeg.f bt103.1 bt103.2).bind fun bt106 => (spec_l03Times.j0 k (IntKind.u64.wrap (-(IntKind.u64.wrap (a1)))) 0 0 bt106.1 bt106.2)) else (spec_l03Times.j0 k (IntKind.u64.wrap (a1)) 0 0 bt103.1 bt103.2))
theorem spec_l03Times.mono_l : ∀ k, (∀ y0 y1 y2 y3 y4, LeO (spec_l03Times.j0 k y0 y1 y2 y3 y4) (spec_l03Times.j0 (k + 1) y0 y1 y2 y3 y4)) ∧ (∀ y0 y1 y2 y3 y4, LeO (spec_l03Times.l0 k y0 y1 y2 y3 y4) (spec_l03Times.l0 (k + 1) y0 y1 y2 y3 y4))
 | 0 => ⟨fun _ _ _ _ _ r h => by simp [spec_l03Times.j0] at h, fun _ _ _ _ _ r h => by simp [spec_l03Times.l0] at h⟩
 | k + 1 => by
  obtain ⟨ih0, ih1⟩ := spec_l03Times.mono_l k
  refine ⟨?_, ?_⟩
  all_goals
   intros
   first | unfold spec_l03Times.j0 | unfold spec_l03Times.l0
   repeat' first
   | with_reducible first | apply ih0 | apply ih1 | exact LeO.refl _ | exact LeO.none _ | refine LeO.ite ?_ ?_ | refine LeO.bind ?_ (fun _ => ?_)
   | apply ih0 | apply ih1 | exact LeO.none _ | refine LeO.ite ?_ ?_ | refine LeO.bind ?_ (fun _ => ?_)
theorem spec_l03Times.mono : ∀ a0 a1 k, LeO (spec_l03Times.f k a0 a1) (spec_l03Times.f (k + 1) a0 a1) := by
 intro a0 a1 k
 obtain ⟨ih0, ih1⟩ := spec_l03Times.mono_l k
 unfold spec_l03Times.f
 repeat' first
 | with_reducible first | apply ih0 | apply ih1 | exact LeO.refl _ | exact LeO.none _ | refine LeO.ite ?_ ?_ | refine LeO.bind ?_ (fun _ => ?_)
 | apply ih0 | apply ih1 | exact LeO.none _ | refine LeO.ite ?_ ?_ | refine LeO.bind ?_ (fun _ => ?_)
/-! ### spec_l03Two: function 241 -/
def spec_l03Two.f (k : Nat) (a0 : Int) (a1 : Int) (a2 : Int) : Option (Int × Int × Int) := if a0 = 4 then ((spec_WideOf.f a1).bind fun bt102 => ((spec_WideOf.f a2).bind fun bt104 => ((spec_WideAdd.f bt102.1 bt102.2 bt104.1 bt104.2).bind fun bt106 => (some (bt106.1, bt106.2, 0))))) else (if a0 = 5 then ((spec_WideOf.f a1).bind fun bt108 => ((spec_WideOf.f a2).bind fun bt110 => ((spec_WideNeg.f bt110.1 bt110.2).bind fun bt112 => ((spec_WideAdd.f bt108.1 bt108.2 bt112.1 bt112.2).bind fun bt114 => (some (bt114.1, bt114.2, 0)))))) else (if a0 = 6 then ((spec_l03Times.f k a1 a2).bind fun bt116 => (some (bt116.1, bt116.2, 0))) else (if a0 = 7 then (if a2 = 0 then (some (0, 0, 3)) else (if a2 = (-1) then ((spec_WideOf.f a1).bind fun bt118 => ((spec_WideNeg.f bt118.1 bt118.2).bind fun bt120 => (some (bt120.1, bt120.2, 0)))) else ((spec_WideOf.f (wrap64 (Int.tdiv a1 a2))).bind fun bt122 => (some (bt122.1, bt122.2, 0))))) else (if a0 = 8 then ((spec_l03Bool.f (decide (a1 < a2))).bind fun t124 => ((spec_WideOf.f t124).bind fun bt125 => (some (bt125.1, bt125.2, 0)))) else (if a0 = 9 then ((spec_l03Bool.f (a1 == a2)).bind fun t127 => ((spec_WideOf.f t127).bind fun bt128 => (some (bt128.1, bt128.2, 0)))) else (if a1 = 0 then ((spec_l03Bool.f false).bind fun t130 => ((spec_WideOf.f t130).bind fun bt131 => (some (bt131.1, bt131.2, 0)))) else ((spec_l03Bool.f (a2 != 0)).bind fun t133 => ((spec_WideOf.f t133).bind fun bt134 => (some (bt134.1, bt134.2, 0))))))))))
theorem spec_l03Two.mono : ∀ a0 a1 a2 k, LeO (spec_l03Two.f k a0 a1 a2) (spec_l03Two.f (k + 1) a0 a1 a2) := by
 intro a0 a1 a2 k
 unfold spec_l03Two.f
 repeat' first
 | with_reducible first | apply spec_l03Times.mono | exact LeO.refl _ | exact LeO.none _ | refine LeO.ite ?_ ?_ | refine LeO.bind ?_ (fun _ => ?_)
 | apply spec_l03Times.mono | exact LeO.none _ | refine LeO.ite ?_ ?_ | refine LeO.bind ?_ (fun _ => ?_)
/-! ### spec_ExprRun: function 164 -/
def spec_ExprRun.l0 : Nat → List (S231) → List Int → Int → Int → Int → Int → Int → Option (Int × Int)
 | 0, _, _, _, _, _, _, _ => none
 | k + 1, x0, x6, x7, x102000, x102001, x102002, x102003 => if x7 < (x0.length : Int) then (if 0 ≤ x7 then (if ((rd_T231 x0 x7).f0) = 0 then (if x6.length < 17592186044416 then (spec_ExprRun.l0 k x0 (x6 ++ [(rd_T231 x0 x7).f1]) (wrap64 (x7 + 1)) x102000 x102001 x102002 x102003) else (none)) else (if ((rd_T231 x0 x7).f0) = 1 then (if x6.length < 17592186044416 then (spec_ExprRun.l0 k x0 (x6 ++ [x102001]) (wrap64 (x7 + 1)) x102000 x102001 x102002 x102003) else (none)) else (if ((rd_T231 x0 x7).f0) = 2 then (if x6.length < 17592186044416 then (spec_ExprRun.l0 k x0 (x6 ++ [x102002]) (wrap64 (x7 + 1)) x102000 x102001 x102002 x102003) else (none)) else (if ((rd_T231 x0 x7).f0) = 3 then (if x6.length < 17592186044416 then (spec_ExprRun.l0 k x0 (x6 ++ [x102003]) (wrap64 (x7 + 1)) x102000 x102001 x102002 x102003) else (none)) else (if ((rd_T231 x0 x7).f0) = 11 then (if 0 ≤ (wrap64 ((x6.length : Int) - 1)) then (if (wrap64 ((x6.length : Int) - 1)) < (x6.length : Int) then ((spec_l03Bool.f ((rd x6 (wrap64 ((x6.length : Int) - 1))) == 0)).bind fun t122 => (spec_ExprRun.l0 k x0 (x6.set ((wrap64 ((x6.length : Int) - 1)) : Int).toNat t122) (wrap64 (x7 + 1)) x102000 x102001 x102002 x102003)) else (none)) else (none)) else (if 0 ≤ (wrap64 ((x6.length : Int) - 2)) then (if (wrap64 ((x6.length : Int) - 2)) < (x6.length : Int) then (if 0 ≤ (wrap64 ((x6.length : Int) - 1)) then (if (wrap64 ((x6.length : Int) - 1)) < (x6.length : Int) then ((spec_l03Two.f k ((rd_T231 x0 x7).f0) (rd x6 (wrap64 ((x6.length : Int) - 2))) (rd x6 (wrap64 ((x6.length : Int) - 1)))).bind fun bt127 => (if bt127.2.2 = 0 then ((spec_WideInt.f bt127.1 bt127.2.1).bind fun bt131 => (if bt131.2 = true then (if (wrap64 ((x6.length : Int) - 2)) ≤ (x6.length : Int) then ((some (x6.take ((wrap64 ((x6.length : Int) - 2)) : Int).toNat : List Int)).bind fun y133 => (if y133.length < 17592186044416 then (spec_ExprRun.l0 k x0 (y133 ++ [bt131.1]) (wrap64 (x7 + 1)) x102000 x102001 x102002 x102003) else (none))) else (none)) else (some (0, 2)))) else (some (0, bt127.2.2)))) else (none)) else (none)) else (none)) else (none))))))) else (none)) else (if 0 < (x6.length : Int) then (some (rd x6 0, 0)) else (none))
def spec_ExprRun.f (k : Nat) (l0 : List (S231)) (a1_0 : Int) (a1_1 : Int) (a1_2 : Int) (a1_3 : Int) : Option (Int × Int) := (spec_ExprOk.f k l0).bind fun t102 => (if t102 = true then (spec_ExprRun.l0 k l0 (([] : List Int)) 0 a1_0 a1_1 a1_2 a1_3) else (some (0, 1)))
theorem spec_ExprRun.mono_l : ∀ k, (∀ y0 y1 y2 y3 y4 y5 y6, LeO (spec_ExprRun.l0 k y0 y1 y2 y3 y4 y5 y6) (spec_ExprRun.l0 (k + 1) y0 y1 y2 y3 y4 y5 y6))
 | 0 => fun _ _ _ _ _ _ _ r h => by simp [spec_ExprRun.l0] at h
 | k + 1 => by
  have ih0 := spec_ExprRun.mono_l k
  ·intro y0 y1 y2 y3 y4 y5 y6
   unfold spec_ExprRun.l0
   repeat' first
   | with_reducible first | apply ih0 | apply spec_ExprOk.mono | apply spec_l03Two.mono | exact LeO.refl _ | exact LeO.none _ | refine LeO.ite ?_ ?_ | refine LeO.bind ?_ (fun _ => ?_)
   | apply ih0 | apply spec_ExprOk.mono | apply spec_l03Two.mono | exact LeO.none _ | refine LeO.ite ?_ ?_ | refine LeO.bind ?_ (fun _ => ?_)
theorem spec_ExprRun.mono : ∀ a0 a1 a2 a3 a4 k, LeO (spec_ExprRun.f k a0 a1 a2 a3 a4) (spec_ExprRun.f (k + 1) a0 a1 a2 a3 a4) := by
 intro a0 a1 a2 a3 a4 k
 have ih0 := spec_ExprRun.mono_l k
 unfold spec_ExprRun.f
 repeat' first
 | with_reducible first | apply ih0 | apply spec_ExprOk.mono | apply spec_l03Two.mono | exact LeO.refl _ | exact LeO.none _ | refine LeO.ite ?_ ?_ | refine LeO.bind ?_ (fun _ => ?_)
 | apply ih0 | apply spec_ExprOk.mono | apply spec_l03Two.mono | exact LeO.none _ | refine LeO.ite ?_ ?_ | refine LeO.bind ?_ (fun _ => ?_)
/-! ### spec_QueryTake: function 69 -/
def spec_QueryTake.j0 : Nat → Bool → List (S231) → List (S231) → Int → Int → Int → Int → Int → Int → Int → Int → Int → Option (Int × Int)
 | 0, _, _, _, _, _, _, _, _, _, _, _, _ => none
 | k + 1, x17, x102000, x102001, x102002, x102003, x102004, x102005, x102006, x103000, x103001, x103002, x103003 => if x17 = true then (some (0, 2)) else ((spec_ExprRun.f k x102000 x103000 x103001 x103002 x103003).bind fun bt105 => (if bt105.2 = 0 then (if bt105.1 = 0 then (some (0, 1)) else ((spec_ExprRun.f k x102001 x103000 x103001 x103002 x103003).bind fun bt107 => (if bt107.2 = 0 then (some (bt107.1, 0)) else (some (0, 3))))) else (some (0, 3))))
def spec_QueryTake.f (k : Nat) (l0_0 : List (S231)) (l0_1 : List (S231)) (a0_2 : Int) (a0_3 : Int) (a0_4 : Int) (a0_5 : Int) (a0_6 : Int) (a1_0 : Int) (a1_1 : Int) (a1_2 : Int) (a1_3 : Int) : Option (Int × Int) := (spec_QueryOk.f k l0_0 l0_1 a0_2 a0_3 a0_4 a0_5 a0_6).bind fun t103 => (if t103 = true then ((spec_ElemOk.f a1_0 a1_1 a1_2 a1_3).bind fun t104 => (spec_QueryTake.j0 k (!t104) l0_0 l0_1 a0_2 a0_3 a0_4 a0_5 a0_6 a1_0 a1_1 a1_2 a1_3)) else (spec_QueryTake.j0 k true l0_0 l0_1 a0_2 a0_3 a0_4 a0_5 a0_6 a1_0 a1_1 a1_2 a1_3))
theorem spec_QueryTake.mono_l : ∀ k, (∀ y0 y1 y2 y3 y4 y5 y6 y7 y8 y9 y10 y11, LeO (spec_QueryTake.j0 k y0 y1 y2 y3 y4 y5 y6 y7 y8 y9 y10 y11) (spec_QueryTake.j0 (k + 1) y0 y1 y2 y3 y4 y5 y6 y7 y8 y9 y10 y11))
 | 0 => fun _ _ _ _ _ _ _ _ _ _ _ _ r h => by simp [spec_QueryTake.j0] at h
 | k + 1 => by
  have ih0 := spec_QueryTake.mono_l k
  ·intro y0 y1 y2 y3 y4 y5 y6 y7 y8 y9 y10 y11
   unfold spec_QueryTake.j0
   repeat' first
   | with_reducible first | apply ih0 | apply spec_ExprRun.mono | apply spec_QueryOk.mono | exact LeO.refl _ | exact LeO.none _ | refine LeO.ite ?_ ?_ | refine LeO.bind ?_ (fun _ => ?_)
   | apply ih0 | apply spec_ExprRun.mono | apply spec_QueryOk.mono | exact LeO.none _ | refine LeO.ite ?_ ?_ | refine LeO.bind ?_ (fun _ => ?_)
theorem spec_QueryTake.mono : ∀ a0 a1 a2 a3 a4 a5 a6 a7 a8 a9 a10 k, LeO (spec_QueryTake.f k a0 a1 a2 a3 a4 a5 a6 a7 a8 a9 a10) (spec_QueryTake.f (k + 1) a0 a1 a2 a3 a4 a5 a6 a7 a8 a9 a10) := by
 intro a0 a1 a2 a3 a4 a5 a6 a7 a8 a9 a10 k
 have ih0 := spec_QueryTake.mono_l k
 unfold spec_QueryTake.f
 repeat' first
 | with_reducible first | apply ih0 | apply spec_ExprRun.mono | apply spec_QueryOk.mono | exact LeO.refl _ | exact LeO.none _ | refine LeO.ite ?_ ?_ | refine LeO.bind ?_ (fun _ => ?_)
 | apply ih0 | apply spec_ExprRun.mono | apply spec_QueryOk.mono | exact LeO.none _ | refine LeO.ite ?_ ?_ | refine LeO.bind ?_ (fun _ => ?_)
/-! ### laws_FnTake: function 11 -/
mutual
def laws_FnTake.j0 : Nat → Int → Int → Bool → List (S231) → List (S231) → Int → Int → Int → Int → Int → Int → Int → Int → Int → Option (Bool)
 | 0, _, _, _, _, _, _, _, _, _, _, _, _, _, _ => none
 | k + 1, x5, x6, x39, x118000, x118001, x118002, x118003, x118004, x118005, x118006, x119000, x119001, x119002, x119003 => if x39 = true then (some false) else ((spec_QueryOk.f k x118000 x118001 x118002 x118003 x118004 x118005 x118006).bind fun t123 => (if t123 = true then ((spec_ElemOk.f x119000 x119001 x119002 x119003).bind fun t124 => (laws_FnTake.j1 k x5 x6 (!t124) x118000 x118001 x118002 x118003 x118004 x118005 x118006 x119000 x119001 x119002 x119003)) else (laws_FnTake.j1 k x5 x6 true x118000 x118001 x118002 x118003 x118004 x118005 x118006 x119000 x119001 x119002 x119003)))
def laws_FnTake.j1 : Nat → Int → Int → Bool → List (S231) → List (S231) → Int → Int → Int → Int → Int → Int → Int → Int → Int → Option (Bool)
 | 0, _, _, _, _, _, _, _, _, _, _, _, _, _, _ => none
 | k + 1, x5, x6, x47, x118000, x118001, x118002, x118003, x118004, x118005, x118006, x119000, x119001, x119002, x119003 => if x47 = true then (some (x6 == 2)) else ((impl_ExprRun.f k x118000 x119000 x119001 x119002 x119003).bind fun bt125 => ((impl_ExprRun.f k x118001 x119000 x119001 x119002 x119003).bind fun bt127 => (if x6 = 0 then (if bt125.2 = 0 then (if bt125.1 = 0 then (some false) else (if bt127.2 = 0 then (some (bt127.1 == x5)) else (some false))) else (some false)) else (if x6 = 1 then (if bt125.2 = 0 then (some (bt125.1 == 0)) else (some false)) else (if x6 = 3 then (if bt125.2 = 0 then (if bt125.1 = 0 then (some false) else (some (bt127.2 != 0))) else (some true)) else (some false))))))
end
def laws_FnTake.f (k : Nat) (l0 : List Int) : Option (Bool) := (laws_big.f l0).bind fun t101 => (if t101 = true then (some true) else ((spec_DrawQueryTake.f k l0).bind fun bt102 => ((impl_QueryTake.f k bt102.1 bt102.2.1 bt102.2.2.1 bt102.2.2.2.1 bt102.2.2.2.2.1 bt102.2.2.2.2.2.1 bt102.2.2.2.2.2.2.1 bt102.2.2.2.2.2.2.2.1 bt102.2.2.2.2.2.2.2.2.1 bt102.2.2.2.2.2.2.2.2.2.1 bt102.2.2.2.2.2.2.2.2.2.2).bind fun bt119 => ((spec_QueryTake.f k bt102.1 bt102.2.1 bt102.2.2.1 bt102.2.2.2.1 bt102.2.2.2.2.1 bt102.2.2.2.2.2.1 bt102.2.2.2.2.2.2.1 bt102.2.2.2.2.2.2.2.1 bt102.2.2.2.2.2.2.2.2.1 bt102.2.2.2.2.2.2.2.2.2.1 bt102.2.2.2.2.2.2.2.2.2.2).bind fun bt121 => (if bt119.1 = bt121.1 then (laws_FnTake.j0 k bt119.1 bt119.2 (bt119.2 != bt121.2) bt102.1 bt102.2.1 bt102.2.2.1 bt102.2.2.2.1 bt102.2.2.2.2.1 bt102.2.2.2.2.2.1 bt102.2.2.2.2.2.2.1 bt102.2.2.2.2.2.2.2.1 bt102.2.2.2.2.2.2.2.2.1 bt102.2.2.2.2.2.2.2.2.2.1 bt102.2.2.2.2.2.2.2.2.2.2) else (laws_FnTake.j0 k bt119.1 bt119.2 true bt102.1 bt102.2.1 bt102.2.2.1 bt102.2.2.2.1 bt102.2.2.2.2.1 bt102.2.2.2.2.2.1 bt102.2.2.2.2.2.2.1 bt102.2.2.2.2.2.2.2.1 bt102.2.2.2.2.2.2.2.2.1 bt102.2.2.2.2.2.2.2.2.2.1 bt102.2.2.2.2.2.2.2.2.2.2))))))
theorem laws_FnTake.mono_l : ∀ k, (∀ y0 y1 y2 y3 y4 y5 y6 y7 y8 y9 y10 y11 y12 y13, LeO (laws_FnTake.j0 k y0 y1 y2 y3 y4 y5 y6 y7 y8 y9 y10 y11 y12 y13) (laws_FnTake.j0 (k + 1) y0 y1 y2 y3 y4 y5 y6 y7 y8 y9 y10 y11 y12 y13)) ∧ (∀ y0 y1 y2 y3 y4 y5 y6 y7 y8 y9 y10 y11 y12 y13, LeO (laws_FnTake.j1 k y0 y1 y2 y3 y4 y5 y6 y7 y8 y9 y10 y11 y12 y13) (laws_FnTake.j1 (k + 1) y0 y1 y2 y3 y4 y5 y6 y7 y8 y9 y10 y11 y12 y13))
 | 0 => ⟨fun _ _ _ _ _ _ _ _ _ _ _ _ _ _ r h => by simp [laws_FnTake.j0] at h, fun _ _ _ _ _ _ _ _ _ _ _ _ _ _ r h => by simp [laws_FnTake.j1] at h⟩
 | k + 1 => by
  obtain ⟨ih0, ih1⟩ := laws_FnTake.mono_l k
  refine ⟨?_, ?_⟩
  all_goals
   intros
   first | unfold laws_FnTake.j0 | unfold laws_FnTake.j1
   repeat' first
   | with_reducible first | apply ih0 | apply ih1 | apply impl_ExprRun.mono | apply impl_QueryTake.mono | apply spec_DrawQueryTake.mono | apply spec_QueryOk.mono | apply spec_QueryTake.mono | exact LeO.refl _ | exact LeO.none _ | refine LeO.ite ?_ ?_ | refine LeO.bind ?_ (fun _ => ?_)
   | apply ih0 | apply ih1 | apply impl_ExprRun.mono | apply impl_QueryTake.mono | apply spec_DrawQueryTake.mono | apply spec_QueryOk.mono | apply spec_QueryTake.mono | exact LeO.none _ | refine LeO.ite ?_ ?_ | refine LeO.bind ?_ (fun _ => ?_)
theorem laws_FnTake.mono : ∀ a0 k, LeO (laws_FnTake.f k a0) (laws_FnTake.f (k + 1) a0) := by
 intro a0 k
 obtain ⟨ih0, ih1⟩ := laws_FnTake.mono_l k
 unfold laws_FnTake.f
 repeat' first
 | with_reducible first | apply ih0 | apply ih1 | apply impl_ExprRun.mono | apply impl_QueryTake.mono | apply spec_DrawQueryTake.mono | apply spec_QueryOk.mono | apply spec_QueryTake.mono | exact LeO.refl _ | exact LeO.none _ | refine LeO.ite ?_ ?_ | refine LeO.bind ?_ (fun _ => ?_)
 | apply ih0 | apply ih1 | apply impl_ExprRun.mono | apply impl_QueryTake.mono | apply spec_DrawQueryTake.mono | apply spec_QueryOk.mono | apply spec_QueryTake.mono | exact LeO.none _ | refine LeO.ite ?_ ?_ | refine LeO.bind ?_ (fun _ => ?_)
/-! ### impl_Tok_takes: function 245 -/
set_option maxHeartbeats 8000000 in
set_option maxRecDepth 100000 in
theorem impl_Tok_takes.calls (a0_0 : Int) (a0_1 : Int) (r : Int) (w : World) (h : impl_Tok_takes.f a0_0 a0_1 = some r) :
  Calls Try.prog 245 #[.agg #[.int .i64 a0_0, .int .i64 a0_1]] w fun e w' => e = .returned (.int .i64 r) ∧ Below w.heap.size w w' := by
 have hu231 := Try.underlying231
 have HB := Aside0.mk (Below.refl w.heap.size w)
 have H : (if a0_0 ≤ 3 then (some 0) else (if a0_0 = 11 then (some 1) else (some 2))) = some r := h
 clear h
 by_cases c2 : a0_0 ≤ 3
 ·rw [if_pos c2] at H
  have c2b0 : decide (a0_0 ≤ 3) = true := decide_eq_true c2; clear c2; obtain rfl := Option.some.inj H; go_enter Try.func245, Try.ntmps245
  go_wp2_with (first | ((with_reducible refine gate_dst (N := 1) rfl ?_); refine box_event ?hg (N := 1) ?hd (cs := #[.int .i64 a0_0, .int .i64 a0_1]) (t := 231) ?hr ?_; (case hd => rfl); (case hg => rfl); (case hr => exact qz5); intro gb101 hg w3 hbox hb; have h_ := qA4 (below_step qz6 hb) (hbox) ((qz7 : w.heap.size ≤ gb101)) ((qz7 : w.heap.size ≤ gb101)); clear HB; obtain ⟨HB, BK101, GW101, GE101⟩ := h_; clear hb hbox hg; obtain ⟨hcz4_0, hcz4_1⟩ := qC2 BK101.out; obtain ⟨hfz4_0, hfz4_1⟩ := qF2 BK101.out))
  go_ret
  exact ⟨qz13, qz10 GE101.out⟩
 ·rw [if_neg c2] at H
  have c2b0 : decide (a0_0 ≤ 3) = false := decide_eq_false c2; clear c2
  by_cases c5 : a0_0 = 11
  ·rw [if_pos c5] at H
   have c5b0 : (a0_0 == 11) = true := beq_iff_eq.mpr c5; have c5b1 : (a0_0 != 11) = false := bne_eq_false_iff_eq.mpr c5; clear c5; obtain rfl := Option.some.inj H; go_enter Try.func245, Try.ntmps245
   go_wp2_with (first | ((with_reducible refine gate_dst (N := 1) rfl ?_); refine box_event ?hg (N := 1) ?hd (cs := #[.int .i64 a0_0, .int .i64 a0_1]) (t := 231) ?hr ?_; (case hd => rfl); (case hg => rfl); (case hr => exact qz5); intro gb101 hg w6 hbox hb; have h_ := qA4 (below_step qz6 hb) (hbox) ((qz7 : w.heap.size ≤ gb101)) ((qz7 : w.heap.size ≤ gb101)); clear HB; obtain ⟨HB, BK101, GW101, GE101⟩ := h_; clear hb hbox hg; obtain ⟨hcz7_0, hcz7_1⟩ := qC2 BK101.out; obtain ⟨hfz7_0, hfz7_1⟩ := qF2 BK101.out))
   go_ret
   exact ⟨qz13, qz10 GE101.out⟩
  ·rw [if_neg c5] at H
   have c5b0 : (a0_0 == 11) = false := beq_eq_false_iff_ne.mpr c5; have c5b1 : (a0_0 != 11) = true := bne_iff_ne.mpr c5; obtain rfl := Option.some.inj H; go_enter Try.func245, Try.ntmps245
   go_wp2_with (first | ((with_reducible refine gate_dst (N := 1) rfl ?_); refine box_event ?hg (N := 1) ?hd (cs := #[.int .i64 a0_0, .int .i64 a0_1]) (t := 231) ?hr ?_; (case hd => rfl); (case hg => rfl); (case hr => exact qz5); intro gb101 hg w8 hbox hb; have h_ := qA4 (below_step qz6 hb) (hbox) ((qz7 : w.heap.size ≤ gb101)) ((qz7 : w.heap.size ≤ gb101)); clear HB; obtain ⟨HB, BK101, GW101, GE101⟩ := h_; clear hb hbox hg; obtain ⟨hcz9_0, hcz9_1⟩ := qC2 BK101.out; obtain ⟨hfz9_0, hfz9_1⟩ := qF2 BK101.out))
   go_ret
   exact ⟨qz13, qz10 GE101.out⟩
/-! ### impl_in: function 123 -/
set_option maxHeartbeats 8000000 in
set_option maxRecDepth 100000 in
theorem impl_in.calls (a0 : Int) (a1 : Int) (a2 : Int) (r : Bool) (w : World) (h : impl_in.f a0 a1 a2 = some r) :
  Calls Try.prog 123 #[.int .i64 a0, .int .i64 a1, .int .i64 a2] w fun e w' => e = .returned (.bool r) ∧ Drawn0 w w' := by
 have H : (if a1 ≤ a0 then (some (decide (a0 ≤ a2))) else (some false)) = some r := h
 clear h
 by_cases c4 : a1 ≤ a0
 ·rw [if_pos c4] at H
  have c4b0 : decide (a1 ≤ a0) = true := decide_eq_true c4; clear c4; obtain rfl := Option.some.inj H; go_enter Try.func123, Try.ntmps123
  go_wp2
  go_ret
  exact ⟨qz2, qz3⟩
 ·rw [if_neg c4] at H
  have c4b0 : decide (a1 ≤ a0) = false := decide_eq_false c4; clear c4; obtain rfl := Option.some.inj H; go_enter Try.func123, Try.ntmps123
  go_wp2
  go_ret
  exact ⟨qz2, qz3⟩
/-! ### impl_depth: function 244 -/
set_option maxHeartbeats 8000000 in
set_option maxRecDepth 100000 in
theorem impl_depth.calls (k : Nat) (A0 : Option Addr) (c0 : Nat) (l0 : List (S231)) (r : Int) (w : World) (hr0 : Kd.C k231 w A0 l0.length l0) (hc0 : l0.length ≤ c0) (h : impl_depth.f k l0 = some r) :
  Calls Try.prog 244 #[.slice A0 l0.length c0] w fun e w' => e = .returned (.int .i64 r) ∧ Below w.heap.size w w' := by
 have hu231 := Try.underlying231
 have HR0 := Aside0.mk hr0
 have HC0 := Aside0.mk hc0
 clear hr0 hc0
 have HB := Aside0.mk (Below.refl w.heap.size w)
 have H : ((impl_in.f (l0.length : Int) 1 20).bind fun t101 => (if t101 = true then (impl_depth.l0 k 0 0 l0 (l0.length : Int) 0) else (some (-1)))) = some r := h
 clear h
 replace H := qB H
 obtain ⟨t101, A2, H⟩ := H
 try dsimp only at H
 by_cases c3 : t101 = true
 ·subst c3
  rw [if_pos rfl] at H; have H' := Aside0.mk H; clear H; go_enter Try.func244, Try.ntmps244
  go_wp2_with (first | ((with_reducible refine gate_callee (f := 123) rfl ?_); refine goesL_ (some 9) rfl rfl Try.func123 (by kernel_rfl) rfl #[.int .i64 (l0.length : Int), .int .i64 1, .int .i64 20] rfl qz1 ?_; (with_reducible refine (impl_in.calls (l0.length : Int) 1 20 true _ A2.out).mono ?_); rintro e w' ⟨rfl, ⟨nd, rfl⟩⟩; refine ⟨_, rfl, ?_⟩))
  go_loopg [3, 4, 13] k (fun kq v3 v4 v13 w' => ∃ (x3_1 : Int) (x4_1 : Int) (x13_1 : Int), v3 = .int .i64 x3_1 ∧ v4 = .int .i64 x4_1 ∧ v13 = .int .i64 x13_1 ∧ Aside0 (impl_depth.l0 kq x3_1 x4_1 l0 (l0.length : Int) x13_1 = some r) ∧ Aside0 (kq ≤ k) ∧ Aside0 (Below w.heap.size w w'))
  case atStart => exact ⟨(0), (0), (0), qz2, qz2, qz2, H', ⟨Nat.le_refl _⟩, ⟨qz6⟩⟩
  case round =>
   clear H'; (try clear c1); (try clear c2); (try clear p2); (try clear c3); obtain ⟨x3_1, x4_1, x13_1, rfl, rfl, rfl, HA, HK1, HB⟩ := hrel
   cases gk with
   | zero => exact absurd HA.out (by simp [impl_depth.l0])
   | succ k1 =>
    have H := HA.out; clear HA; simp only [impl_depth.l0] at H
    by_cases c4 : x13_1 < (l0.length : Int)
    ·rw [if_pos c4] at H
     have c4b0 : decide (x13_1 < (l0.length : Int)) = true := decide_eq_true c4; clear c4
     by_cases c5 : 0 ≤ x13_1
     ·rw [if_pos c5] at H
      have c5b0 : decide (0 ≤ x13_1) = true := decide_eq_true c5; clear c5
      by_cases c6 : x13_1 < (l0.length : Int)
      ·rw [if_pos c6] at H
       have c6b0 : decide (x13_1 < (l0.length : Int)) = true := decide_eq_true c6; clear c6; replace H := qB H; obtain ⟨t104, A7, H⟩ := H
       try dsimp only at H
       by_cases c8 : t104 = true
       ·subst c8
        rw [if_pos rfl] at H
        by_cases c9 : ((rd_T231 l0 x13_1).f0) = 0
        ·rw [if_pos c9] at H
         have c9b0 : (((rd_T231 l0 x13_1).f0) == 0) = true := beq_iff_eq.mpr c9; have c9b1 : (((rd_T231 l0 x13_1).f0) != 0) = false := bne_eq_false_iff_eq.mpr c9; clear c9; replace H := qB H; obtain ⟨t105, A10, H⟩ := H
         try dsimp only at H
         by_cases c11 : x3_1 < t105
         ·rw [if_pos c11] at H
          have c11b0 : decide (x3_1 < t105) = true := decide_eq_true c11; clear c11; obtain rfl := Option.some.inj H; have p102 : 0 ≤ (x13_1 : Int) := of_decide_eq_true qz4; have q102 : x13_1 < (l0.length : Int) := of_decide_eq_true qz4; obtain ⟨ad102, e102, hx102_0, hx102_1⟩ := at_T231 HR0.out x13_1 p102 q102
          cases e102
          replace hx102_0 := qcb HB hx102_0; replace hx102_1 := qcb HB hx102_1; replace p102 := eq_true p102; replace q102 := eq_true q102
          go_wp2_with (first | ((with_reducible refine gate_dst (N := 6) rfl ?_); refine box_event ?hg (N := 6) ?hd (cs := #[.int .i64 0, .int .i64 0]) (t := 231) ?hr ?_; (case hd => rfl); (case hg => rfl); (case hr => exact qz5); intro gb103 hg w12 hbox hb; have h_ := qA4 (below_step qz6 hb) (hbox) ((qz7 : w.heap.size ≤ gb103)) ((qz7 : w.heap.size ≤ gb103)); clear HB; obtain ⟨HB, BK103, GW103, GE103⟩ := h_; clear hb hbox hg; obtain ⟨hcz13_0, hcz13_1⟩ := qC2 BK103.out; obtain ⟨hfz13_0, hfz13_1⟩ := qF2 BK103.out) | ((with_reducible refine gate_callee (f := 123) rfl ?_); refine goesL_ (some 19) rfl rfl Try.func123 (by kernel_rfl) rfl #[.int .i64 ((rd_T231 l0 x13_1).f0), .int .i64 0, .int .i64 11] rfl qz1 ?_; (with_reducible refine (impl_in.calls ((rd_T231 l0 x13_1).f0) 0 11 true _ A7.out).mono ?_); rintro e w' ⟨rfl, ⟨nd, rfl⟩⟩; refine ⟨_, rfl, ?_⟩) | (go_at_call 245; (with_reducible refine (impl_Tok_takes.calls ((rd_T231 l0 x13_1).f0) ((rd_T231 l0 x13_1).f1) t105 _ A10.out).mono ?_); rintro e w14 ⟨rfl, hb⟩; have h_ := qA2 (blk_below (g := gb103) (o := .cells #[.int .i64 ((rd_T231 l0 x13_1).f0), .int .i64 ((rd_T231 l0 x13_1).f1)] 231 (0, 0)) (qz93 BK103.out) hb) (below_step (qz10 GE103.out) hb); clear BK103 HB; obtain ⟨BK103, HB⟩ := h_; (try clear hb); (try clear hb2); (try clear hk); (try clear hi)))
          go_ret
          exact ⟨qz13, qz10 GE103.out⟩
         ·rw [if_neg c11] at H
          have c11b0 : decide (x3_1 < t105) = false := decide_eq_false c11; clear c11; replace H := qB H; obtain ⟨t106, A15, H⟩ := H
          try dsimp only at H
          obtain ⟨ji16, hji16⟩ : ∃ j_ : Int, (mx x4_1 (wrap64 (x3_1 + (wrap64 (1 - t106))))) = j_ := ⟨_, rfl⟩; replace H : (impl_depth.l0 k1 (wrap64 (x3_1 + (wrap64 (1 - t106)))) ji16 l0 (l0.length : Int) (wrap64 (x13_1 + 1))) = some r := by first | (rw [hji16] at H; exact H) | (simp only [hji16] at H ⊢; exact H)
          (try rw [hji16] at A7); (try rw [hji16] at A10); (try rw [hji16] at A15); have hji16_ : (if x4_1 < (wrap64 (x3_1 + (wrap64 (1 - t106)))) then (wrap64 (x3_1 + (wrap64 (1 - t106)))) else x4_1) = ji16 := hji16; have H' := Aside0.mk H; clear H; have p102 : 0 ≤ (x13_1 : Int) := of_decide_eq_true qz4; have q102 : x13_1 < (l0.length : Int) := of_decide_eq_true qz4; obtain ⟨ad102, e102, hx102_0, hx102_1⟩ := at_T231 HR0.out x13_1 p102 q102
          cases e102
          replace hx102_0 := qcb HB hx102_0; replace hx102_1 := qcb HB hx102_1; replace p102 := eq_true p102; replace q102 := eq_true q102
          go_wp2_with (first | ((with_reducible refine gate_dst (N := 6) rfl ?_); refine box_event ?hg (N := 6) ?hd (cs := #[.int .i64 0, .int .i64 0]) (t := 231) ?hr ?_; (case hd => rfl); (case hg => rfl); (case hr => exact qz5); intro gb103 hg w17 hbox hb; have h_ := qA4 (below_step qz6 hb) (hbox) ((qz7 : w.heap.size ≤ gb103)) ((qz7 : w.heap.size ≤ gb103)); clear HB; obtain ⟨HB, BK103, GW103, GE103⟩ := h_; clear hb hbox hg; obtain ⟨hcz18_0, hcz18_1⟩ := qC2 BK103.out; obtain ⟨hfz18_0, hfz18_1⟩ := qF2 BK103.out) | ((with_reducible refine gate_callee (f := 123) rfl ?_); refine goesL_ (some 19) rfl rfl Try.func123 (by kernel_rfl) rfl #[.int .i64 ((rd_T231 l0 x13_1).f0), .int .i64 0, .int .i64 11] rfl qz1 ?_; (with_reducible refine (impl_in.calls ((rd_T231 l0 x13_1).f0) 0 11 true _ A7.out).mono ?_); rintro e w' ⟨rfl, ⟨nd, rfl⟩⟩; refine ⟨_, rfl, ?_⟩) | (go_at_call 245; (with_reducible refine (impl_Tok_takes.calls ((rd_T231 l0 x13_1).f0) ((rd_T231 l0 x13_1).f1) t105 _ A10.out).mono ?_); rintro e w19 ⟨rfl, hb⟩; have h_ := qA2 (blk_below (g := gb103) (o := .cells #[.int .i64 ((rd_T231 l0 x13_1).f0), .int .i64 ((rd_T231 l0 x13_1).f1)] 231 (0, 0)) (qz93 BK103.out) hb) (below_step (qz10 GE103.out) hb); clear BK103 HB; obtain ⟨BK103, HB⟩ := h_; (try clear hb); (try clear hb2); (try clear hk); (try clear hi); obtain ⟨hcz20_0, hcz20_1⟩ := qC2 BK103.out; obtain ⟨hfz20_0, hfz20_1⟩ := qF2 BK103.out) | ((with_reducible refine gate_callee (f := 245) rfl ?_); refine goesL_ (some 39) rfl rfl Try.func245 (by kernel_rfl) rfl #[.agg #[.int .i64 ((rd_T231 l0 x13_1).f0), .int .i64 ((rd_T231 l0 x13_1).f1)]] rfl qz1 ?_; (with_reducible refine (impl_Tok_takes.calls ((rd_T231 l0 x13_1).f0) ((rd_T231 l0 x13_1).f1) t106 _ A15.out).mono ?_); rintro e w21 ⟨rfl, hb⟩; refine ⟨_, rfl, ?_⟩; have h_ := qA2 (blk_below (g := gb103) (o := .cells #[.int .i64 ((rd_T231 l0 x13_1).f0), .int .i64 ((rd_T231 l0 x13_1).f1)] 231 (0, 0)) (qz8 BK103.out) hb) (below_step (qz10 GE103.out) hb); clear BK103 HB; obtain ⟨BK103, HB⟩ := h_; (try clear hb); (try clear hb2); (try clear hk); (try clear hi)))
          go_roundg k1
          case measure => have := HK1.out; omega
          case rel => exact ⟨(wrap64 (x3_1 + (wrap64 (1 - t106)))), (ji16), (wrap64 (x13_1 + 1)), qz2, (by first | rfl | (simp; done) | (simp only [← hji16] <;> (first | rfl | simp)) | (simp [*]; done)), qz2, H', ⟨by have := HK1.out; omega⟩, ⟨qz10 GE103.out⟩⟩
        ·rw [if_neg c9] at H
         have c9b0 : (((rd_T231 l0 x13_1).f0) == 0) = false := beq_eq_false_iff_ne.mpr c9; have c9b1 : (((rd_T231 l0 x13_1).f0) != 0) = true := bne_iff_ne.mpr c9
         by_cases c22 : ((rd_T231 l0 x13_1).f1) = 0
         ·rw [if_pos c22] at H
          have c22b0 : (((rd_T231 l0 x13_1).f1) == 0) = true := beq_iff_eq.mpr c22; have c22b1 : (((rd_T231 l0 x13_1).f1) != 0) = false := bne_eq_false_iff_eq.mpr c22; clear c22; replace H := qB H; obtain ⟨t107, A23, H⟩ := H
          try dsimp only at H
          by_cases c24 : x3_1 < t107
          ·rw [if_pos c24] at H
           have c24b0 : decide (x3_1 < t107) = true := decide_eq_true c24; clear c24; obtain rfl := Option.some.inj H; have p102 : 0 ≤ (x13_1 : Int) := of_decide_eq_true qz4; have q102 : x13_1 < (l0.length : Int) := of_decide_eq_true qz4; obtain ⟨ad102, e102, hx102_0, hx102_1⟩ := at_T231 HR0.out x13_1 p102 q102
           cases e102
           replace hx102_0 := qcb HB hx102_0; replace hx102_1 := qcb HB hx102_1; replace p102 := eq_true p102; replace q102 := eq_true q102
           go_wp2_with (first | ((with_reducible refine gate_dst (N := 6) rfl ?_); refine box_event ?hg (N := 6) ?hd (cs := #[.int .i64 0, .int .i64 0]) (t := 231) ?hr ?_; (case hd => rfl); (case hg => rfl); (case hr => exact qz5); intro gb103 hg w25 hbox hb; have h_ := qA4 (below_step qz6 hb) (hbox) ((qz7 : w.heap.size ≤ gb103)) ((qz7 : w.heap.size ≤ gb103)); clear HB; obtain ⟨HB, BK103, GW103, GE103⟩ := h_; clear hb hbox hg; obtain ⟨hcz26_0, hcz26_1⟩ := qC2 BK103.out; obtain ⟨hfz26_0, hfz26_1⟩ := qF2 BK103.out) | ((with_reducible refine gate_callee (f := 123) rfl ?_); refine goesL_ (some 19) rfl rfl Try.func123 (by kernel_rfl) rfl #[.int .i64 ((rd_T231 l0 x13_1).f0), .int .i64 0, .int .i64 11] rfl qz1 ?_; (with_reducible refine (impl_in.calls ((rd_T231 l0 x13_1).f0) 0 11 true _ A7.out).mono ?_); rintro e w' ⟨rfl, ⟨nd, rfl⟩⟩; refine ⟨_, rfl, ?_⟩) | (go_at_call 245; (with_reducible refine (impl_Tok_takes.calls ((rd_T231 l0 x13_1).f0) ((rd_T231 l0 x13_1).f1) t107 _ A23.out).mono ?_); rintro e w27 ⟨rfl, hb⟩; have h_ := qA2 (blk_below (g := gb103) (o := .cells #[.int .i64 ((rd_T231 l0 x13_1).f0), .int .i64 ((rd_T231 l0 x13_1).f1)] 231 (0, 0)) (qz93 BK103.out) hb) (below_step (qz10 GE103.out) hb); clear BK103 HB; obtain ⟨BK103, HB⟩ := h_; (try clear hb); (try clear hb2); (try clear hk); (try clear hi)))
           go_ret
           exact ⟨qz13, qz10 GE103.out⟩
          ·rw [if_neg c24] at H
           have c24b0 : decide (x3_1 < t107) = false := decide_eq_false c24; clear c24; replace H := qB H; obtain ⟨t108, A28, H⟩ := H
           try dsimp only at H
           obtain ⟨ji29, hji29⟩ : ∃ j_ : Int, (mx x4_1 (wrap64 (x3_1 + (wrap64 (1 - t108))))) = j_ := ⟨_, rfl⟩; replace H : (impl_depth.l0 k1 (wrap64 (x3_1 + (wrap64 (1 - t108)))) ji29 l0 (l0.length : Int) (wrap64 (x13_1 + 1))) = some r := by first | (rw [hji29] at H; exact H) | (simp only [hji29] at H ⊢; exact H)
           (try rw [hji29] at A7); (try rw [hji29] at A23); (try rw [hji29] at A28); have hji29_ : (if x4_1 < (wrap64 (x3_1 + (wrap64 (1 - t108)))) then (wrap64 (x3_1 + (wrap64 (1 - t108)))) else x4_1) = ji29 := hji29; have H' := Aside0.mk H; clear H; have p102 : 0 ≤ (x13_1 : Int) := of_decide_eq_true qz4; have q102 : x13_1 < (l0.length : Int) := of_decide_eq_true qz4; obtain ⟨ad102, e102, hx102_0, hx102_1⟩ := at_T231 HR0.out x13_1 p102 q102
           cases e102
           replace hx102_0 := qcb HB hx102_0; replace hx102_1 := qcb HB hx102_1; replace p102 := eq_true p102; replace q102 := eq_true q102
           go_wp2_with (first | ((with_reducible refine gate_dst (N := 6) rfl ?_); refine box_event ?hg (N := 6) ?hd (cs := #[.int .i64 0, .int .i64 0]) (t := 231) ?hr ?_; (case hd => rfl); (case hg => rfl); (case hr => exact qz5); intro gb103 hg w30 hbox hb; have h_ := qA4 (below_step qz6 hb) (hbox) ((qz7 : w.heap.size ≤ gb103)) ((qz7 : w.heap.size ≤ gb103)); clear HB; obtain ⟨HB, BK103, GW103, GE103⟩ := h_; clear hb hbox hg; obtain ⟨hcz31_0, hcz31_1⟩ := qC2 BK103.out; obtain ⟨hfz31_0, hfz31_1⟩ := qF2 BK103.out) | ((with_reducible refine gate_callee (f := 123) rfl ?_); refine goesL_ (some 19) rfl rfl Try.func123 (by kernel_rfl) rfl #[.int .i64 ((rd_T231 l0 x13_1).f0), .int .i64 0, .int .i64 11] rfl qz1 ?_; (with_reducible refine (impl_in.calls ((rd_T231 l0 x13_1).f0) 0 11 true _ A7.out).mono ?_); rintro e w' ⟨rfl, ⟨nd, rfl⟩⟩; refine ⟨_, rfl, ?_⟩) | (go_at_call 245; (with_reducible refine (impl_Tok_takes.calls ((rd_T231 l0 x13_1).f0) ((rd_T231 l0 x13_1).f1) t107 _ A23.out).mono ?_); rintro e w32 ⟨rfl, hb⟩; have h_ := qA2 (blk_below (g := gb103) (o := .cells #[.int .i64 ((rd_T231 l0 x13_1).f0), .int .i64 ((rd_T231 l0 x13_1).f1)] 231 (0, 0)) (qz93 BK103.out) hb) (below_step (qz10 GE103.out) hb); clear BK103 HB; obtain ⟨BK103, HB⟩ := h_; (try clear hb); (try clear hb2); (try clear hk); (try clear hi); obtain ⟨hcz33_0, hcz33_1⟩ := qC2 BK103.out; obtain ⟨hfz33_0, hfz33_1⟩ := qF2 BK103.out) | ((with_reducible refine gate_callee (f := 245) rfl ?_); refine goesL_ (some 39) rfl rfl Try.func245 (by kernel_rfl) rfl #[.agg #[.int .i64 ((rd_T231 l0 x13_1).f0), .int .i64 ((rd_T231 l0 x13_1).f1)]] rfl qz1 ?_; (with_reducible refine (impl_Tok_takes.calls ((rd_T231 l0 x13_1).f0) ((rd_T231 l0 x13_1).f1) t108 _ A28.out).mono ?_); rintro e w34 ⟨rfl, hb⟩; refine ⟨_, rfl, ?_⟩; have h_ := qA2 (blk_below (g := gb103) (o := .cells #[.int .i64 ((rd_T231 l0 x13_1).f0), .int .i64 ((rd_T231 l0 x13_1).f1)] 231 (0, 0)) (qz8 BK103.out) hb) (below_step (qz10 GE103.out) hb); clear BK103 HB; obtain ⟨BK103, HB⟩ := h_; (try clear hb); (try clear hb2); (try clear hk); (try clear hi)))
           go_roundg k1
           case measure => have := HK1.out; omega
           case rel => exact ⟨(wrap64 (x3_1 + (wrap64 (1 - t108)))), (ji29), (wrap64 (x13_1 + 1)), qz2, (by first | rfl | (simp; done) | (simp only [← hji29] <;> (first | rfl | simp)) | (simp [*]; done)), qz2, H', ⟨by have := HK1.out; omega⟩, ⟨qz10 GE103.out⟩⟩
         ·rw [if_neg c22] at H
          have c22b0 : (((rd_T231 l0 x13_1).f1) == 0) = false := beq_eq_false_iff_ne.mpr c22; have c22b1 : (((rd_T231 l0 x13_1).f1) != 0) = true := bne_iff_ne.mpr c22; obtain rfl := Option.some.inj H; have p102 : 0 ≤ (x13_1 : Int) := of_decide_eq_true qz4; have q102 : x13_1 < (l0.length : Int) := of_decide_eq_true qz4; obtain ⟨ad102, e102, hx102_0, hx102_1⟩ := at_T231 HR0.out x13_1 p102 q102
          cases e102
          replace hx102_0 := qcb HB hx102_0; replace hx102_1 := qcb HB hx102_1; replace p102 := eq_true p102; replace q102 := eq_true q102
          go_wp2_with (first | ((with_reducible refine gate_dst (N := 6) rfl ?_); refine box_event ?hg (N := 6) ?hd (cs := #[.int .i64 0, .int .i64 0]) (t := 231) ?hr ?_; (case hd => rfl); (case hg => rfl); (case hr => exact qz5); intro gb103 hg w35 hbox hb; have h_ := qA4 (below_step qz6 hb) (hbox) ((qz7 : w.heap.size ≤ gb103)) ((qz7 : w.heap.size ≤ gb103)); clear HB; obtain ⟨HB, BK103, GW103, GE103⟩ := h_; clear hb hbox hg; obtain ⟨hcz36_0, hcz36_1⟩ := qC2 BK103.out; obtain ⟨hfz36_0, hfz36_1⟩ := qF2 BK103.out) | ((with_reducible refine gate_callee (f := 123) rfl ?_); refine goesL_ (some 19) rfl rfl Try.func123 (by kernel_rfl) rfl #[.int .i64 ((rd_T231 l0 x13_1).f0), .int .i64 0, .int .i64 11] rfl qz1 ?_; (with_reducible refine (impl_in.calls ((rd_T231 l0 x13_1).f0) 0 11 true _ A7.out).mono ?_); rintro e w' ⟨rfl, ⟨nd, rfl⟩⟩; refine ⟨_, rfl, ?_⟩))
          go_ret
          exact ⟨qz13, qz10 GE103.out⟩
       ·replace c8 := Bool.eq_false_iff.mpr c8
        subst c8; rw [if_neg (show ¬ (false = true) by decide)] at H
        obtain rfl := Option.some.inj H; have p102 : 0 ≤ (x13_1 : Int) := of_decide_eq_true qz4; have q102 : x13_1 < (l0.length : Int) := of_decide_eq_true qz4; obtain ⟨ad102, e102, hx102_0, hx102_1⟩ := at_T231 HR0.out x13_1 p102 q102
        cases e102
        replace hx102_0 := qcb HB hx102_0; replace hx102_1 := qcb HB hx102_1; replace p102 := eq_true p102; replace q102 := eq_true q102
        go_wp2_with (first | ((with_reducible refine gate_dst (N := 6) rfl ?_); refine box_event ?hg (N := 6) ?hd (cs := #[.int .i64 0, .int .i64 0]) (t := 231) ?hr ?_; (case hd => rfl); (case hg => rfl); (case hr => exact qz5); intro gb103 hg w37 hbox hb; have h_ := qA4 (below_step qz6 hb) (hbox) ((qz7 : w.heap.size ≤ gb103)) ((qz7 : w.heap.size ≤ gb103)); clear HB; obtain ⟨HB, BK103, GW103, GE103⟩ := h_; clear hb hbox hg; obtain ⟨hcz38_0, hcz38_1⟩ := qC2 BK103.out; obtain ⟨hfz38_0, hfz38_1⟩ := qF2 BK103.out) | ((with_reducible refine gate_callee (f := 123) rfl ?_); refine goesL_ (some 19) rfl rfl Try.func123 (by kernel_rfl) rfl #[.int .i64 ((rd_T231 l0 x13_1).f0), .int .i64 0, .int .i64 11] rfl qz1 ?_; (with_reducible refine (impl_in.calls ((rd_T231 l0 x13_1).f0) 0 11 false _ A7.out).mono ?_); rintro e w' ⟨rfl, ⟨nd, rfl⟩⟩; refine ⟨_, rfl, ?_⟩))
        go_ret
        exact ⟨qz13, qz10 GE103.out⟩
      ·rw [if_neg c6] at H
       exact absurd H (by simp)
     ·rw [if_neg c5] at H
      exact absurd H (by simp)
    ·rw [if_neg c4] at H
     have c4b0 : decide (x13_1 < (l0.length : Int)) = false := decide_eq_false c4; clear c4
     by_cases c39 : x3_1 = 1
     ·rw [if_pos c39] at H
      have c39b0 : (x3_1 == 1) = true := beq_iff_eq.mpr c39; have c39b1 : (x3_1 != 1) = false := bne_eq_false_iff_eq.mpr c39; clear c39; obtain rfl := Option.some.inj H
      go_wp2
      go_ret
      exact ⟨qz13, qz6⟩
     ·rw [if_neg c39] at H
      have c39b0 : (x3_1 == 1) = false := beq_eq_false_iff_ne.mpr c39; have c39b1 : (x3_1 != 1) = true := bne_iff_ne.mpr c39; obtain rfl := Option.some.inj H
      go_wp2
      go_ret
      exact ⟨qz13, qz6⟩
 ·replace c3 := Bool.eq_false_iff.mpr c3
  subst c3; rw [if_neg (show ¬ (false = true) by decide)] at H
  obtain rfl := Option.some.inj H; go_enter Try.func244, Try.ntmps244
  go_wp2_with (first | ((with_reducible refine gate_callee (f := 123) rfl ?_); refine goesL_ (some 9) rfl rfl Try.func123 (by kernel_rfl) rfl #[.int .i64 (l0.length : Int), .int .i64 1, .int .i64 20] rfl qz1 ?_; (with_reducible refine (impl_in.calls (l0.length : Int) 1 20 false _ A2.out).mono ?_); rintro e w' ⟨rfl, ⟨nd, rfl⟩⟩; refine ⟨_, rfl, ?_⟩))
  go_ret
  exact ⟨qz13, qz6⟩
/-! ### impl_isExpr: function 168 -/
set_option maxHeartbeats 8000000 in
set_option maxRecDepth 100000 in
theorem impl_isExpr.calls (k : Nat) (A0 : Option Addr) (c0 : Nat) (l0 : List (S231)) (r : Bool) (w : World) (hr0 : Kd.C k231 w A0 l0.length l0) (hc0 : l0.length ≤ c0) (h : impl_isExpr.f k l0 = some r) :
  Calls Try.prog 168 #[.slice A0 l0.length c0] w fun e w' => e = .returned (.bool r) ∧ Below w.heap.size w w' := by
 have HR0 := Aside0.mk hr0
 have HC0 := Aside0.mk hc0
 clear hr0 hc0
 have HB := Aside0.mk (Below.refl w.heap.size w)
 have H : ((impl_depth.f k l0).bind fun t101 => (some (decide (t101 > 0)))) = some r := h
 clear h
 replace H := qB H
 obtain ⟨t101, A2, H⟩ := H
 try dsimp only at H
 obtain rfl := Option.some.inj H
 go_enter Try.func168, Try.ntmps168
 go_wp2_with (first | ((with_reducible refine gate_callee (f := 244) rfl ?_); refine goesL_ (some 4) rfl rfl Try.func244 (by kernel_rfl) rfl #[.slice A0 l0.length c0] rfl qz1 ?_; (with_reducible refine (impl_depth.calls k _ _ l0 t101 _ ?side1 ?side2 A2.out).mono ?_); (case side1 => exact qz62 HR0.out); (case side2 => exact HC0.out); rintro e w3 ⟨rfl, hb⟩; refine ⟨_, rfl, ?_⟩; replace HB := Aside0.mk (below_step qz6 hb); (try clear hb); (try clear hb2); (try clear hk); (try clear hi)))
 go_ret
 exact ⟨qz13, qz6⟩
/-! ### impl_Tok_push: function 246 -/
set_option maxHeartbeats 8000000 in
set_option maxRecDepth 100000 in
theorem impl_Tok_push.calls (a0_0 : Int) (a0_1 : Int) (a1_0 : Int) (a1_1 : Int) (a1_2 : Int) (a1_3 : Int) (r : Int) (w : World) (h : impl_Tok_push.f a0_0 a0_1 a1_0 a1_1 a1_2 a1_3 = some r) :
  Calls Try.prog 246 #[.agg #[.int .i64 a0_0, .int .i64 a0_1], .agg #[.int .i64 a1_0, .int .i64 a1_1, .int .i64 a1_2, .int .i64 a1_3]] w fun e w' => e = .returned (.int .i64 r) ∧ Below w.heap.size w w' := by
 have hu231 := Try.underlying231
 have hu75 := Try.underlying75
 have HB := Aside0.mk (Below.refl w.heap.size w)
 have H : (if a0_0 = 1 then (some a1_1) else (if a0_0 = 2 then (some a1_2) else (if a0_0 = 3 then (some a1_3) else (some a0_1)))) = some r := h
 clear h
 by_cases c3 : a0_0 = 1
 ·rw [if_pos c3] at H
  have c3b0 : (a0_0 == 1) = true := beq_iff_eq.mpr c3; have c3b1 : (a0_0 != 1) = false := bne_eq_false_iff_eq.mpr c3; clear c3; obtain rfl := Option.some.inj H; go_enter Try.func246, Try.ntmps246
  go_wp2_with (first | ((with_reducible refine gate_dst (N := 2) rfl ?_); refine box_event ?hg (N := 2) ?hd (cs := #[.int .i64 a0_0, .int .i64 a0_1]) (t := 231) ?hr ?_; (case hd => rfl); (case hg => rfl); (case hr => exact qz5); intro gb101 hg w4 hbox hb; have h_ := qA4 (below_step qz6 hb) (hbox) ((qz7 : w.heap.size ≤ gb101)) ((qz7 : w.heap.size ≤ gb101)); clear HB; obtain ⟨HB, BK101, GW101, GE101⟩ := h_; clear hb hbox hg) | ((with_reducible refine gate_dst (N := 3) rfl ?_); refine box_event ?hg (N := 3) ?hd (cs := #[.int .i64 a1_0, .int .i64 a1_1, .int .i64 a1_2, .int .i64 a1_3]) (t := 75) ?hr ?_; (case hd => rfl); (case hg => rfl); (case hr => exact qz5); intro gb102 hg w5 hbox hb; have h_ := qA7 (blk_below (g := gb101) (o := .cells #[.int .i64 a0_0, .int .i64 a0_1] 231 (0, 0)) (qz8 BK101.out) hb) (below_step (qz10 GE101.out) hb) (hbox) ((qz38 GE101.out : w.heap.size ≤ gb102)) ((qz38 GE101.out : w.heap.size ≤ gb102)) ((qz88 BK101.out : gb101 ≠ gb102)) ((qz89 BK101.out : gb102 ≠ gb101)); clear BK101 HB; obtain ⟨BK101, HB, BK102, GW102, GE102, NB101_102, NB102_101⟩ := h_; clear hb hbox hg; have hnb6 := NB101_102.out; have hnc6 := NB102_101.out; obtain ⟨hcz7_0, hcz7_1⟩ := qC2 BK101.out; obtain ⟨hfz7_0, hfz7_1⟩ := qF2 BK101.out; obtain ⟨hcz8_0, hcz8_1, hcz8_2, hcz8_3⟩ := qC4 BK102.out; obtain ⟨hfz8_0, hfz8_1, hfz8_2, hfz8_3⟩ := qF4 BK102.out))
  go_ret
  exact ⟨qz13, qz43 GE101.out GE102.out⟩
 ·rw [if_neg c3] at H
  have c3b0 : (a0_0 == 1) = false := beq_eq_false_iff_ne.mpr c3; have c3b1 : (a0_0 != 1) = true := bne_iff_ne.mpr c3
  by_cases c9 : a0_0 = 2
  ·rw [if_pos c9] at H
   have c9b0 : (a0_0 == 2) = true := beq_iff_eq.mpr c9; have c9b1 : (a0_0 != 2) = false := bne_eq_false_iff_eq.mpr c9; clear c9; obtain rfl := Option.some.inj H; go_enter Try.func246, Try.ntmps246
   go_wp2_with (first | ((with_reducible refine gate_dst (N := 2) rfl ?_); refine box_event ?hg (N := 2) ?hd (cs := #[.int .i64 a0_0, .int .i64 a0_1]) (t := 231) ?hr ?_; (case hd => rfl); (case hg => rfl); (case hr => exact qz5); intro gb101 hg w10 hbox hb; have h_ := qA4 (below_step qz6 hb) (hbox) ((qz7 : w.heap.size ≤ gb101)) ((qz7 : w.heap.size ≤ gb101)); clear HB; obtain ⟨HB, BK101, GW101, GE101⟩ := h_; clear hb hbox hg) | ((with_reducible refine gate_dst (N := 3) rfl ?_); refine box_event ?hg (N := 3) ?hd (cs := #[.int .i64 a1_0, .int .i64 a1_1, .int .i64 a1_2, .int .i64 a1_3]) (t := 75) ?hr ?_; (case hd => rfl); (case hg => rfl); (case hr => exact qz5); intro gb102 hg w11 hbox hb; have h_ := qA7 (blk_below (g := gb101) (o := .cells #[.int .i64 a0_0, .int .i64 a0_1] 231 (0, 0)) (qz8 BK101.out) hb) (below_step (qz10 GE101.out) hb) (hbox) ((qz38 GE101.out : w.heap.size ≤ gb102)) ((qz38 GE101.out : w.heap.size ≤ gb102)) ((qz88 BK101.out : gb101 ≠ gb102)) ((qz89 BK101.out : gb102 ≠ gb101)); clear BK101 HB; obtain ⟨BK101, HB, BK102, GW102, GE102, NB101_102, NB102_101⟩ := h_; clear hb hbox hg; have hnb12 := NB101_102.out; have hnc12 := NB102_101.out; obtain ⟨hcz13_0, hcz13_1⟩ := qC2 BK101.out; obtain ⟨hfz13_0, hfz13_1⟩ := qF2 BK101.out; obtain ⟨hcz14_0, hcz14_1, hcz14_2, hcz14_3⟩ := qC4 BK102.out; obtain ⟨hfz14_0, hfz14_1, hfz14_2, hfz14_3⟩ := qF4 BK102.out))
   go_ret
   exact ⟨qz13, qz43 GE101.out GE102.out⟩
  ·rw [if_neg c9] at H
   have c9b0 : (a0_0 == 2) = false := beq_eq_false_iff_ne.mpr c9; have c9b1 : (a0_0 != 2) = true := bne_iff_ne.mpr c9
   by_cases c15 : a0_0 = 3
   ·rw [if_pos c15] at H
    have c15b0 : (a0_0 == 3) = true := beq_iff_eq.mpr c15; have c15b1 : (a0_0 != 3) = false := bne_eq_false_iff_eq.mpr c15; clear c15; obtain rfl := Option.some.inj H; go_enter Try.func246, Try.ntmps246
    go_wp2_with (first | ((with_reducible refine gate_dst (N := 2) rfl ?_); refine box_event ?hg (N := 2) ?hd (cs := #[.int .i64 a0_0, .int .i64 a0_1]) (t := 231) ?hr ?_; (case hd => rfl); (case hg => rfl); (case hr => exact qz5); intro gb101 hg w16 hbox hb; have h_ := qA4 (below_step qz6 hb) (hbox) ((qz7 : w.heap.size ≤ gb101)) ((qz7 : w.heap.size ≤ gb101)); clear HB; obtain ⟨HB, BK101, GW101, GE101⟩ := h_; clear hb hbox hg) | ((with_reducible refine gate_dst (N := 3) rfl ?_); refine box_event ?hg (N := 3) ?hd (cs := #[.int .i64 a1_0, .int .i64 a1_1, .int .i64 a1_2, .int .i64 a1_3]) (t := 75) ?hr ?_; (case hd => rfl); (case hg => rfl); (case hr => exact qz5); intro gb102 hg w17 hbox hb; have h_ := qA7 (blk_below (g := gb101) (o := .cells #[.int .i64 a0_0, .int .i64 a0_1] 231 (0, 0)) (qz8 BK101.out) hb) (below_step (qz10 GE101.out) hb) (hbox) ((qz38 GE101.out : w.heap.size ≤ gb102)) ((qz38 GE101.out : w.heap.size ≤ gb102)) ((qz88 BK101.out : gb101 ≠ gb102)) ((qz89 BK101.out : gb102 ≠ gb101)); clear BK101 HB; obtain ⟨BK101, HB, BK102, GW102, GE102, NB101_102, NB102_101⟩ := h_; clear hb hbox hg; have hnb18 := NB101_102.out; have hnc18 := NB102_101.out; obtain ⟨hcz19_0, hcz19_1⟩ := qC2 BK101.out; obtain ⟨hfz19_0, hfz19_1⟩ := qF2 BK101.out; obtain ⟨hcz20_0, hcz20_1, hcz20_2, hcz20_3⟩ := qC4 BK102.out; obtain ⟨hfz20_0, hfz20_1, hfz20_2, hfz20_3⟩ := qF4 BK102.out))
    go_ret
    exact ⟨qz13, qz43 GE101.out GE102.out⟩
   ·rw [if_neg c15] at H
    have c15b0 : (a0_0 == 3) = false := beq_eq_false_iff_ne.mpr c15; have c15b1 : (a0_0 != 3) = true := bne_iff_ne.mpr c15; obtain rfl := Option.some.inj H; go_enter Try.func246, Try.ntmps246
    go_wp2_with (first | ((with_reducible refine gate_dst (N := 2) rfl ?_); refine box_event ?hg (N := 2) ?hd (cs := #[.int .i64 a0_0, .int .i64 a0_1]) (t := 231) ?hr ?_; (case hd => rfl); (case hg => rfl); (case hr => exact qz5); intro gb101 hg w21 hbox hb; have h_ := qA4 (below_step qz6 hb) (hbox) ((qz7 : w.heap.size ≤ gb101)) ((qz7 : w.heap.size ≤ gb101)); clear HB; obtain ⟨HB, BK101, GW101, GE101⟩ := h_; clear hb hbox hg) | ((with_reducible refine gate_dst (N := 3) rfl ?_); refine box_event ?hg (N := 3) ?hd (cs := #[.int .i64 a1_0, .int .i64 a1_1, .int .i64 a1_2, .int .i64 a1_3]) (t := 75) ?hr ?_; (case hd => rfl); (case hg => rfl); (case hr => exact qz5); intro gb102 hg w22 hbox hb; have h_ := qA7 (blk_below (g := gb101) (o := .cells #[.int .i64 a0_0, .int .i64 a0_1] 231 (0, 0)) (qz8 BK101.out) hb) (below_step (qz10 GE101.out) hb) (hbox) ((qz38 GE101.out : w.heap.size ≤ gb102)) ((qz38 GE101.out : w.heap.size ≤ gb102)) ((qz88 BK101.out : gb101 ≠ gb102)) ((qz89 BK101.out : gb102 ≠ gb101)); clear BK101 HB; obtain ⟨BK101, HB, BK102, GW102, GE102, NB101_102, NB102_101⟩ := h_; clear hb hbox hg; have hnb23 := NB101_102.out; have hnc23 := NB102_101.out; obtain ⟨hcz24_0, hcz24_1⟩ := qC2 BK101.out; obtain ⟨hfz24_0, hfz24_1⟩ := qF2 BK101.out))
    go_ret
    exact ⟨qz13, qz43 GE101.out GE102.out⟩
/-! ### impl_added: function 284 -/
set_option maxHeartbeats 8000000 in
set_option maxRecDepth 100000 in
theorem impl_added.calls (a0 : Int) (a1 : Int) (r1 : Int) (r2 : Bool) (w : World) (h : impl_added.f a0 a1 = some (r1, r2)) :
  Calls Try.prog 284 #[.int .i64 a0, .int .i64 a1] w fun e w' => e = .returned (.tuple #[.int .i64 r1, .bool r2]) ∧ Drawn0 w w' := by
 have H : (some (wrap64 (a0 + a1), ((decide ((wrap64 (a0 + a1)) > a0)) == (decide (a1 > 0))))) = some (r1, r2) := h
 clear h
 simp only [Option.some.injEq, Prod.mk.injEq] at H
 obtain ⟨rfl, rfl⟩ := H
 go_enter Try.func284, Try.ntmps284
 go_wp2
 go_ret2
 exact ⟨qz2, qz3⟩
/-! ### impl_minus: function 285 -/
set_option maxHeartbeats 8000000 in
set_option maxRecDepth 100000 in
theorem impl_minus.calls (a0 : Int) (a1 : Int) (r1 : Int) (r2 : Bool) (w : World) (h : impl_minus.f a0 a1 = some (r1, r2)) :
  Calls Try.prog 285 #[.int .i64 a0, .int .i64 a1] w fun e w' => e = .returned (.tuple #[.int .i64 r1, .bool r2]) ∧ Drawn0 w w' := by
 have H : (some (wrap64 (a0 - a1), ((decide ((wrap64 (a0 - a1)) < a0)) == (decide (a1 > 0))))) = some (r1, r2) := h
 clear h
 simp only [Option.some.injEq, Prod.mk.injEq] at H
 obtain ⟨rfl, rfl⟩ := H
 go_enter Try.func285, Try.ntmps285
 go_wp2
 go_ret2
 exact ⟨qz2, qz3⟩
/-! ### impl_times: function 286 -/
set_option maxHeartbeats 8000000 in
set_option maxRecDepth 100000 in
theorem impl_times.calls (a0 : Int) (a1 : Int) (r1 : Int) (r2 : Bool) (w : World) (h : impl_times.f a0 a1 = some (r1, r2)) :
  Calls Try.prog 286 #[.int .i64 a0, .int .i64 a1] w fun e w' => e = .returned (.tuple #[.int .i64 r1, .bool r2]) ∧ Drawn0 w w' := by
 have H : (if a0 = 0 then (some (0, true)) else (if a1 = 0 then (some (0, true)) else (if (wrap64 (Int.tdiv (wrap64 (a0 * a1)) a1)) = a0 then (if a0 = (-1) then (if (a1 = (-9223372036854775808)) then (some (wrap64 (a0 * a1), false)) else (if a1 = (-1) then (some (wrap64 (a0 * a1), !(a0 == (-9223372036854775808)))) else (some (wrap64 (a0 * a1), !false)))) else (if a1 = (-1) then (some (wrap64 (a0 * a1), !(a0 == (-9223372036854775808)))) else (some (wrap64 (a0 * a1), !false)))) else (some (wrap64 (a0 * a1), false))))) = some (r1, r2) := h
 clear h
 by_cases c3 : a0 = 0
 ·rw [if_pos c3] at H
  have c3b0 : (a0 == 0) = true := beq_iff_eq.mpr c3; have c3b1 : (a0 != 0) = false := bne_eq_false_iff_eq.mpr c3; clear c3; simp only [Option.some.injEq, Prod.mk.injEq] at H; obtain ⟨rfl, rfl⟩ := H; go_enter Try.func286, Try.ntmps286
  go_wp2
  go_ret2
  exact ⟨qz2, qz3⟩
 ·rw [if_neg c3] at H
  have c3b0 : (a0 == 0) = false := beq_eq_false_iff_ne.mpr c3; have c3b1 : (a0 != 0) = true := bne_iff_ne.mpr c3
  by_cases c4 : a1 = 0
  ·rw [if_pos c4] at H
   have c4b0 : (a1 == 0) = true := beq_iff_eq.mpr c4; have c4b1 : (a1 != 0) = false := bne_eq_false_iff_eq.mpr c4; clear c4; simp only [Option.some.injEq, Prod.mk.injEq] at H; obtain ⟨rfl, rfl⟩ := H; go_enter Try.func286, Try.ntmps286
   go_wp2
   go_ret2
   exact ⟨qz2, qz3⟩
  ·rw [if_neg c4] at H
   have c4b0 : (a1 == 0) = false := beq_eq_false_iff_ne.mpr c4; have c4b1 : (a1 != 0) = true := bne_iff_ne.mpr c4
   by_cases c5 : (wrap64 (Int.tdiv (wrap64 (a0 * a1)) a1)) = a0
   ·rw [if_pos c5] at H
    have c5b0 : ((wrap64 (Int.tdiv (wrap64 (a0 * a1)) a1)) == a0) = true := beq_iff_eq.mpr c5; have c5b1 : ((wrap64 (Int.tdiv (wrap64 (a0 * a1)) a1)) != a0) = false := bne_eq_false_iff_eq.mpr c5; clear c5
    by_cases c6 : a0 = (-1)
    ·rw [if_pos c6] at H
     have c6b0 : (a0 == (-1)) = true := beq_iff_eq.mpr c6; have c6b1 : (a0 != (-1)) = false := bne_eq_false_iff_eq.mpr c6; clear c6
     by_cases c7 : (a1 = (-9223372036854775808))
     ·rw [if_pos c7] at H
      have c7b0 : (a1 == (-9223372036854775808)) = true := beq_iff_eq.mpr c7; have c7b1 : (a1 != (-9223372036854775808)) = false := bne_eq_false_iff_eq.mpr c7; clear c7; simp only [Option.some.injEq, Prod.mk.injEq] at H; obtain ⟨rfl, rfl⟩ := H; go_enter Try.func286, Try.ntmps286
      go_wp2
      go_ret2
      exact ⟨qz2, qz3⟩
     ·rw [if_neg c7] at H
      have c7b0 : (a1 == (-9223372036854775808)) = false := beq_eq_false_iff_ne.mpr c7; have c7b1 : (a1 != (-9223372036854775808)) = true := bne_iff_ne.mpr c7
      by_cases c8 : a1 = (-1)
      ·rw [if_pos c8] at H
       have c8b0 : (a1 == (-1)) = true := beq_iff_eq.mpr c8; have c8b1 : (a1 != (-1)) = false := bne_eq_false_iff_eq.mpr c8; clear c8; simp only [Option.some.injEq, Prod.mk.injEq] at H; obtain ⟨rfl, rfl⟩ := H; go_enter Try.func286, Try.ntmps286
       go_wp2
       go_ret2
       exact ⟨qz2, qz3⟩
      ·rw [if_neg c8] at H
       have c8b0 : (a1 == (-1)) = false := beq_eq_false_iff_ne.mpr c8; have c8b1 : (a1 != (-1)) = true := bne_iff_ne.mpr c8; simp only [Option.some.injEq, Prod.mk.injEq] at H; obtain ⟨rfl, rfl⟩ := H; go_enter Try.func286, Try.ntmps286
       go_wp2
       go_ret2
       exact ⟨qz2, qz3⟩
    ·rw [if_neg c6] at H
     have c6b0 : (a0 == (-1)) = false := beq_eq_false_iff_ne.mpr c6; have c6b1 : (a0 != (-1)) = true := bne_iff_ne.mpr c6
     by_cases c9 : a1 = (-1)
     ·rw [if_pos c9] at H
      have c9b0 : (a1 == (-1)) = true := beq_iff_eq.mpr c9; have c9b1 : (a1 != (-1)) = false := bne_eq_false_iff_eq.mpr c9; clear c9; simp only [Option.some.injEq, Prod.mk.injEq] at H; obtain ⟨rfl, rfl⟩ := H; go_enter Try.func286, Try.ntmps286
      go_wp2
      go_ret2
      exact ⟨qz2, qz3⟩
     ·rw [if_neg c9] at H
      have c9b0 : (a1 == (-1)) = false := beq_eq_false_iff_ne.mpr c9; have c9b1 : (a1 != (-1)) = true := bne_iff_ne.mpr c9; simp only [Option.some.injEq, Prod.mk.injEq] at H; obtain ⟨rfl, rfl⟩ := H; go_enter Try.func286, Try.ntmps286
      go_wp2
      go_ret2
      exact ⟨qz2, qz3⟩
   ·rw [if_neg c5] at H
    have c5b0 : ((wrap64 (Int.tdiv (wrap64 (a0 * a1)) a1)) == a0) = false := beq_eq_false_iff_ne.mpr c5; have c5b1 : ((wrap64 (Int.tdiv (wrap64 (a0 * a1)) a1)) != a0) = true := bne_iff_ne.mpr c5; simp only [Option.some.injEq, Prod.mk.injEq] at H; obtain ⟨rfl, rfl⟩ := H; go_enter Try.func286, Try.ntmps286
    go_wp2
    go_ret2
    exact ⟨qz2, qz3⟩
/-! ### impl_truth: function 247 -/
set_option maxHeartbeats 8000000 in
set_option maxRecDepth 100000 in
theorem impl_truth.calls (a0 : Bool) (r : Int) (w : World) (h : impl_truth.f a0 = some r) :
  Calls Try.prog 247 #[.bool a0] w fun e w' => e = .returned (.int .i64 r) ∧ Drawn0 w w' := by
 have H : (if a0 = true then (some 1) else (some 0)) = some r := h
 clear h
 by_cases c2 : a0 = true
 ·subst c2
  rw [if_pos rfl] at H; obtain rfl := Option.some.inj H; go_enter Try.func247, Try.ntmps247
  go_wp2
  go_ret
  exact ⟨qz2, qz3⟩
 ·replace c2 := Bool.eq_false_iff.mpr c2
  subst c2; rw [if_neg (show ¬ (false = true) by decide)] at H
  obtain rfl := Option.some.inj H; go_enter Try.func247, Try.ntmps247
  go_wp2
  go_ret
  exact ⟨qz2, qz3⟩
/-! ### impl_apply: function 248 -/
set_option maxHeartbeats 8000000 in
set_option maxRecDepth 100000 in
theorem impl_apply.calls (k : Nat) (a0 : Int) (a1 : Int) (a2 : Int) (r1 : Int) (r2 : Int) (w : World) (h : impl_apply.f k a0 a1 a2 = some (r1, r2)) :
  Calls Try.prog 248 #[.int .i64 a0, .int .i64 a1, .int .i64 a2] w fun e w' => e = .returned (.tuple #[.int .i64 r1, .int .i64 r2]) ∧ Drawn0 w w' := by
 have H : (if a0 = 4 then ((impl_added.f a1 a2).bind fun bt101 => (if bt101.2 = true then (some (bt101.1, 0)) else (some (0, 2)))) else (if a0 = 5 then ((impl_minus.f a1 a2).bind fun bt103 => (if bt103.2 = true then (some (bt103.1, 0)) else (some (0, 2)))) else (if a0 = 6 then ((impl_times.f a1 a2).bind fun bt105 => (if bt105.2 = true then (some (bt105.1, 0)) else (some (0, 2)))) else (if a0 = 7 then (if a2 = 0 then (some (0, 3)) else (if a1 = (-9223372036854775808) then (impl_apply.j0 k a1 a2 (a2 != (-1))) else (impl_apply.j0 k a1 a2 true))) else (if a0 = 8 then ((impl_truth.f (decide (a1 < a2))).bind fun t107 => (some (t107, 0))) else (if a0 = 9 then ((impl_truth.f (a1 == a2)).bind fun t108 => (some (t108, 0))) else (if a0 = 10 then (if a1 = 0 then ((impl_truth.f false).bind fun t109 => (some (t109, 0))) else ((impl_truth.f (a2 != 0)).bind fun t110 => (some (t110, 0)))) else (some (0, 0))))))))) = some (r1, r2) := h
 clear h
 by_cases c4 : a0 = 4
 ·rw [if_pos c4] at H
  have c4b0 : (a0 == 4) = true := beq_iff_eq.mpr c4; have c4b1 : (a0 != 4) = false := bne_eq_false_iff_eq.mpr c4; clear c4; replace H := qB H; obtain ⟨⟨t101, t102⟩, A5, H⟩ := H
  try dsimp only at H
  by_cases c6 : t102 = true
  ·subst c6
   rw [if_pos rfl] at H; simp only [Option.some.injEq, Prod.mk.injEq] at H; obtain ⟨rfl, rfl⟩ := H; go_enter Try.func248, Try.ntmps248
   go_wp2_with (first | ((with_reducible refine gate_callee (f := 284) rfl ?_); refine goesL_ (some 16) rfl rfl Try.func284 (by kernel_rfl) rfl #[.int .i64 a1, .int .i64 a2] rfl qz1 ?_; (with_reducible refine (impl_added.calls a1 a2 t101 true _ A5.out).mono ?_); rintro e w' ⟨rfl, ⟨nd, rfl⟩⟩; refine ⟨_, rfl, ?_⟩))
   go_ret2
   exact ⟨qz2, qz3⟩
  ·replace c6 := Bool.eq_false_iff.mpr c6
   subst c6; rw [if_neg (show ¬ (false = true) by decide)] at H
   simp only [Option.some.injEq, Prod.mk.injEq] at H
   obtain ⟨rfl, rfl⟩ := H; go_enter Try.func248, Try.ntmps248
   go_wp2_with (first | ((with_reducible refine gate_callee (f := 284) rfl ?_); refine goesL_ (some 16) rfl rfl Try.func284 (by kernel_rfl) rfl #[.int .i64 a1, .int .i64 a2] rfl qz1 ?_; (with_reducible refine (impl_added.calls a1 a2 t101 false _ A5.out).mono ?_); rintro e w' ⟨rfl, ⟨nd, rfl⟩⟩; refine ⟨_, rfl, ?_⟩))
   go_ret2
   exact ⟨qz2, qz3⟩
 ·rw [if_neg c4] at H
  have c4b0 : (a0 == 4) = false := beq_eq_false_iff_ne.mpr c4; have c4b1 : (a0 != 4) = true := bne_iff_ne.mpr c4
  by_cases c7 : a0 = 5
  ·rw [if_pos c7] at H
   have c7b0 : (a0 == 5) = true := beq_iff_eq.mpr c7; have c7b1 : (a0 != 5) = false := bne_eq_false_iff_eq.mpr c7; clear c7; replace H := qB H; obtain ⟨⟨t103, t104⟩, A8, H⟩ := H
   try dsimp only at H
   by_cases c9 : t104 = true
   ·subst c9
    rw [if_pos rfl] at H; simp only [Option.some.injEq, Prod.mk.injEq] at H; obtain ⟨rfl, rfl⟩ := H; go_enter Try.func248, Try.ntmps248
    go_wp2_with (first | ((with_reducible refine gate_callee (f := 285) rfl ?_); refine goesL_ (some 24) rfl rfl Try.func285 (by kernel_rfl) rfl #[.int .i64 a1, .int .i64 a2] rfl qz1 ?_; (with_reducible refine (impl_minus.calls a1 a2 t103 true _ A8.out).mono ?_); rintro e w' ⟨rfl, ⟨nd, rfl⟩⟩; refine ⟨_, rfl, ?_⟩))
    go_ret2
    exact ⟨qz2, qz3⟩
   ·replace c9 := Bool.eq_false_iff.mpr c9
    subst c9; rw [if_neg (show ¬ (false = true) by decide)] at H
    simp only [Option.some.injEq, Prod.mk.injEq] at H
    obtain ⟨rfl, rfl⟩ := H; go_enter Try.func248, Try.ntmps248
    go_wp2_with (first | ((with_reducible refine gate_callee (f := 285) rfl ?_); refine goesL_ (some 24) rfl rfl Try.func285 (by kernel_rfl) rfl #[.int .i64 a1, .int .i64 a2] rfl qz1 ?_; (with_reducible refine (impl_minus.calls a1 a2 t103 false _ A8.out).mono ?_); rintro e w' ⟨rfl, ⟨nd, rfl⟩⟩; refine ⟨_, rfl, ?_⟩))
    go_ret2
    exact ⟨qz2, qz3⟩
  ·rw [if_neg c7] at H
   have c7b0 : (a0 == 5) = false := beq_eq_false_iff_ne.mpr c7; have c7b1 : (a0 != 5) = true := bne_iff_ne.mpr c7
   by_cases c10 : a0 = 6
   ·rw [if_pos c10] at H
    have c10b0 : (a0 == 6) = true := beq_iff_eq.mpr c10; have c10b1 : (a0 != 6) = false := bne_eq_false_iff_eq.mpr c10; clear c10; replace H := qB H; obtain ⟨⟨t105, t106⟩, A11, H⟩ := H
    try dsimp only at H
    by_cases c12 : t106 = true
    ·subst c12
     rw [if_pos rfl] at H; simp only [Option.some.injEq, Prod.mk.injEq] at H; obtain ⟨rfl, rfl⟩ := H; go_enter Try.func248, Try.ntmps248
     go_wp2_with (first | ((with_reducible refine gate_callee (f := 286) rfl ?_); refine goesL_ (some 32) rfl rfl Try.func286 (by kernel_rfl) rfl #[.int .i64 a1, .int .i64 a2] rfl qz1 ?_; (with_reducible refine (impl_times.calls a1 a2 t105 true _ A11.out).mono ?_); rintro e w' ⟨rfl, ⟨nd, rfl⟩⟩; refine ⟨_, rfl, ?_⟩))
     go_ret2
     exact ⟨qz2, qz3⟩
    ·replace c12 := Bool.eq_false_iff.mpr c12
     subst c12; rw [if_neg (show ¬ (false = true) by decide)] at H
     simp only [Option.some.injEq, Prod.mk.injEq] at H
     obtain ⟨rfl, rfl⟩ := H; go_enter Try.func248, Try.ntmps248
     go_wp2_with (first | ((with_reducible refine gate_callee (f := 286) rfl ?_); refine goesL_ (some 32) rfl rfl Try.func286 (by kernel_rfl) rfl #[.int .i64 a1, .int .i64 a2] rfl qz1 ?_; (with_reducible refine (impl_times.calls a1 a2 t105 false _ A11.out).mono ?_); rintro e w' ⟨rfl, ⟨nd, rfl⟩⟩; refine ⟨_, rfl, ?_⟩))
     go_ret2
     exact ⟨qz2, qz3⟩
   ·rw [if_neg c10] at H
    have c10b0 : (a0 == 6) = false := beq_eq_false_iff_ne.mpr c10; have c10b1 : (a0 != 6) = true := bne_iff_ne.mpr c10
    by_cases c13 : a0 = 7
    ·rw [if_pos c13] at H
     have c13b0 : (a0 == 7) = true := beq_iff_eq.mpr c13; have c13b1 : (a0 != 7) = false := bne_eq_false_iff_eq.mpr c13; clear c13
     by_cases c14 : a2 = 0
     ·rw [if_pos c14] at H
      have c14b0 : (a2 == 0) = true := beq_iff_eq.mpr c14; have c14b1 : (a2 != 0) = false := bne_eq_false_iff_eq.mpr c14; clear c14; simp only [Option.some.injEq, Prod.mk.injEq] at H; obtain ⟨rfl, rfl⟩ := H; go_enter Try.func248, Try.ntmps248
      go_wp2
      go_ret2
      exact ⟨qz2, qz3⟩
     ·rw [if_neg c14] at H
      have c14b0 : (a2 == 0) = false := beq_eq_false_iff_ne.mpr c14; have c14b1 : (a2 != 0) = true := bne_iff_ne.mpr c14; have HC15 := Aside0.mk H; clear H; go_enter Try.func248, Try.ntmps248
      go_upto_region 12 with (fail)
      go_cut [9] (fun v9 wc => ∃ (kq : Nat) (x9_14 : Bool), v9 = .bool x9_14 ∧ Aside0 (impl_apply.j0 kq a1 a2 x9_14 = some (r1, r2)) ∧ Aside0 (kq ≤ k) ∧ Drawn0 w wc)
      case first =>
       have H := HC15.out; clear HC15
       by_cases c16 : a1 = (-9223372036854775808)
       ·rw [if_pos c16] at H
        have c16b0 : (a1 == (-9223372036854775808)) = true := beq_iff_eq.mpr c16; have c16b1 : (a1 != (-9223372036854775808)) = false := bne_eq_false_iff_eq.mpr c16; clear c16
        (first | rw [c16b0] | (simp only [i64_w, i32_w]; rw [c16b0]) | skip)
        have H' := Aside0.mk H; clear H
        go_wp2
        go_meet
        case rel => exact ⟨_, ((a2 != (-1))), qz2, H', ⟨qz36⟩, qz3⟩
       ·rw [if_neg c16] at H
        have c16b0 : (a1 == (-9223372036854775808)) = false := beq_eq_false_iff_ne.mpr c16; have c16b1 : (a1 != (-9223372036854775808)) = true := bne_iff_ne.mpr c16
        (first | rw [c16b0] | (simp only [i64_w, i32_w]; rw [c16b0]) | skip)
        have H' := Aside0.mk H; clear H
        go_wp2
        go_meet
        case rel => exact ⟨_, (true), qz2, H', ⟨qz36⟩, qz3⟩
      case rest =>
       clear HC15; (try clear c1); (try clear c2); (try clear p2); (try clear c4); (try clear c4b0); (try clear c4b1); (try clear c6); (try clear c7); (try clear c7b0); (try clear c7b1); (try clear c9); (try clear c10); (try clear c10b0); (try clear c10b1); (try clear c12); (try clear c13); (try clear c13b0); (try clear c13b1); (try clear c14); (try clear c14b0); (try clear c14b1); (try clear c16); (try clear c16b0); (try clear c16b1); obtain ⟨kq, x9_14, rfl, HA, HJ14, ⟨mc14, rfl⟩⟩ := hcut
       cases kq with
       | zero => exact absurd HA.out (by simp [impl_apply.j0])
       | succ kj14 =>
        have H := HA.out; clear HA; simp only [impl_apply.j0] at H
        by_cases c17 : x9_14 = true
        ·subst c17
         rw [if_pos rfl] at H
         by_cases c18 : a2 = 0
         ·rw [if_pos c18] at H
          exact absurd H (by simp)
         ·rw [if_neg c18] at H
          have c18b0 : (a2 == 0) = false := beq_eq_false_iff_ne.mpr c18; have c18b1 : (a2 != 0) = true := bne_iff_ne.mpr c18; simp only [Option.some.injEq, Prod.mk.injEq] at H; obtain ⟨rfl, rfl⟩ := H
          go_wp2
          go_ret2
          exact ⟨qz2, qz3⟩
        ·replace c17 := Bool.eq_false_iff.mpr c17
         subst c17; rw [if_neg (show ¬ (false = true) by decide)] at H
         simp only [Option.some.injEq, Prod.mk.injEq] at H
         obtain ⟨rfl, rfl⟩ := H
         go_wp2
         go_ret2
         exact ⟨qz2, qz3⟩
    ·rw [if_neg c13] at H
     have c13b0 : (a0 == 7) = false := beq_eq_false_iff_ne.mpr c13; have c13b1 : (a0 != 7) = true := bne_iff_ne.mpr c13
     by_cases c19 : a0 = 8
     ·rw [if_pos c19] at H
      have c19b0 : (a0 == 8) = true := beq_iff_eq.mpr c19; have c19b1 : (a0 != 8) = false := bne_eq_false_iff_eq.mpr c19; clear c19; replace H := qB H; obtain ⟨t107, A20, H⟩ := H
      try dsimp only at H
      simp only [Option.some.injEq, Prod.mk.injEq] at H
      obtain ⟨rfl, rfl⟩ := H; go_enter Try.func248, Try.ntmps248
      go_wp2_with (first | ((with_reducible refine gate_callee (f := 247) rfl ?_); refine goesL_ (some 54) rfl rfl Try.func247 (by kernel_rfl) rfl #[.bool (decide (a1 < a2))] rfl qz1 ?_; (with_reducible refine (impl_truth.calls (decide (a1 < a2)) t107 _ A20.out).mono ?_); rintro e w' ⟨rfl, ⟨nd, rfl⟩⟩; refine ⟨_, rfl, ?_⟩))
      go_ret2
      exact ⟨qz2, qz3⟩
     ·rw [if_neg c19] at H
      have c19b0 : (a0 == 8) = false := beq_eq_false_iff_ne.mpr c19; have c19b1 : (a0 != 8) = true := bne_iff_ne.mpr c19
      by_cases c21 : a0 = 9
      ·rw [if_pos c21] at H
       have c21b0 : (a0 == 9) = true := beq_iff_eq.mpr c21; have c21b1 : (a0 != 9) = false := bne_eq_false_iff_eq.mpr c21; clear c21; replace H := qB H; obtain ⟨t108, A22, H⟩ := H
       try dsimp only at H
       simp only [Option.some.injEq, Prod.mk.injEq] at H
       obtain ⟨rfl, rfl⟩ := H; go_enter Try.func248, Try.ntmps248
       go_wp2_with (first | ((with_reducible refine gate_callee (f := 247) rfl ?_); refine goesL_ (some 60) rfl rfl Try.func247 (by kernel_rfl) rfl #[.bool (a1 == a2)] rfl qz1 ?_; (with_reducible refine (impl_truth.calls (a1 == a2) t108 _ A22.out).mono ?_); rintro e w' ⟨rfl, ⟨nd, rfl⟩⟩; refine ⟨_, rfl, ?_⟩))
       go_ret2
       exact ⟨qz2, qz3⟩
      ·rw [if_neg c21] at H
       have c21b0 : (a0 == 9) = false := beq_eq_false_iff_ne.mpr c21; have c21b1 : (a0 != 9) = true := bne_iff_ne.mpr c21
       by_cases c23 : a0 = 10
       ·rw [if_pos c23] at H
        have c23b0 : (a0 == 10) = true := beq_iff_eq.mpr c23; have c23b1 : (a0 != 10) = false := bne_eq_false_iff_eq.mpr c23; clear c23
        by_cases c24 : a1 = 0
        ·rw [if_pos c24] at H
         have c24b0 : (a1 == 0) = true := beq_iff_eq.mpr c24; have c24b1 : (a1 != 0) = false := bne_eq_false_iff_eq.mpr c24; clear c24; replace H := qB H; obtain ⟨t109, A25, H⟩ := H
         try dsimp only at H
         simp only [Option.some.injEq, Prod.mk.injEq] at H
         obtain ⟨rfl, rfl⟩ := H; go_enter Try.func248, Try.ntmps248
         go_wp2_with (first | ((with_reducible refine gate_callee (f := 247) rfl ?_); refine goesL_ (some 69) rfl rfl Try.func247 (by kernel_rfl) rfl #[.bool false] rfl qz1 ?_; (with_reducible refine (impl_truth.calls false t109 _ A25.out).mono ?_); rintro e w' ⟨rfl, ⟨nd, rfl⟩⟩; refine ⟨_, rfl, ?_⟩))
         go_ret2
         exact ⟨qz2, qz3⟩
        ·rw [if_neg c24] at H
         have c24b0 : (a1 == 0) = false := beq_eq_false_iff_ne.mpr c24; have c24b1 : (a1 != 0) = true := bne_iff_ne.mpr c24; replace H := qB H; obtain ⟨t110, A26, H⟩ := H
         try dsimp only at H
         simp only [Option.some.injEq, Prod.mk.injEq] at H
         obtain ⟨rfl, rfl⟩ := H; go_enter Try.func248, Try.ntmps248
         go_wp2_with (first | ((with_reducible refine gate_callee (f := 247) rfl ?_); refine goesL_ (some 69) rfl rfl Try.func247 (by kernel_rfl) rfl #[.bool (a2 != 0)] rfl qz1 ?_; (with_reducible refine (impl_truth.calls (a2 != 0) t110 _ A26.out).mono ?_); rintro e w' ⟨rfl, ⟨nd, rfl⟩⟩; refine ⟨_, rfl, ?_⟩))
         go_ret2
         exact ⟨qz2, qz3⟩
       ·rw [if_neg c23] at H
        have c23b0 : (a0 == 10) = false := beq_eq_false_iff_ne.mpr c23; have c23b1 : (a0 != 10) = true := bne_iff_ne.mpr c23; simp only [Option.some.injEq, Prod.mk.injEq] at H; obtain ⟨rfl, rfl⟩ := H; go_enter Try.func248, Try.ntmps248
        go_wp2
        go_ret2
        exact ⟨qz2, qz3⟩
end Go.Proofs.Ytjhfjnknajhanaa.P
