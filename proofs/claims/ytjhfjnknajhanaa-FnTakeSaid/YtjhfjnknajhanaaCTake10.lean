/- The law FnTake returns true for every byte string that can be read, with no condition: a query takes an element exactly if its filter yields a number other than 0, with the value of its map, and program and reference agree. -/
import Derived.WalkKit
import Derived.ProofKit
import Derived.OpenShut
import Derived.ShutString
import Derived.ChangeOld
import Derived.Below
import Derived.SizedLaws
import Derived.Test.YtjhfjnknajhanaaCTake9
import Derived.Test.YtjhfjnknajhanaaCTake5
import Derived.Test.YtjhfjnknajhanaaRows
import Derived.Test.YtjhfjnknajhanaaCTake4
import Derived.Test.YtjhfjnknajhanaaCTake1
namespace Go.Proofs.Ytjhfjnknajhanaa.Q
open Go.RowKit Go.Proofs.Ytjhfjnknajhanaa.P Go.Proofs.YtjhfjnknajhanaaW.PrintWords Go.Proofs.YtjhfjnknajhanaaW.PrintLast Go.Proofs.YtjhfjnknajhanaaW.PrintMore

def twoV (op a b : Int) : Int × Int :=
  if op = 4 then fits (a + b) else if op = 5 then fits (a - b) else if op = 6 then fits (a * b)
  else if op = 7 then (if b = 0 then (0, 3) else fits (Int.tdiv a b))
  else if op = 8 then (if a < b then 1 else 0, 0) else if op = 9 then (if a = b then 1 else 0, 0)
  else (if a ≠ 0 ∧ b ≠ 0 then 1 else 0, 0)
theorem fits_R64 (v : Int) : R64 (fits v).1 := by
  unfold fits; split
  · assumption
  · exact R64.of (by decide) (by decide)
theorem ite_R64 (p : Prop) [Decidable p] : R64 (if p then 1 else 0) := by split <;> exact R64.of (by decide) (by decide)
theorem two_R64 (op a b : Int) : R64 (twoV op a b).1 := by
  unfold twoV
  repeat' split
  all_goals first | exact fits_R64 _ | exact R64.of (by decide) (by decide)
theorem added_ok {a b : Int} (ha : R64 a) (hb : R64 b) : ∃ v o, impl_added.f a b = some (v, o) ∧ (if o = true then (v, (0 : Int)) else (0, 2)) = fits (a + b) := by
  obtain ⟨a0, a1⟩ := ha
  obtain ⟨b0, b1⟩ := hb
  refine ⟨_, _, rfl, ?_⟩
  by_cases c : R64 (a + b)
  · obtain ⟨c0, c1⟩ := c
    rw [show fits (a + b) = (a + b, 0) from if_pos ⟨c0, c1⟩, wrap64_id c0 c1, if_pos]
    by_cases d : b > 0
    · have : a + b > a := by omega
      simp [d]; omega
    · have : ¬ (a + b > a) := by omega
      simp [d]; omega
  · rw [show fits (a + b) = (0, 2) from if_neg c, if_neg]
    unfold R64 at c
    by_cases d : b > 0
    · have : ¬ (wrap64 (a + b) > a) := by unfold wrap64; omega
      simp [d, this]
    · have : wrap64 (a + b) > a := by unfold wrap64; omega
      simp [d, this]
theorem minus_ok {a b : Int} (ha : R64 a) (hb : R64 b) : ∃ v o, impl_minus.f a b = some (v, o) ∧ (if o = true then (v, (0 : Int)) else (0, 2)) = fits (a - b) := by
  obtain ⟨a0, a1⟩ := ha
  obtain ⟨b0, b1⟩ := hb
  refine ⟨_, _, rfl, ?_⟩
  by_cases c : R64 (a - b)
  · obtain ⟨c0, c1⟩ := c
    rw [show fits (a - b) = (a - b, 0) from if_pos ⟨c0, c1⟩, wrap64_id c0 c1, if_pos]
    by_cases d : b > 0
    · have : a - b < a := by omega
      simp [d]; omega
    · have : ¬ (a - b < a) := by omega
      simp [d]; omega
  · rw [show fits (a - b) = (0, 2) from if_neg c, if_neg]
    unfold R64 at c
    by_cases d : b > 0
    · have : ¬ (wrap64 (a - b) < a) := by unfold wrap64; omega
      simp [d, this]
    · have : wrap64 (a - b) < a := by unfold wrap64; omega
      simp [d, this]
theorem tdiv_abs (a b : Int) : (Int.tdiv a b).natAbs = a.natAbs / b.natAbs := by rw [Int.natAbs_tdiv]; rfl
theorem tdiv_R64 {a b : Int} (ha : R64 a) (hb : b ≠ 0) : (R64 (Int.tdiv a b) ∧ ¬ (a = -9223372036854775808 ∧ b = -1)) ∨ (a = -9223372036854775808 ∧ b = -1 ∧ Int.tdiv a b = 9223372036854775808) := by
  obtain ⟨a0, a1⟩ := ha
  by_cases c : a = -9223372036854775808 ∧ b = -1
  · right
    obtain ⟨c0, c1⟩ := c
    subst c0 c1
    exact ⟨rfl, rfl, by decide⟩
  · left
    refine ⟨?_, c⟩
    have h := tdiv_abs a b
    have h1 : a.natAbs / b.natAbs ≤ a.natAbs := Nat.div_le_self _ _
    unfold R64
    by_cases d : a = -9223372036854775808
    · by_cases e : b.natAbs = 1
      · have : b = 1 := by omega
        subst this
        rw [Int.tdiv_one]
        omega
      · have h2 : a.natAbs / b.natAbs ≤ a.natAbs / 2 := Nat.div_le_div_left (by omega) (by decide)
        have h3 : a.natAbs = 9223372036854775808 := by omega
        rw [h3] at h2 h
        omega
    · omega
theorem times_ok' {a b : Int} (ha : R64 a) (hb : R64 b) : ∃ v o, impl_times.f a b = some (v, o) ∧ (if o = true then (v, (0 : Int)) else (0, 2)) = fits (a * b) := by
  unfold impl_times.f
  by_cases c0 : a = 0
  · subst c0
    exact ⟨0, true, by rw [if_pos rfl], by rw [Int.zero_mul]; rfl⟩
  rw [if_neg c0]
  by_cases c1 : b = 0
  · subst c1
    exact ⟨0, true, by rw [if_pos rfl], by rw [Int.mul_zero]; rfl⟩
  rw [if_neg c1]
  by_cases r : R64 (a * b)
  · have e : wrap64 (a * b) = a * b := wrap64_id r.1 r.2
    rw [e]
    have q : Int.tdiv (a * b) b = a := Int.mul_tdiv_cancel a c1
    rw [q, wrap64_id ha.1 ha.2, if_pos rfl]
    have n0 : a = -1 → b ≠ -9223372036854775808 := by
      intro h g; subst h g; unfold R64 at r; omega
    have n1 : b = -1 → a ≠ -9223372036854775808 := by
      intro h g; subst h g; unfold R64 at r; omega
    refine ⟨a * b, true, ?_, by simp [fits, r]⟩
    by_cases d : a = -1
    · rw [if_pos d, if_neg (n0 d)]
      by_cases f : b = -1
      · rw [if_pos f]; simp [n1 f]
      · rw [if_neg f]; rfl
    · rw [if_neg d]
      by_cases f : b = -1
      · rw [if_pos f]; simp [n1 f]
      · rw [if_neg f]; rfl
  · by_cases q : wrap64 (Int.tdiv (wrap64 (a * b)) b) = a
    · -- only the least int, over -1
      have hw : R64 (wrap64 (a * b)) := wrap_R64 _
      have hx : b = -1 ∧ a = -9223372036854775808 := by
        rcases tdiv_R64 hw c1 with ⟨h, _⟩ | ⟨h0, h1, h2⟩
        · exfalso
          rw [wrap64_id h.1 h.2] at q
          have m := Int.mul_tdiv_add_tmod (wrap64 (a * b)) b
          have n := Int.natAbs_tmod (wrap64 (a * b)) b
          have n2 : (wrap64 (a * b)).natAbs % b.natAbs < b.natAbs := Nat.mod_lt _ (by omega)
          rw [q, Int.mul_comm b a] at m
          obtain ⟨s, e, _, _⟩ := wrap_val (a * b)
          have hs : s ≠ 0 := by
            intro hs; subst hs
            rw [Int.zero_mul, Int.add_zero] at e
            rw [e] at hw
            exact r hw
          obtain ⟨b0, b1⟩ := hb
          omega
        · refine ⟨h1, ?_⟩
          rw [h2] at q
          rw [← q]; unfold wrap64; omega
      obtain ⟨e0, e1⟩ := hx
      subst e0 e1
      refine ⟨wrap64 (-9223372036854775808 * -1), false, ?_, by rw [if_neg ft]; exact (if_neg r).symm⟩
      rw [if_pos q, if_neg (by decide), if_pos rfl]; rfl
    · rw [if_neg q]
      exact ⟨_, false, rfl, by simp [fits, r]⟩
theorem apply_ok {op a b : Int} (h4 : 4 ≤ op) (h10 : op ≤ 10) (ha : R64 a) (hb : R64 b) : Ev (fun k => impl_apply.f k op a b) (twoV op a b) := by
  unfold impl_apply.f twoV
  by_cases c4 : op = 4
  · obtain ⟨v, o, e, f⟩ := added_ok ha hb
    rw [if_pos c4, ← f]
    refine ite_ev c4 (some_ev e ?_)
    cases o <;> exact Ev.now _
  rw [if_neg c4]; refine ite_ev' c4 ?_
  by_cases c5 : op = 5
  · obtain ⟨v, o, e, f⟩ := minus_ok ha hb
    rw [if_pos c5, ← f]
    refine ite_ev c5 (some_ev e ?_)
    cases o <;> exact Ev.now _
  rw [if_neg c5]; refine ite_ev' c5 ?_
  by_cases c6 : op = 6
  · obtain ⟨v, o, e, f⟩ := times_ok' ha hb
    rw [if_pos c6, ← f]
    refine ite_ev c6 (some_ev e ?_)
    cases o <;> exact Ev.now _
  rw [if_neg c6]; refine ite_ev' c6 ?_
  by_cases c7 : op = 7
  · rw [if_pos c7]; refine ite_ev c7 ?_
    by_cases d : b = 0
    · rw [if_pos d]; exact ite_ev d (Ev.now _)
    · rw [if_neg d]; refine ite_ev' d ?_
      rcases tdiv_R64 ha d with ⟨h, g⟩ | ⟨h0, h1, h2⟩
      · have hj : Ev (fun k => impl_apply.j0 k a b true) (fits (Int.tdiv a b)) := by
          have : fits (Int.tdiv a b) = (wrap64 (Int.tdiv a b), 0) := by unfold fits; rw [if_pos h, wrap64_id h.1 h.2]
          rw [this]
          exact Ev.step (fun k => by rw [impl_apply.j0]) (ite_ev tt (ite_ev' d (Ev.now _)))
        by_cases m : a = -9223372036854775808
        · refine ite_ev m ?_
          have : (b != -1) = true := by simp; omega
          rw [this]; exact hj
        · exact ite_ev' m hj
      · have : fits (Int.tdiv a b) = (0, 2) := by rw [h2]; decide
        rw [this]
        refine ite_ev h0 ?_
        have : (b != -1) = false := by simp; omega
        rw [this]
        exact Ev.step (fun k => by rw [impl_apply.j0]) (ite_ev' ft (Ev.now _))
  refine ite_ev' c7 ?_; rw [if_neg c7]
  have htr : ∀ p : Bool, impl_truth.f p = some (if p = true then 1 else 0) := by intro p; cases p <;> rfl
  by_cases c8 : op = 8
  · refine ite_ev c8 (some_ev (htr _) ?_)
    rw [if_pos c8]
    simp only [decide_eq_true_eq]; exact Ev.now _
  refine ite_ev' c8 ?_; rw [if_neg c8]
  by_cases c9 : op = 9
  · refine ite_ev c9 (some_ev (htr _) ?_)
    rw [if_pos c9]
    simp only [beq_iff_eq]; exact Ev.now _
  refine ite_ev' c9 ?_; rw [if_neg c9]
  refine ite_ev (by omega) ?_
  by_cases d : a = 0
  · refine ite_ev d (some_ev (htr _) ?_)
    simp [d]; exact Ev.now _
  · refine ite_ev' d (some_ev (htr _) ?_)
    simp [d]; exact Ev.now _
def Said (h l e : Int) (r : Int × Int) : Prop :=
  (e = 0 ∧ ∃ v o, spec_WideInt.f h l = some (v, o) ∧ (if o = true then (v, (0 : Int)) else (0, 2)) = r) ∨ (e ≠ 0 ∧ r = (0, e))
theorem said_fits {h l v : Int} (w : Wd h l v) (v0 : -100000000000000000000000000000000000000 ≤ v) (v1 : v ≤ 100000000000000000000000000000000000000) : Said h l 0 (fits v) := by
  obtain ⟨p, q⟩ := wideInt_ok w v0 v1
  refine Or.inl ⟨rfl, ?_⟩
  by_cases c : R64 v
  · exact ⟨v, true, p c, by rw [show fits v = (v, 0) from if_pos c]; rfl⟩
  · exact ⟨0, false, q c, by rw [show fits v = (0, 2) from if_neg c]; rfl⟩
theorem fits_of {v : Int} (h : R64 v) : fits v = (v, 0) := if_pos h
theorem spTwo_ok {op a b : Int} (h4 : 4 ≤ op) (h10 : op ≤ 10) (ha : R64 a) (hb : R64 b) : ∃ h l e, Ev (fun k => spec_l03Two.f k op a b) (h, l, e) ∧ Said h l e (twoV op a b) := by
  obtain ⟨h1, l1, e1, w1⟩ := wideOf_ok ha
  obtain ⟨h2, l2, e2, w2⟩ := wideOf_ok hb
  have a' := ha
  have b' := hb
  unfold R64 at a' b'
  unfold spec_l03Two.f
  by_cases c4 : op = 4
  · obtain ⟨x, y, e, w⟩ := wideAdd_ok w1 w2
    exact ⟨x, y, 0, ite_ev c4 (some_ev e1 (some_ev e2 (some_ev e (Ev.now _)))), by rw [show twoV op a b = fits (a + b) from if_pos c4]; exact said_fits w (by omega) (by omega)⟩
  by_cases c5 : op = 5
  · obtain ⟨h3, l3, e3, w3⟩ := wideNeg_ok w2
    obtain ⟨x, y, e, w⟩ := wideAdd_ok w1 w3
    refine ⟨x, y, 0, ite_ev' c4 (ite_ev c5 (some_ev e1 (some_ev e2 (some_ev e3 (some_ev e (Ev.now _)))))), ?_⟩
    rw [show twoV op a b = fits (a - b) by unfold twoV; rw [if_neg c4, if_pos c5]]
    rw [show a + -b = a - b by omega] at w
    exact said_fits w (by omega) (by omega)
  by_cases c6 : op = 6
  · obtain ⟨x, y, e, w⟩ := times_ok ha hb
    have p := prod_bd ha hb
    refine ⟨x, y, 0, ite_ev' c4 (ite_ev' c5 (ite_ev c6 (Ev.bind e (Ev.now _)))), ?_⟩
    rw [show twoV op a b = fits (a * b) by unfold twoV; rw [if_neg c4, if_neg c5, if_pos c6]]
    exact said_fits w p.1 p.2
  by_cases c7 : op = 7
  · have tv : twoV op a b = if b = 0 then (0, 3) else fits (Int.tdiv a b) := by unfold twoV; rw [if_neg c4, if_neg c5, if_neg c6, if_pos c7]
    by_cases d : b = 0
    · exact ⟨0, 0, 3, ite_ev' c4 (ite_ev' c5 (ite_ev' c6 (ite_ev c7 (ite_ev d (Ev.now _))))), by rw [tv, if_pos d]; exact Or.inr ⟨by decide, rfl⟩⟩
    rw [if_neg d] at tv
    by_cases d1 : b = -1
    · obtain ⟨x, y, e, w⟩ := wideNeg_ok w1
      refine ⟨x, y, 0, ite_ev' c4 (ite_ev' c5 (ite_ev' c6 (ite_ev c7 (ite_ev' d (ite_ev d1 (some_ev e1 (some_ev e (Ev.now _)))))))), ?_⟩
      have : Int.tdiv a b = -a := by rw [d1, Int.tdiv_neg, Int.tdiv_one]
      rw [tv, this]
      exact said_fits w (by omega) (by omega)
    · rcases tdiv_R64 ha d with ⟨r, _⟩ | ⟨_, g, _⟩
      · obtain ⟨x, y, e, w⟩ := wideOf_ok r
        refine ⟨x, y, 0, ite_ev' c4 (ite_ev' c5 (ite_ev' c6 (ite_ev c7 (ite_ev' d (ite_ev' d1 (some_ev (a := (x, y)) (by rw [wrap64_id r.1 r.2]; exact e) (Ev.now _))))))), ?_⟩
        rw [tv]
        unfold R64 at r
        exact said_fits w (by omega) (by omega)
      · exact absurd g d1
  have bl : ∀ p : Bool, ∃ h l, spec_l03Bool.f p = some (if p = true then 1 else 0) ∧ spec_WideOf.f (if p = true then 1 else 0) = some (h, l) ∧ Said h l 0 (if p = true then 1 else 0, 0) := by
    intro p
    have r : R64 (if p = true then 1 else 0) := ite_R64 _
    obtain ⟨x, y, e, w⟩ := wideOf_ok r
    refine ⟨x, y, by cases p <;> rfl, e, ?_⟩
    rw [← fits_of r]
    unfold R64 at r
    exact said_fits w (by omega) (by omega)
  by_cases c8 : op = 8
  · obtain ⟨x, y, e, f, s⟩ := bl (decide (a < b))
    refine ⟨x, y, 0, ite_ev' c4 (ite_ev' c5 (ite_ev' c6 (ite_ev' c7 (ite_ev c8 (some_ev e (some_ev f (Ev.now _))))))), ?_⟩
    rw [show twoV op a b = (if a < b then 1 else 0, 0) by unfold twoV; rw [if_neg c4, if_neg c5, if_neg c6, if_neg c7, if_pos c8]]
    simpa using s
  by_cases c9 : op = 9
  · obtain ⟨x, y, e, f, s⟩ := bl (a == b)
    refine ⟨x, y, 0, ite_ev' c4 (ite_ev' c5 (ite_ev' c6 (ite_ev' c7 (ite_ev' c8 (ite_ev c9 (some_ev e (some_ev f (Ev.now _)))))))), ?_⟩
    rw [show twoV op a b = (if a = b then 1 else 0, 0) by unfold twoV; rw [if_neg c4, if_neg c5, if_neg c6, if_neg c7, if_neg c8, if_pos c9]]
    simpa using s
  rw [show twoV op a b = (if a ≠ 0 ∧ b ≠ 0 then 1 else 0, 0) by unfold twoV; rw [if_neg c4, if_neg c5, if_neg c6, if_neg c7, if_neg c8, if_neg c9]]
  by_cases d : a = 0
  · obtain ⟨x, y, e, f, s⟩ := bl false
    refine ⟨x, y, 0, ite_ev' c4 (ite_ev' c5 (ite_ev' c6 (ite_ev' c7 (ite_ev' c8 (ite_ev' c9 (ite_ev d (some_ev e (some_ev f (Ev.now _))))))))), ?_⟩
    simpa [d] using s
  · obtain ⟨x, y, e, f, s⟩ := bl (b != 0)
    refine ⟨x, y, 0, ite_ev' c4 (ite_ev' c5 (ite_ev' c6 (ite_ev' c7 (ite_ev' c8 (ite_ev' c9 (ite_ev' d (some_ev e (some_ev f (Ev.now _))))))))), ?_⟩
    simpa [d] using s
end Go.Proofs.Ytjhfjnknajhanaa.Q
namespace Go.Proofs.Ytjhfjnknajhanaa.Q
open Go.RowKit Go.Proofs.Ytjhfjnknajhanaa.P Go.Proofs.YtjhfjnknajhanaaW.PrintWords Go.Proofs.YtjhfjnknajhanaaW.PrintLast Go.Proofs.YtjhfjnknajhanaaW.PrintMore

def tk (op : Int) : Int := if op ≤ 3 then 0 else if op = 11 then 1 else 2
theorem tk_range (op : Int) : 0 ≤ tk op ∧ tk op ≤ 2 := by unfold tk; repeat' split
                                                          all_goals omega
theorem takes_impl (op n : Int) : impl_Tok_takes.f op n = some (tk op) := by
  unfold impl_Tok_takes.f tk; repeat' split
  all_goals rfl
theorem takes_spec (op : Int) : spec_l03Takes.f op = some (tk op) := by
  unfold spec_l03Takes.f tk; repeat' split
  all_goals rfl
def Fit (t : S231) (n : Int) : Prop := 0 ≤ t.f0 ∧ t.f0 ≤ 11 ∧ (t.f0 = 0 ∨ t.f1 = 0) ∧ tk t.f0 ≤ n
instance (t : S231) (n : Int) : Decidable (Fit t n) := by unfold Fit; infer_instance
def dep : List S231 → Int → Int → Int
  | [], n, m => if n = 1 then m else -1
  | t :: ts, n, m => if Fit t n then dep ts (n + 1 - tk t.f0) (mx m (n + 1 - tk t.f0)) else -1
def Good : List S231 → Int → Prop
  | [], n => n = 1
  | t :: ts, n => Fit t n ∧ Good ts (n + 1 - tk t.f0)
theorem mx_ge (a b : Int) : a ≤ mx a b ∧ b ≤ mx a b := by unfold mx; split <;> omega
theorem dep_good (ts : List S231) : ∀ n m, (Good ts n → m ≤ dep ts n m ∧ (ts ≠ [] → 1 ≤ dep ts n m)) ∧ (¬ Good ts n → dep ts n m = -1) := by
  induction ts with
  | nil =>
    intro n m
    refine ⟨fun h => ?_, fun h => ?_⟩
    · unfold Good at h; unfold dep; rw [if_pos h]; exact ⟨Int.le_refl _, fun h => absurd rfl h⟩
    · unfold Good at h; unfold dep; rw [if_neg h]
  | cons t ts ih =>
    intro n m
    obtain ⟨p, q⟩ := ih (n + 1 - tk t.f0) (mx m (n + 1 - tk t.f0))
    have g := mx_ge m (n + 1 - tk t.f0)
    refine ⟨fun h => ?_, fun h => ?_⟩
    · obtain ⟨h0, h1⟩ := h
      have hp := p h1
      unfold dep; rw [if_pos h0]
      refine ⟨by omega, fun _ => ?_⟩
      cases ts with
      | nil => unfold Good at h1; omega
      | cons u us => exact hp.2 (by simp)
    · unfold dep
      by_cases h0 : Fit t n
      · rw [if_pos h0]
        exact q (fun h1 => h ⟨h0, h1⟩)
      · rw [if_neg h0]
theorem in_ok (a b c : Int) : impl_in.f a b c = some (decide (b ≤ a ∧ a ≤ c)) := by
  unfold impl_in.f
  by_cases h : b ≤ a
  · rw [if_pos h]; simp [h]
  · rw [if_neg h]; simp [h]
section
variable {x : List S231}
theorem drop_step {i : Nat} (h : i < x.length) : ∃ t, x.drop i = t :: x.drop (i + 1) ∧ rd_T231 x (i : Int) = t := by
  refine ⟨x[i], by rw [List.drop_eq_getElem_cons h], ?_⟩
  unfold rd_T231
  simp [h]
theorem impl_dep (hx : x.length ≤ 1000000) (d : Nat) : ∀ (i : Nat) (n m : Int), i + d = x.length → 0 ≤ n → n ≤ i → Ev (fun k => impl_depth.l0 k n m x x.length i) (dep (x.drop i) n m) := by
  induction d with
  | zero =>
    intro i n m hi h0 h1
    have : x.drop i = [] := List.drop_eq_nil_of_le (by omega)
    rw [this]
    unfold dep
    refine Ev.step (fun k => by rw [impl_depth.l0]) (ite_ev' (by omega) ?_)
    split <;> exact Ev.now _
  | succ d ih =>
    intro i n m hi h0 h1
    obtain ⟨t, e, r⟩ := drop_step (x := x) (i := i) (by omega)
    have tr := tk_range t.f0
    rw [e]
    unfold dep
    refine Ev.step (fun k => by rw [impl_depth.l0]) (ite_ev (by omega) (ite_ev (by omega) (ite_ev (by omega) (some_ev (in_ok _ _ _) ?_))))
    rw [r]
    by_cases c0 : 0 ≤ t.f0 ∧ t.f0 ≤ 11
    · refine ite_ev (by simpa using c0) ?_
      have w : wrap64 (n + (wrap64 (1 - tk t.f0))) = n + 1 - tk t.f0 := by
        rw [wrap64_id (x := 1 - _) (by omega) (by omega), wrap64_id (by omega) (by omega)]; omega
      have nx : tk t.f0 ≤ n → Ev (fun k => impl_depth.l0 k (wrap64 (n + (wrap64 (1 - tk t.f0)))) (mx m (wrap64 (n + (wrap64 (1 - tk t.f0))))) x x.length (wrap64 ((i : Int) + 1))) (dep (x.drop (i + 1)) (n + 1 - tk t.f0) (mx m (n + 1 - tk t.f0))) := by
        intro hn
        rw [w, succ_w (by omega)]
        exact ih (i + 1) _ _ (by omega) (by omega) (by omega)
      have fin : (t.f0 = 0 ∨ t.f1 = 0) → Ev (fun k => (impl_Tok_takes.f t.f0 t.f1).bind fun t105 => if n < t105 then some (-1) else (impl_Tok_takes.f t.f0 t.f1).bind fun t106 => impl_depth.l0 k (wrap64 (n + (wrap64 (1 - t106)))) (mx m (wrap64 (n + (wrap64 (1 - t106))))) x x.length (wrap64 ((i : Int) + 1))) (if Fit t n then dep (x.drop (i + 1)) (n + 1 - tk t.f0) (mx m (n + 1 - tk t.f0)) else -1) := by
        intro hz
        refine some_ev (takes_impl _ _) ?_
        by_cases c : n < tk t.f0
        · rw [if_neg (show ¬ Fit t n from fun h => by have := h.2.2.2; omega)]
          exact ite_ev c (Ev.now _)
        · rw [if_pos (show Fit t n from ⟨c0.1, c0.2, hz, by omega⟩)]
          exact ite_ev' c (some_ev (takes_impl _ _) (nx (by omega)))
      by_cases c1 : t.f0 = 0
      · exact ite_ev c1 (fin (Or.inl c1))
      · refine ite_ev' c1 ?_
        by_cases c2 : t.f1 = 0
        · exact ite_ev c2 (fin (Or.inr c2))
        · rw [if_neg (show ¬ Fit t n from fun h => by rcases h.2.2.1 with h | h <;> contradiction)]
          exact ite_ev' c2 (Ev.now _)
    · rw [if_neg (show ¬ Fit t n from fun h => c0 ⟨h.1, h.2.1⟩)]
      exact ite_ev' (by simpa using c0) (Ev.now _)
theorem spec_dep (hx : x.length ≤ 1000000) (d : Nat) : ∀ (i : Nat) (n m : Int), i + d = x.length → 0 ≤ n → n ≤ i → Ev (fun k => spec_l03Depth.l0 k x n m i) (dep (x.drop i) n m) := by
  induction d with
  | zero =>
    intro i n m hi h0 h1
    have : x.drop i = [] := List.drop_eq_nil_of_le (by omega)
    rw [this]
    unfold dep
    refine Ev.step (fun k => by rw [spec_l03Depth.l0]) (ite_ev' (by omega) ?_)
    split <;> exact Ev.now _
  | succ d ih =>
    intro i n m hi h0 h1
    obtain ⟨t, e, r⟩ := drop_step (x := x) (i := i) (by omega)
    have tr := tk_range t.f0
    rw [e]
    unfold dep
    refine Ev.step (fun k => by rw [spec_l03Depth.l0]) (ite_ev (by omega) (ite_ev (by omega) ?_))
    rw [r]
    by_cases c0 : t.f0 < 0
    · rw [if_neg (show ¬ Fit t n from fun h => by have := h.1; omega)]
      exact ite_ev c0 (Ev.now _)
    refine ite_ev' c0 ?_
    by_cases c00 : t.f0 > 11
    · rw [if_neg (show ¬ Fit t n from fun h => by have := h.2.1; omega)]
      exact ite_ev c00 (Ev.now _)
    refine ite_ev' c00 ?_
    have w : wrap64 ((wrap64 (n - tk t.f0)) + 1) = n + 1 - tk t.f0 := by
      rw [wrap64_id (x := n - _) (by omega) (by omega), wrap64_id (by omega) (by omega)]; omega
    have nx : tk t.f0 ≤ n → Ev (fun k => spec_l03Depth.l0 k x (wrap64 ((wrap64 (n - tk t.f0)) + 1)) (mx m (wrap64 ((wrap64 (n - tk t.f0)) + 1))) (wrap64 ((i : Int) + 1))) (dep (x.drop (i + 1)) (n + 1 - tk t.f0) (mx m (n + 1 - tk t.f0))) := by
      intro hn
      rw [w, succ_w (by omega)]
      exact ih (i + 1) _ _ (by omega) (by omega) (by omega)
    have fin : (t.f0 = 0 ∨ t.f1 = 0) → Ev (fun k => (spec_l03Takes.f t.f0).bind fun t105 => if t105 > n then some (-1) else (spec_l03Takes.f t.f0).bind fun t107 => spec_l03Depth.l0 k x (wrap64 ((wrap64 (n - t107)) + 1)) (mx m (wrap64 ((wrap64 (n - t107)) + 1))) (wrap64 ((i : Int) + 1))) (if Fit t n then dep (x.drop (i + 1)) (n + 1 - tk t.f0) (mx m (n + 1 - tk t.f0)) else -1) := by
      intro hz
      refine some_ev (takes_spec _) ?_
      by_cases c : tk t.f0 > n
      · rw [if_neg (show ¬ Fit t n from fun h => by have := h.2.2.2; omega)]
        exact ite_ev c (Ev.now _)
      · rw [if_pos (show Fit t n from ⟨by omega, by omega, hz, by omega⟩)]
        exact ite_ev' c (some_ev (takes_spec _) (nx (by omega)))
    by_cases c1 : t.f0 = 0
    · exact ite_ev c1 (fin (Or.inl c1))
    · refine ite_ev' c1 ?_
      by_cases c2 : t.f1 = 0
      · exact ite_ev c2 (fin (Or.inr c2))
      · rw [if_neg (show ¬ Fit t n from fun h => by rcases h.2.2.1 with h | h <;> contradiction)]
        exact ite_ev' c2 (Ev.now _)
def Whole (x : List S231) : Prop := 1 ≤ x.length ∧ x.length ≤ 20 ∧ Good x 0
open Classical in
theorem isExpr_ok (hx : x.length ≤ 1000000) : Ev (fun k => impl_isExpr.f k x) (decide (Whole x)) ∧ Ev (fun k => spec_ExprOk.f k x) (decide (Whole x)) := by
  have key : 1 ≤ x.length → x.length ≤ 20 → (decide (dep x 0 0 > 0) = decide (Whole x)) ∧ (decide (dep x 0 0 ≥ 0) = decide (Whole x)) := by
    intro l0 l1
    obtain ⟨p, q⟩ := dep_good x 0 0
    by_cases g : Good x 0
    · have := (p g).2 (by intro h; rw [h] at l0; simp at l0)
      have w : Whole x := ⟨l0, l1, g⟩
      simp [w]; omega
    · have := q g
      have w : ¬ Whole x := fun h => g h.2.2
      simp [w]; omega
  have e1 := impl_dep hx x.length 0 0 0 (by omega) (by omega) (by omega)
  have e2 := spec_dep hx x.length 0 0 0 (by omega) (by omega) (by omega)
  rw [List.drop_zero] at e1 e2
  replace e2 : Ev (fun k => spec_l03Depth.l0 k x 0 0 0) (dep x 0 0) := e2
  constructor
  · unfold impl_isExpr.f impl_depth.f
    by_cases c : 1 ≤ x.length ∧ x.length ≤ 20
    · rw [← (key c.1 c.2).1]
      exact Ev.bind (some_ev (in_ok _ _ _) (ite_ev (by simp; omega) e1)) (Ev.now _)
    · have w : ¬ Whole x := fun h => c ⟨h.1, h.2.1⟩
      refine Ev.bind (a := -1) (some_ev (in_ok _ _ _) (ite_ev' (by simp; omega) (Ev.now _))) ?_
      simp [w]; exact Ev.now _
  · unfold spec_ExprOk.f spec_l03Depth.f
    by_cases c : (x.length : Int) < 1
    · have w : ¬ Whole x := fun h => by have := h.1; omega
      refine Ev.bind (a := -1) (ite_ev c (Ev.step (fun k => by rw [spec_l03Depth.j0]) (ite_ev tt (Ev.now _)))) ?_
      simp [w]; exact Ev.now _
    · by_cases c1 : (x.length : Int) > 20
      · have w : ¬ Whole x := fun h => by have := h.2.1; omega
        refine Ev.bind (a := -1) (ite_ev' c (Ev.step (fun k => by rw [spec_l03Depth.j0]) (ite_ev (by simpa using c1) (Ev.now _)))) ?_
        simp [w]; exact Ev.now _
      · rw [← (key (by omega) (by omega)).2]
        exact Ev.bind (ite_ev' c (Ev.step (fun k => by rw [spec_l03Depth.j0]) (ite_ev' (c := decide ((x.length : Int) > 20) = true) (by simpa using c1) e2))) (Ev.now _)
end
end Go.Proofs.Ytjhfjnknajhanaa.Q
namespace Go.Proofs.Ytjhfjnknajhanaa.Q
open Go.RowKit Go.Proofs.Ytjhfjnknajhanaa.P Go.Proofs.YtjhfjnknajhanaaW.PrintWords Go.Proofs.YtjhfjnknajhanaaW.PrintLast Go.Proofs.YtjhfjnknajhanaaW.PrintMore

def pushV (t : S231) (b c d : Int) : Int := if t.f0 = 1 then b else if t.f0 = 2 then c else if t.f0 = 3 then d else t.f1
def runV (b c d : Int) : List S231 → List Int → Int × Int
  | [], st => (rd st 0, 0)
  | t :: ts, st =>
    if t.f0 ≤ 3 then runV b c d ts (st ++ [pushV t b c d])
    else if t.f0 = 11 then runV b c d ts (st.set (st.length - 1) (if rd st ((st.length : Int) - 1) = 0 then 1 else 0))
    else if (twoV t.f0 (rd st ((st.length : Int) - 2)) (rd st ((st.length : Int) - 1))).2 = 0 then
      runV b c d ts (st.take (st.length - 2) ++ [(twoV t.f0 (rd st ((st.length : Int) - 2)) (rd st ((st.length : Int) - 1))).1])
    else (0, (twoV t.f0 (rd st ((st.length : Int) - 2)) (rd st ((st.length : Int) - 1))).2)
section
variable {x : List S231} {a b c d : Int}
theorem set_R64 {st : List Int} (h : ∀ v ∈ st, R64 v) (i : Nat) {v : Int} (hv : R64 v) : ∀ u ∈ st.set i v, R64 u := by
  intro u hu
  rcases List.mem_or_eq_of_mem_set hu with h1 | h1
  · exact h u h1
  · rw [h1]; exact hv
theorem app_R64 {st : List Int} (h : ∀ v ∈ st, R64 v) {v : Int} (hv : R64 v) : ∀ u ∈ st ++ [v], R64 u := by
  intro u hu
  rcases List.mem_append.1 hu with h1 | h1
  · exact h u h1
  · rw [List.mem_singleton.1 h1]; exact hv
theorem take_R64 {st : List Int} (h : ∀ v ∈ st, R64 v) (n : Nat) : ∀ u ∈ st.take n, R64 u := fun u hu => h u (List.mem_of_mem_take hu)
theorem push_R64 {t : S231} (ht : TokR t) (hb : R64 b) (hc : R64 c) (hd : R64 d) : R64 (pushV t b c d) := by
  unfold pushV; repeat' split
  · exact hb
  · exact hc
  · exact hd
  · exact ht.n
theorem push_ok (t : S231) : impl_Tok_push.f t.f0 t.f1 a b c d = some (pushV t b c d) := by
  unfold impl_Tok_push.f pushV; repeat' split
  all_goals rfl
theorem impl_run_ok (hb : R64 b) (hc : R64 c) (hd : R64 d) (hx : x.length ≤ 1000000) (ht : ∀ t ∈ x, TokR t) (e : Nat) : ∀ (i : Nat) (st : List Int), i + e = x.length → st.length ≤ i → (∀ v ∈ st, R64 v) → Good (x.drop i) st.length →
    Ev (fun k => impl_run.l0 k st x x.length i a b c d) (runV b c d (x.drop i) st) := by
  induction e with
  | zero =>
    intro i st hi h0 h1 hg
    have hn : x.drop i = [] := List.drop_eq_nil_of_le (by omega)
    rw [hn] at hg ⊢
    unfold Good at hg
    unfold runV
    exact Ev.step (fun k => by rw [impl_run.l0]) (ite_ev' (by omega) (ite_ev (by omega) (Ev.now _)))
  | succ e ih =>
    intro i st hi h0 h1 hg
    obtain ⟨t, ee, r⟩ := drop_step (x := x) (i := i) (by omega)
    have tm : t ∈ x := List.mem_of_mem_drop (i := i) (by rw [ee]; exact List.mem_cons_self)
    have tR := ht t tm
    rw [ee] at hg ⊢
    obtain ⟨⟨f0, f1, f2, f3⟩, hg⟩ := hg
    unfold runV
    refine Ev.step (fun k => by rw [impl_run.l0]) (ite_ev (by omega) (ite_ev (by omega) (ite_ev (by omega) (some_ev (takes_impl _ _) ?_))))
    rw [r, succ_w (by omega)]
    by_cases c0 : t.f0 ≤ 3
    · have tk0 : tk t.f0 = 0 := by unfold tk; rw [if_pos c0]
      rw [if_pos c0]
      refine ite_ev tk0 (some_ev (push_ok t) (ite_ev (by omega) (ih (i + 1) _ (by omega) (by simp; omega) (app_R64 h1 (push_R64 tR hb hc hd)) ?_)))
      rw [tk0] at hg
      simpa using hg
    rw [if_neg c0]
    by_cases c1 : t.f0 = 11
    · have tk1 : tk t.f0 = 1 := by unfold tk; rw [if_neg c0, if_pos c1]
      rw [tk1] at f3 hg
      rw [if_pos c1, tk1]
      have w : wrap64 ((st.length : Int) - 1) = (st.length : Int) - 1 := wrap64_id (by omega) (by omega)
      refine ite_ev' (by omega) (ite_ev (by omega) ?_)
      simp only [w]
      have tr : impl_truth.f (rd st ((st.length : Int) - 1) == 0) = some (if rd st ((st.length : Int) - 1) = 0 then 1 else 0) := by
        by_cases z : rd st ((st.length : Int) - 1) = 0
        · simp [z, impl_truth.f]
        · simp [z, impl_truth.f]
      refine ite_ev (by omega) (ite_ev (by omega) (some_ev tr ?_))
      rw [show ((st.length : Int) - 1).toNat = st.length - 1 by omega]
      refine ih (i + 1) _ (by omega) (by simp; omega) (set_R64 h1 _ (ite_R64 _)) ?_
      simpa using hg
    have tk2 : tk t.f0 = 2 := by unfold tk; rw [if_neg c0, if_neg c1]
    rw [tk2] at f3 hg
    rw [if_neg c1, tk2]
    have w : wrap64 ((st.length : Int) - 1) = (st.length : Int) - 1 := wrap64_id (by omega) (by omega)
    have w2 : wrap64 ((st.length : Int) - 2) = (st.length : Int) - 2 := wrap64_id (by omega) (by omega)
    refine ite_ev' (by omega) (ite_ev' (by omega) ?_)
    simp only [w, w2]
    refine ite_ev (by omega) (ite_ev (by omega) (ite_ev (by omega) (ite_ev (by omega) (Ev.bind (apply_ok (by omega) (by omega) (rd_R64 h1 _) (rd_R64 h1 _)) ?_))))
    have q := two_R64 t.f0 (rd st ((st.length : Int) - 2)) (rd st ((st.length : Int) - 1))
    generalize twoV t.f0 (rd st ((st.length : Int) - 2)) (rd st ((st.length : Int) - 1)) = w at q ⊢
    by_cases z : w.2 = 0
    · rw [if_pos z]
      rw [show ((st.length : Int) - 2).toNat = st.length - 2 by omega]
      refine ite_ev z (ite_ev (by omega) (some_ev rfl (ite_ev (by simp; omega) (ih (i + 1) _ (by omega) (by simp; omega) (app_R64 (take_R64 h1 _) q) ?_))))
      rw [show ((st.take (st.length - 2) ++ [w.1]).length : Int) = st.length + 1 - 2 by simp; omega]
      exact hg
    · rw [if_neg z]
      exact ite_ev' z (Ev.now _)
theorem spec_run_ok (hb : R64 b) (hc : R64 c) (hd : R64 d) (hx : x.length ≤ 1000000) (ht : ∀ t ∈ x, TokR t) (e : Nat) : ∀ (i : Nat) (st : List Int), i + e = x.length → st.length ≤ i → (∀ v ∈ st, R64 v) → Good (x.drop i) st.length →
    Ev (fun k => spec_ExprRun.l0 k x st i a b c d) (runV b c d (x.drop i) st) := by
  induction e with
  | zero =>
    intro i st hi h0 h1 hg
    have hn : x.drop i = [] := List.drop_eq_nil_of_le (by omega)
    rw [hn] at hg ⊢
    unfold Good at hg
    unfold runV
    exact Ev.step (fun k => by rw [spec_ExprRun.l0]) (ite_ev' (by omega) (ite_ev (by omega) (Ev.now _)))
  | succ e ih =>
    intro i st hi h0 h1 hg
    obtain ⟨t, ee, r⟩ := drop_step (x := x) (i := i) (by omega)
    have tm : t ∈ x := List.mem_of_mem_drop (i := i) (by rw [ee]; exact List.mem_cons_self)
    have tR := ht t tm
    rw [ee] at hg ⊢
    obtain ⟨⟨f0, f1, f2, f3⟩, hg⟩ := hg
    unfold runV
    refine Ev.step (fun k => by rw [spec_ExprRun.l0]) (ite_ev (by omega) (ite_ev (by omega) ?_))
    rw [r, succ_w (by omega)]
    by_cases c0 : t.f0 ≤ 3
    · have tk0 : tk t.f0 = 0 := by unfold tk; rw [if_pos c0]
      rw [if_pos c0]
      have nx : Ev (fun k => spec_ExprRun.l0 k x (st ++ [pushV t b c d]) ((i + 1 : Nat) : Int) a b c d) (runV b c d (x.drop (i + 1)) (st ++ [pushV t b c d])) := by
        refine ih (i + 1) _ (by omega) (by simp; omega) (app_R64 h1 (push_R64 tR hb hc hd)) ?_
        rw [tk0] at hg
        simpa using hg
      by_cases p0 : t.f0 = 0
      · rw [show pushV t b c d = t.f1 by unfold pushV; rw [if_neg (by omega), if_neg (by omega), if_neg (by omega)]] at nx ⊢
        exact ite_ev p0 (ite_ev (by omega) nx)
      by_cases p1 : t.f0 = 1
      · rw [show pushV t b c d = b by unfold pushV; rw [if_pos (by omega)]] at nx ⊢
        exact ite_ev' p0 (ite_ev p1 (ite_ev (by omega) nx))
      by_cases p2 : t.f0 = 2
      · rw [show pushV t b c d = c by unfold pushV; rw [if_neg (by omega), if_pos (by omega)]] at nx ⊢
        exact ite_ev' p0 (ite_ev' p1 (ite_ev p2 (ite_ev (by omega) nx)))
      · rw [show pushV t b c d = d by unfold pushV; rw [if_neg (by omega), if_neg (by omega), if_pos (by omega)]] at nx ⊢
        exact ite_ev' p0 (ite_ev' p1 (ite_ev' p2 (ite_ev (by omega) (ite_ev (by omega) nx))))
    rw [if_neg c0]
    refine ite_ev' (by omega) (ite_ev' (by omega) (ite_ev' (by omega) (ite_ev' (by omega) ?_)))
    by_cases c1 : t.f0 = 11
    · have tk1 : tk t.f0 = 1 := by unfold tk; rw [if_neg c0, if_pos c1]
      rw [tk1] at f3 hg
      rw [if_pos c1]
      have w : wrap64 ((st.length : Int) - 1) = (st.length : Int) - 1 := wrap64_id (by omega) (by omega)
      simp only [w]
      have tr : spec_l03Bool.f (rd st ((st.length : Int) - 1) == 0) = some (if rd st ((st.length : Int) - 1) = 0 then 1 else 0) := by
        by_cases z : rd st ((st.length : Int) - 1) = 0
        · simp [z, spec_l03Bool.f]
        · simp [z, spec_l03Bool.f]
      refine ite_ev c1 (ite_ev (by omega) (ite_ev (by omega) (some_ev tr ?_)))
      rw [show ((st.length : Int) - 1).toNat = st.length - 1 by omega]
      refine ih (i + 1) _ (by omega) (by simp; omega) (set_R64 h1 _ (ite_R64 _)) ?_
      simpa using hg
    have tk2 : tk t.f0 = 2 := by unfold tk; rw [if_neg c0, if_neg c1]
    rw [tk2] at f3 hg
    rw [if_neg c1]
    have w : wrap64 ((st.length : Int) - 1) = (st.length : Int) - 1 := wrap64_id (by omega) (by omega)
    have w2 : wrap64 ((st.length : Int) - 2) = (st.length : Int) - 2 := wrap64_id (by omega) (by omega)
    simp only [w, w2]
    obtain ⟨h', l', e', es, sd⟩ := spTwo_ok (op := t.f0) (by omega) (by omega) (rd_R64 h1 ((st.length : Int) - 2)) (rd_R64 h1 ((st.length : Int) - 1))
    refine ite_ev' c1 (ite_ev (by omega) (ite_ev (by omega) (ite_ev (by omega) (ite_ev (by omega) (Ev.bind es ?_)))))
    have q := two_R64 t.f0 (rd st ((st.length : Int) - 2)) (rd st ((st.length : Int) - 1))
    generalize twoV t.f0 (rd st ((st.length : Int) - 2)) (rd st ((st.length : Int) - 1)) = w at q sd ⊢
    rcases sd with ⟨z0, v, o, e3, e4⟩ | ⟨z0, e4⟩
    · refine ite_ev z0 (some_ev e3 ?_)
      cases o with
      | true =>
        have e5 : w = (v, 0) := e4.symm
        subst e5
        rw [if_pos rfl]
        rw [show ((st.length : Int) - 2).toNat = st.length - 2 by omega]
        refine ite_ev rfl (ite_ev (by omega) (some_ev rfl (ite_ev (by simp; omega) (ih (i + 1) _ (by omega) (by simp; omega) (app_R64 (take_R64 h1 _) q) ?_))))
        rw [show ((st.take (st.length - 2) ++ [v]).length : Int) = st.length + 1 - 2 by simp; omega]
        exact hg
      | false =>
        have e5 : w = (0, 2) := e4.symm
        subst e5
        rw [if_neg (by decide)]
        exact ite_ev' ft (Ev.now _)
    · subst e4
      rw [if_neg z0]
      exact ite_ev' z0 (Ev.now _)
end
end Go.Proofs.Ytjhfjnknajhanaa.Q
/- The law FnTake returns true for every code: the package takes an element into a query as the paper says. -/
namespace Go.Proofs.Ytjhfjnknajhanaa.Q
open Go.RowKit Go.Proofs.Ytjhfjnknajhanaa.P Go.Proofs.YtjhfjnknajhanaaW.PrintWords Go.Proofs.YtjhfjnknajhanaaW.PrintLast Go.Proofs.YtjhfjnknajhanaaW.PrintMore

def winB (kd sz st : Int) : Bool :=
 decide (1 ≤ sz ∧ sz ≤ 100) && (if kd = 1 ∨ kd = 3 then st == 0 else if kd = 2 then decide (1 ≤ st ∧ st ≤ sz) && decide (sz ≤ wrap64 (8 * st)) else false)
theorem impl_win (kd sz st : Int) : Ev (fun k => impl_isWinDef.f k kd sz st) (winB kd sz st) := by
 unfold impl_isWinDef.f winB
 refine some_ev (in_ok _ _ _) ?_
 by_cases c : 1 ≤ sz ∧ sz ≤ 100
 ·refine ite_ev (by simpa using c) ?_
  rw [show decide (1 ≤ sz ∧ sz ≤ 100) = true by simpa using c, Bool.true_and]
  by_cases k1 : kd = 1
  ·refine ite_ev k1 (Ev.step (fun k => by rw [impl_isWinDef.j0]) (ite_ev (by simpa using k1) ?_))
   rw [if_pos (Or.inl k1)]; exact Ev.now _
  refine ite_ev' k1 (Ev.step (fun k => by rw [impl_isWinDef.j0]) ?_)
  by_cases k3 : kd = 3
  ·refine ite_ev (by simpa using k3) ?_
   rw [if_pos (Or.inr k3)]; exact Ev.now _
  refine ite_ev' (by simpa using k3) ?_
  rw [if_neg (show ¬ (kd = 1 ∨ kd = 3) by omega)]
  by_cases k2 : kd = 2
  ·refine ite_ev k2 (some_ev (in_ok _ _ _) ?_)
   rw [if_pos k2]
   by_cases s : 1 ≤ st ∧ st ≤ sz
   ·refine ite_ev (by simpa using s) ?_
    rw [show decide (1 ≤ st ∧ st ≤ sz) = true by simpa using s, Bool.true_and]; exact Ev.now _
   ·refine ite_ev' (by simpa using s) ?_
    rw [show decide (1 ≤ st ∧ st ≤ sz) = false by simpa using s, Bool.false_and]; exact Ev.now _
  ·refine ite_ev' k2 ?_
   rw [if_neg k2]; exact Ev.now _
 ·refine ite_ev' (by simpa using c) ?_
  rw [show decide (1 ≤ sz ∧ sz ≤ 100) = false by simpa using c, Bool.false_and]; exact Ev.now _
theorem spec_win (kd sz st : Int) : Ev (fun k => spec_WinOk.f k kd sz st) (winB kd sz st) := by
 have bad : Ev (fun k => spec_WinOk.j0 k true kd sz st) false := Ev.step (fun k => by rw [spec_WinOk.j0]) (ite_ev tt (Ev.now _))
 unfold spec_WinOk.f winB
 by_cases c0 : kd < 1
 ·rw [if_neg (show ¬ (kd = 1 ∨ kd = 3) by omega), if_neg (show ¬ kd = 2 by omega), Bool.and_false]
  exact ite_ev c0 bad
 refine ite_ev' c0 ?_
 by_cases c1 : kd > 3
 ·rw [if_neg (show ¬ (kd = 1 ∨ kd = 3) by omega), if_neg (show ¬ kd = 2 by omega), Bool.and_false]
  exact ite_ev c1 bad
 refine ite_ev' c1 ?_
 by_cases c2 : sz < 1
 ·rw [show decide (1 ≤ sz ∧ sz ≤ 100) = false by simp; omega, Bool.false_and]
  exact ite_ev c2 bad
 refine ite_ev' c2 ?_
 by_cases c3 : sz > 100
 ·rw [show decide (1 ≤ sz ∧ sz ≤ 100) = false by simp; omega, Bool.false_and, show decide (sz > 100) = true by simpa using c3]
  exact bad
 rw [show decide (1 ≤ sz ∧ sz ≤ 100) = true by simp; omega, Bool.true_and, show decide (sz > 100) = false by simpa using c3]
 refine Ev.step (fun k => by rw [spec_WinOk.j0]) (ite_ev' ft ?_)
 by_cases k2 : kd = 2
 ·refine ite_ev k2 ?_
  rw [if_neg (show ¬ (kd = 1 ∨ kd = 3) by omega), if_pos k2]
  by_cases s : 1 ≤ st ∧ st ≤ sz
  ·rw [show decide (1 ≤ st ∧ st ≤ sz) = true by simpa using s, Bool.true_and]
   exact ite_ev s.1 (ite_ev s.2 (Ev.now _))
  ·rw [show decide (1 ≤ st ∧ st ≤ sz) = false by simpa using s, Bool.false_and]
   by_cases s0 : st ≥ 1
   ·exact ite_ev s0 (ite_ev' (by omega) (Ev.now _))
   ·exact ite_ev' s0 (Ev.now _)
 ·rw [if_pos (show kd = 1 ∨ kd = 3 by omega)]
  exact ite_ev' k2 (Ev.now _)
theorem agg_eq (ak K : Int) : ∃ b, impl_isAggKind.f ak K = some b ∧ spec_AggKind.f ak K = some b := by
 unfold impl_isAggKind.f spec_AggKind.f
 simp only [in_ok, Option.bind_some]
 by_cases c : ak = 6
 ·rw [if_pos c, if_pos c]
  by_cases d : K ≥ 1
  ·exact ⟨_, rfl, by rw [if_pos d]; simp; omega⟩
  ·exact ⟨_, rfl, by rw [if_neg d]; simp; omega⟩
 ·rw [if_neg c, if_neg c]
  by_cases d : ak ≥ 1
  ·by_cases d1 : ak < 6
   ·exact ⟨_, by rw [if_pos (by simp; omega)], by rw [if_pos d, if_pos d1]⟩
   ·exact ⟨_, by rw [if_neg (by simp; omega)], by rw [if_pos d, if_neg d1]⟩
  ·exact ⟨_, by rw [if_neg (by simp; omega)], by rw [if_neg d]⟩
theorem elem_eq (x y z w : Int) : ∃ b, impl_isElem.f x y z w = some b ∧ spec_ElemOk.f x y z w = some b := by
 have hs : spec_l04Src.f x = impl_isSource.f x := by
  unfold spec_l04Src.f impl_isSource.f; rw [in_ok]; simp only [Option.bind_some]
  by_cases c : x ≥ 0
  ·rw [if_pos c]; exact congrArg some (decide_eq_decide.2 (by omega))
  ·rw [if_neg c, decide_eq_false (by omega)]
 have hk : spec_l04Key.f y = impl_isKey.f y := by
  unfold spec_l04Key.f impl_isKey.f; rw [in_ok]; simp only [Option.bind_some]
  by_cases c : y ≥ 0
  ·rw [if_pos c]; exact congrArg some (decide_eq_decide.2 (by omega))
  ·rw [if_neg c, decide_eq_false (by omega)]
 have ht : spec_l05Time.f w = impl_isTime.f w := by
  unfold spec_l05Time.f impl_isTime.f; rw [in_ok]; simp only [Option.bind_some]
  by_cases c : w ≥ 0
  ·rw [if_pos c]; exact congrArg some (decide_eq_decide.2 (by omega))
  ·rw [if_neg c, decide_eq_false (by omega)]
 have h : spec_ElemOk.f x y z w = impl_isElem.f x y z w := by
  unfold spec_ElemOk.f impl_isElem.f
  rw [hs, hk, ht]
 rw [h]
 unfold impl_isElem.f impl_isSource.f impl_isKey.f impl_isTime.f
 simp only [in_ok, Option.bind_some]
 by_cases c : decide (0 ≤ x ∧ x ≤ 3) = true
 ·by_cases d : decide (0 ≤ y ∧ y ≤ 15) = true
  ·exact ⟨_, by rw [if_pos c, if_pos d], by rw [if_pos c, if_pos d]⟩
  ·exact ⟨_, by rw [if_pos c, if_neg d], by rw [if_pos c, if_neg d]⟩
 ·exact ⟨_, by rw [if_neg c], by rw [if_neg c]⟩
section
variable {f g : List S231} {kd sz st ak K x y z w : Int}
theorem query_eq (hq : QR f g kd sz st ak K) : ∃ b : Bool, Ev (fun k => impl_isQuery.f k f g kd sz st ak K) b ∧ Ev (fun k => spec_QueryOk.f k f g kd sz st ak K) b ∧ (b = true → Whole f ∧ Whole g) := by
 classical
 obtain ⟨f1, f2⟩ := isExpr_ok (x := f) (by have := hq.f0; omega)
 obtain ⟨g1, g2⟩ := isExpr_ok (x := g) (by have := hq.g0; omega)
 obtain ⟨b, a1, a2⟩ := agg_eq ak K
 unfold impl_isQuery.f spec_QueryOk.f
 by_cases wf : Whole f
 ·by_cases wg : Whole g
  ·cases wn : winB kd sz st with
   | true =>
    refine ⟨b, Ev.bind f1 (ite_ev (by simpa using wf) (Ev.bind g1 (ite_ev (by simpa using wg) (Ev.bind (impl_win kd sz st) (ite_ev wn (some_ev a1 (Ev.now _))))))),
     Ev.bind f2 (ite_ev (by simpa using wf) (Ev.bind g2 (ite_ev (by simpa using wg) (Ev.bind (spec_win kd sz st) (ite_ev wn (some_ev a2 (Ev.now _))))))), fun _ => ⟨wf, wg⟩⟩
   | false =>
    have wn' : ¬ winB kd sz st = true := by rw [wn]; decide
    exact ⟨false, Ev.bind f1 (ite_ev (by simpa using wf) (Ev.bind g1 (ite_ev (by simpa using wg) (Ev.bind (impl_win kd sz st) (ite_ev' wn' (Ev.now _)))))),
     Ev.bind f2 (ite_ev (by simpa using wf) (Ev.bind g2 (ite_ev (by simpa using wg) (Ev.bind (spec_win kd sz st) (ite_ev' wn' (Ev.now _)))))), fun h => absurd h (by decide)⟩
  ·exact ⟨false, Ev.bind f1 (ite_ev (by simpa using wf) (Ev.bind g1 (ite_ev' (by simpa using wg) (Ev.now _)))),
    Ev.bind f2 (ite_ev (by simpa using wf) (Ev.bind g2 (ite_ev' (by simpa using wg) (Ev.now _)))), fun h => absurd h (by decide)⟩
 ·exact ⟨false, Ev.bind f1 (ite_ev' (by simpa using wf) (Ev.now _)), Ev.bind f2 (ite_ev' (by simpa using wf) (Ev.now _)), fun h => absurd h (by decide)⟩
theorem irun_ok {e : List S231} (hl : e.length ≤ 100) (ht : ∀ t ∈ e, TokR t) (hw : Whole e) (hr : ER x y z w) : Ev (fun k => impl_run.f k e x y z w) (runV y z w e []) := by
 have h := impl_run_ok (x := e) (a := x) hr.b hr.v hr.t (by omega) ht e.length 0 [] (by omega) (by simp) (by simp) (by simpa using hw.2.2)
 rw [List.drop_zero] at h
 exact h
theorem srun_ok {e : List S231} (hl : e.length ≤ 100) (ht : ∀ t ∈ e, TokR t) (hw : Whole e) (hr : ER x y z w) : Ev (fun k => spec_ExprRun.f k e x y z w) (runV y z w e []) := by
 classical
 have h := spec_run_ok (x := e) (a := x) hr.b hr.v hr.t (by omega) ht e.length 0 [] (by omega) (by simp) (by simp) (by simpa using hw.2.2)
 rw [List.drop_zero] at h
 unfold spec_ExprRun.f
 exact Ev.bind (isExpr_ok (x := e) (by omega)).2 (ite_ev (by simpa using hw) h)
theorem xrun_ok {e : List S231} (hl : e.length ≤ 100) (ht : ∀ t ∈ e, TokR t) (hw : Whole e) (hr : ER x y z w) : Ev (fun k => impl_ExprRun.f k e x y z w) (runV y z w e []) := by
 classical
 unfold impl_ExprRun.f
 exact Ev.bind (isExpr_ok (x := e) (by omega)).1 (ite_ev (by simpa using hw) (Ev.bind (irun_ok hl ht hw hr) (Ev.now _)))
theorem j1_bad (v : Int) : Ev (fun k => laws_FnTake.j1 k v 2 true f g kd sz st ak K x y z w) true :=
 by
 refine Ev.step (fun k => by rw [laws_FnTake.j1]) (ite_ev tt ?_)
 rw [show ((2 : Int) == 2) = true by decide]
 exact Ev.now _
theorem take_core (hq : QR f g kd sz st ak K) (hr : ER x y z w) : ∃ v n, Ev (fun k => impl_QueryTake.f k f g kd sz st ak K x y z w) (v, n) ∧ Ev (fun k => spec_QueryTake.f k f g kd sz st ak K x y z w) (v, n) ∧
  Ev (fun k => laws_FnTake.j0 k v n false f g kd sz st ak K x y z w) true := by
 obtain ⟨b, q1, q2, q3⟩ := query_eq hq
 obtain ⟨o, e1, e2⟩ := elem_eq x y z w
 unfold impl_QueryTake.f spec_QueryTake.f
 have sbad : Ev (fun k => spec_QueryTake.j0 k true f g kd sz st ak K x y z w) (0, 2) := Ev.step (fun k => by rw [spec_QueryTake.j0]) (ite_ev tt (Ev.now _))
 cases b with
 | false =>
  exact ⟨0, 2, Ev.bind q1 (ite_ev' ft (Ev.now _)), Ev.bind q2 (ite_ev' ft sbad),
   Ev.step (fun k => by rw [laws_FnTake.j0]) (ite_ev' ft (Ev.bind q2 (ite_ev' ft (j1_bad 0))))⟩
 | true =>
  cases o with
  | false =>
   exact ⟨0, 2, Ev.bind q1 (ite_ev tt (some_ev e1 (ite_ev' ft (Ev.now _)))), Ev.bind q2 (ite_ev tt (some_ev e2 sbad)),
    Ev.step (fun k => by rw [laws_FnTake.j0]) (ite_ev' ft (Ev.bind q2 (ite_ev tt (some_ev e2 (j1_bad 0)))))⟩
  | true =>
   obtain ⟨wf, wg⟩ := q3 rfl; have fi := irun_ok hq.f0 hq.f1 wf hr; have gi := irun_ok hq.g0 hq.g1 wg hr; have fs := srun_ok hq.f0 hq.f1 wf hr; have gs := srun_ok hq.g0 hq.g1 wg hr; have fx := xrun_ok hq.f0 hq.f1 wf hr; have gx := xrun_ok hq.g0 hq.g1 wg hr
   generalize runV y z w f [] = r at fi fs fx
   generalize runV y z w g [] = s at gi gs gx
   have main : ∀ v n, Ev (fun k => impl_take.f k f g kd sz st ak K x y z w) (v, n) → Ev (fun k => spec_QueryTake.j0 k false f g kd sz st ak K x y z w) (v, n) →
     Ev (fun k => laws_FnTake.j1 k v n false f g kd sz st ak K x y z w) true →
     ∃ v n, Ev (fun k => (impl_isQuery.f k f g kd sz st ak K).bind fun t103 => (if t103 = true then ((impl_isElem.f x y z w).bind fun t104 => (if t104 = true then ((impl_take.f k f g kd sz st ak K x y z w).bind fun bt105 => (some (bt105.1, bt105.2))) else (some (0, 2)))) else (some (0, 2)))) (v, n) ∧
      Ev (fun k => (spec_QueryOk.f k f g kd sz st ak K).bind fun t103 => (if t103 = true then ((spec_ElemOk.f x y z w).bind fun t104 => (spec_QueryTake.j0 k (!t104) f g kd sz st ak K x y z w)) else (spec_QueryTake.j0 k true f g kd sz st ak K x y z w))) (v, n) ∧
      Ev (fun k => laws_FnTake.j0 k v n false f g kd sz st ak K x y z w) true := by
    intro v n h1 h2 h3
    exact ⟨v, n, Ev.bind q1 (ite_ev tt (some_ev e1 (ite_ev tt (Ev.bind h1 (Ev.now _))))), Ev.bind q2 (ite_ev tt (some_ev e2 h2)),
     Ev.step (fun k => by rw [laws_FnTake.j0]) (ite_ev' ft (Ev.bind q2 (ite_ev tt (some_ev e2 h3))))⟩
   by_cases c0 : r.2 = 0
   ·by_cases c1 : r.1 = 0
    ·refine main 0 1 ?_ ?_ ?_
     ·unfold impl_take.f; exact Ev.bind fi (ite_ev c0 (ite_ev c1 (Ev.now _)))
     ·exact Ev.step (fun k => by rw [spec_QueryTake.j0]) (ite_ev' ft (Ev.bind fs (ite_ev c0 (ite_ev c1 (Ev.now _)))))
     ·refine Ev.step (fun k => by rw [laws_FnTake.j1]) (ite_ev' ft (Ev.bind fx (Ev.bind gx (ite_ev' (show ¬ ((1 : Int) = 0) by decide) (ite_ev rfl (ite_ev c0 ?_))))))
      rw [show (r.1 == 0) = true by simpa using c1]; exact Ev.now _
    ·by_cases c2 : s.2 = 0
     ·refine main s.1 0 ?_ ?_ ?_
      ·unfold impl_take.f; exact Ev.bind fi (ite_ev c0 (ite_ev' c1 (Ev.bind gi (ite_ev c2 (Ev.now _)))))
      ·exact Ev.step (fun k => by rw [spec_QueryTake.j0]) (ite_ev' ft (Ev.bind fs (ite_ev c0 (ite_ev' c1 (Ev.bind gs (ite_ev c2 (Ev.now _)))))))
      ·refine Ev.step (fun k => by rw [laws_FnTake.j1]) (ite_ev' ft (Ev.bind fx (Ev.bind gx (ite_ev rfl (ite_ev c0 (ite_ev' c1 (ite_ev c2 ?_)))))))
       rw [show (s.1 == s.1) = true by simp]; exact Ev.now _
     ·refine main 0 3 ?_ ?_ ?_
      ·unfold impl_take.f; exact Ev.bind fi (ite_ev c0 (ite_ev' c1 (Ev.bind gi (ite_ev' c2 (Ev.now _)))))
      ·exact Ev.step (fun k => by rw [spec_QueryTake.j0]) (ite_ev' ft (Ev.bind fs (ite_ev c0 (ite_ev' c1 (Ev.bind gs (ite_ev' c2 (Ev.now _)))))))
      ·refine Ev.step (fun k => by rw [laws_FnTake.j1]) (ite_ev' ft (Ev.bind fx (Ev.bind gx (ite_ev' (show ¬ ((3 : Int) = 0) by decide) (ite_ev' (show ¬ ((3 : Int) = 1) by decide) (ite_ev rfl (ite_ev c0 (ite_ev' c1 ?_))))))))
       rw [show (s.2 != 0) = true by simpa using c2]; exact Ev.now _
   ·refine main 0 3 ?_ ?_ ?_
    ·unfold impl_take.f; exact Ev.bind fi (ite_ev' c0 (Ev.now _))
    ·exact Ev.step (fun k => by rw [spec_QueryTake.j0]) (ite_ev' ft (Ev.bind fs (ite_ev' c0 (Ev.now _))))
    ·exact Ev.step (fun k => by rw [laws_FnTake.j1]) (ite_ev' ft (Ev.bind fx (Ev.bind gx (ite_ev' (show ¬ ((3 : Int) = 0) by decide) (ite_ev' (show ¬ ((3 : Int) = 1) by decide) (ite_ev rfl (ite_ev' c0 (Ev.now _))))))))
end
theorem FnTake : ∀ (l0 : List Int), l0.length ≤ maxLen → l0.length * 1 ≤ 140737488351232 → (∀ x ∈ l0, (Lit.int .u8 x).wf = true) → ∃ k, laws_FnTake.f k l0 = some true := by
 intro l hm hr hb
 have key : Ev (fun k => laws_FnTake.f k l) true := by
  unfold laws_FnTake.f
  cases hbig : decide ((l.length : Int) > 1048576) with
  | true => exact some_ev (a := true) (by unfold laws_big.f; rw [hbig]) (ite_ev tt (Ev.now _))
  | false =>
   have h1 : laws_big.f l = some false := by unfold laws_big.f; rw [hbig]
   refine some_ev h1 (ite_ev' ft ?_)
   have hc := code_of hb h1; obtain ⟨f, g, kd, sz, st, ak, K, x, y, z, w, e, hq, her⟩ := drawQueryTake_ok hc; obtain ⟨v, n, t1, t2, t3⟩ := take_core hq her; refine Ev.bind e (Ev.bind t1 (Ev.bind t2 (ite_ev rfl ?_)))
   dsimp only
   rw [show (n != n) = false by simp]
   exact t3
 exact key.rounds
end Go.Proofs.Ytjhfjnknajhanaa.Q
-- PRINTED by print.py: the row of the law laws_FnTake, out of its Pure (the session's) and the printed walk. Not trusted: Lean checks it.
namespace Go.Proofs.Ytjhfjnknajhanaa.fnTake
open Go.ChangeShapes Go.WideShapes Go.ChangeAt Go.RowKit
open Go.ChangeMaps (open_string shut_string)
set_option linter.unusedVariables false
theorem own : ownKnob Try.prog.godebug = none := by kernel_rfl
theorem laidOut : laidOutB Try.prog = true := Facts.s2
def IsRow (k : IntKind) (w : World) (a : Option Addr) (len cap : Nat) (zs : List Int) : Prop :=
  (a = none ∧ len = 0 ∧ cap = 0 ∧ zs = []) ∨
  ∃ x, a = some x ∧ len ≤ cap ∧ cap ≤ maxLen ∧ zs.length = cap ∧ (∀ i, i < zs.length → w.cell? (x.add i) = some (.int k (zs.getD i 0))) ∧ ∀ n ∈ zs, (Lit.int k n).wf = true
set_option maxRecDepth 100000 in
theorem lifted (os : Os) (started : os.Started) (H : Type) (enc : TypeId × Value → H) :
    ReturnsInHanded {} Try.checked os 11 .any (Rows.fnTakeSpec.pre6 enc Try.prog Try.f11 Rows.fnTakeRow.domain false) (Rows.fnTakeSpec.post enc Try.prog Try.f11 false true false false) := by
  refine returnsInHanded_of_change_sized (C := Try.checked) own started (by kernel_rfl) Try.func11
    (ChangeSpec.witness6 (enc := enc) (C := Try.checked) false ⟨#[], #[.slice none 0 0], []⟩ 8 (by kernel_rfl) (by kernel_rfl) (by kernel_rfl) (by kernel_rfl)) ?_
  intro W base args ds gs before hval0 hW hcnd hsz0 _
  have hsz : (DataW.weightsEach Try.prog (Try.f11.params.toList ++ Rows.fnTakeSpec.plain.varTypes Try.prog) (ds ++ gs)).all (· ≤ reachBytes) = true := hsz0
  have hval : ∀ (j : Nat) t v, Try.f11.params[j]? = some t → args[j]? = some v → Value.okWide Try.prog W .any base t v := hval0
  have hW' := hW
  obtain ⟨p, q, hA0, hV, rfl, hfz, hnd⟩ := hW
  have hA : DataW.TrodAll enc Try.prog W 0 (fun _ => true) true Try.f11.params.toList args.toList ds p := hA0
  rw [Try.params11] at hA hval hsz
  obtain ⟨v0, vs0, d0, ds0, p0, q0, hargs, rfl, rfl, h0, r0⟩ := trodAll_cons hA
  obtain ⟨rfl, rfl, rfl⟩ := trodAll_nil r0
  obtain rfl : args = #[v0] := by cases args; simp_all
  obtain ⟨rfl, rfl⟩ := trodVars_none hV
  obtain ⟨a0, len0, cap0, rfl⟩ := okWide_slice Try.underlying22 (hval 0 22 v0 rfl rfl)
  have k0 := h0
  have lt0 : ∀ x ∈ p0, x.block < W.heap.size := by obtain ⟨m, hm⟩ := k0; exact DataW.trod_lt m _ _ _ hm
  obtain ⟨z0, w0⟩ : ∃ zs, IsRow .u8 W a0 len0 cap0 zs := by
    obtain ⟨fuel, hf⟩ := h0
    rcases open_ints Try.underlying22 Try.underlying5 (by kernel_rfl) hf with ⟨hcs, _⟩ | ⟨x, l, c, zs, hcs, _, hl, hm, hz, _, hcell, hwz⟩
    · simp [Value.cells] at hcs
      obtain ⟨rfl, rfl, rfl⟩ := hcs
      exact ⟨[], .inl ⟨rfl, rfl, rfl, rfl⟩⟩
    · simp [Value.cells] at hcs
      obtain ⟨rfl, rfl, rfl⟩ := hcs
      exact ⟨zs, .inr ⟨_, rfl, hl, hm, by simpa using hz, hcell, hwz⟩⟩
  have y0 : len0 * 1 ≤ 140737488351232 := Go.Proofs.YtjhfjnknajhanaaW.PrintWords.sized_ints hsz (j := 0) (t := 22) rfl rfl Try.underlying22 Try.underlying5 (by kernel_rfl) (by kernel_rfl) h0
  clear hA0 hval0 hsz0 hsz
  refine (P.laws_FnTake.walk Q.FnTake a0 len0 cap0 z0 W w0 y0).mono fun e W' ⟨he, bel⟩ => ?_
  subst he
  exact ⟨_, rfl, _, _, _, [], _, [], hW', trodAll_mk1 (shut_bool Try.underlying4 _), (trodAll_cons_mk (Below.trod laidOut (by kernel_rfl) (of_decide_eq_true (by kernel_rfl)) k0 bel lt0) trodAll_mk0), rfl, bel.frame _, fun h => by cases h⟩
theorem over : Rows.fnTakeRow.holds Try.pinned (OpenSpec.ofChange Rows.fnTakeSpec) :=
  OpenClaim.holds_of_wide 11 Try.f11 rfl rfl rfl rfl rfl rfl rfl ⟨rfl, rfl, rfl, rfl, rfl⟩ rfl rfl rfl rfl rfl (by kernel_rfl) Try.func11 joined
    (of_decide_eq_true (by kernel_rfl)) (by unfold Func.isWrapper; first | (rw [if_pos (by decide +kernel)]; kernel_rfl) | (rw [if_neg (by decide +kernel)]; exact ⟨rfl, rfl⟩))
    (fun os started H enc _ => lifted os started H enc)
theorem proved : Rows.FnTakeSaid := over
#print axioms proved
end Go.Proofs.Ytjhfjnknajhanaa.fnTake
namespace Go.Proofs.Ytjhfjnknajhanaa
/-- The row, under a short name, for the claim. -/
theorem fnTake_holds : Rows.FnTakeSaid := fnTake.proved
end Go.Proofs.Ytjhfjnknajhanaa
