/- Several texts as one. -/
import Derived.Test.YtndbdnkpnjibkaaDoorFix
import Derived.Test.YtndbdnkpnjibkaaDoorRes
import Derived.Test.YtndbdnkpnjibkaaDoorPxfleuronlaw01NumField
import Derived.Test.YtndbdnkpnjibkaaDoorPxfleuronlaw01product
import Derived.Test.YtndbdnkpnjibkaaDoorPxfleuronlaw01sum
import Derived.Test.YtndbdnkpnjibkaaDoorCards
import Derived.Test.YtndbdnkpnjibkaaDoorLaid
import Derived.WalkKit
import Derived.ProofKit
import Derived.OpenShut
import Derived.ShutString
import Derived.ChangeOld
import Derived.ChangeSame
import Derived.ChangeVars
import Derived.Below
import Derived.SizedLaws
import Derived.LaidLaws
import Derived.JoinedOf
import Derived.RowKit
import Derived.RowKitTokens
import Derived.SevenTiedAt
import Derived.Lib.SmallJoins
section
namespace Go.Proofs.YtndbdnkpnjibkaaDoor.P
open Go.RowKit Go.Proofs.YtndbdnkpnjibkaaDoorW.PrintWords Go.Proofs.YtndbdnkpnjibkaaDoorW.PrintLast Go.Proofs.YtndbdnkpnjibkaaDoorW.PrintMore
set_option linter.unusedVariables false

theorem den_ne (r : Rat) : (r.den : Int) ≠ 0 := by have := r.den_pos; omega
theorem den_gt (r : Rat) : 0 < (r.den : Int) := by have := r.den_pos; omega
theorem both_small {r s : Rat} (hr : small r) (hs : small s) : (vB r.num r.den && vB s.num s.den) = true := by rw [small_vB hr, small_vB hs]; rfl
theorem doV_add {r s : Rat} (hr : small r) (hs : small s) (near : Bool) : doV ⟨#[43]⟩ near r.num r.den s.num s.den = outv near (r + s) := by
  unfold doV
  rw [if_pos (both_small hr hs), if_pos (by kernel_rfl), ← Rat.divInt_add_divInt _ _ (den_ne r) (den_ne s), rat_divInt, rat_divInt]
theorem doV_sub {r s : Rat} (hr : small r) (hs : small s) (near : Bool) : doV ⟨#[45]⟩ near r.num r.den s.num s.den = outv near (r - s) := by
  unfold doV
  rw [if_pos (both_small hr hs), if_neg (by decide +kernel), if_pos (by kernel_rfl), ← Rat.divInt_sub_divInt _ _ (den_ne r) (den_ne s), rat_divInt, rat_divInt]
theorem doV_mul {r s : Rat} (hr : small r) (hs : small s) (near : Bool) : doV ⟨#[42]⟩ near r.num r.den s.num s.den = outv near (r * s) := by
  unfold doV
  rw [if_pos (both_small hr hs), if_neg (by decide +kernel), if_neg (by decide +kernel), if_pos (by kernel_rfl), ← Rat.divInt_mul_divInt, rat_divInt, rat_divInt]
theorem doV_div {r s : Rat} (hr : small r) (hs : small s) (near : Bool) : doV ⟨#[47]⟩ near r.num r.den s.num s.den = if s = 0 then (0, 0, 18) else outv near (r / s) := by
  unfold doV
  rw [if_pos (both_small hr hs), if_neg (by decide +kernel), if_neg (by decide +kernel), if_neg (by decide +kernel), if_pos (by kernel_rfl)]
  by_cases h : s = 0
  · rw [if_pos h, if_pos (by rw [h]; rfl)]
  · have hn : s.num ≠ 0 := fun e => h (Rat.num_eq_zero.mp e)
    rw [if_neg h, if_neg hn]
    have e : Rat.divInt (r.num * s.den) (r.den * s.num) = r / s := by
      rw [← Rat.divInt_mul_divInt, rat_divInt, Rat.div_def]
      congr 1
      rw [← Rat.inv_divInt, rat_divInt]
    rw [e]
/-- The order of two rationals. -/
def cmpR (r s : Rat) : Int := if r < s then -1 else if s < r then 1 else 0
theorem cmpV_R {r s : Rat} (hr : small r) (hs : small s) : cmpV r.num r.den s.num s.den = (cmpR r s, 0) := by
  unfold cmpV cmpR
  rw [if_pos (both_small hr hs)]
  have h1 : r.num * s.den < s.num * r.den ↔ r < s := (Rat.lt_iff r s).symm
  have h2 : r.num * s.den > s.num * r.den ↔ s < r := (Rat.lt_iff s r).symm
  by_cases c1 : r < s
  · rw [if_pos c1, if_pos (h1.mpr c1)]
  · rw [if_neg c1, if_neg (fun h => c1 (h1.mp h))]
    by_cases c2 : s < r
    · rw [if_pos c2, if_pos (h2.mpr c2)]
    · rw [if_neg c2, if_neg (fun h => c2 (h2.mp h))]
theorem cmpR_neg (r s : Rat) : cmpR r s = -cmpR s r := by
  unfold cmpR
  by_cases c1 : r < s
  · have : ¬ s < r := fun h => Rat.not_lt.mpr (Rat.le_of_lt c1) h
    rw [if_pos c1, if_neg this, if_pos c1]
  · by_cases c2 : s < r
    · rw [if_neg c1, if_pos c2, if_pos c2]; rfl
    · rw [if_neg c1, if_neg c2, if_neg c2, if_neg c1]; rfl
theorem cmpR_le {r s : Rat} : cmpR r s ≤ 0 ↔ r ≤ s := by
  unfold cmpR
  by_cases c1 : r < s
  · rw [if_pos c1]; exact ⟨fun _ => Rat.le_of_lt c1, fun _ => by decide⟩
  · rw [if_neg c1]
    by_cases c2 : s < r
    · rw [if_pos c2]; exact ⟨fun h => absurd h (by decide), fun h => absurd c2 (Rat.not_lt.mpr h)⟩
    · rw [if_neg c2]; exact ⟨fun _ => Rat.not_lt.mp c2, fun _ => by decide⟩
theorem cmpR_zero {r s : Rat} : cmpR r s = 0 ↔ r = s := by
  constructor
  · intro h
    have h1 : r ≤ s := cmpR_le.mp (by omega)
    have h2 : s ≤ r := cmpR_le.mp (by have := cmpR_neg s r; omega)
    exact Rat.le_antisymm h1 h2
  · rintro rfl
    unfold cmpR
    rw [if_neg (Rat.lt_irrefl), if_neg (Rat.lt_irrefl)]
theorem cmpR_lt {r s : Rat} : cmpR r s < 0 ↔ r < s := by
  constructor
  · intro h
    have h1 : r ≤ s := cmpR_le.mp (by omega)
    refine Rat.not_le.mp (fun h2 => ?_)
    have := cmpR_zero.mpr (Rat.le_antisymm h1 h2)
    omega
  · intro h; unfold cmpR; rw [if_pos h]; decide
theorem cmpR_gt {r s : Rat} : cmpR r s > 0 ↔ s < r := by
  rw [cmpR_neg r s, ← cmpR_lt]; omega
theorem cmpR_add (r s t : Rat) : cmpR (r + t) (s + t) = cmpR r s := by
  have h : ∀ x y : Rat, x + t < y + t ↔ x < y := fun x y => Rat.add_lt_add_right
  unfold cmpR
  simp only [h]
theorem vB_same {r s : Rat} : (r.num = s.num ∧ (r.den : Int) = s.den) ↔ r = s := by
  constructor
  · rintro ⟨h1, h2⟩
    exact Rat.ext h1 (by omega)
  · rintro rfl; exact ⟨rfl, rfl⟩
end Go.Proofs.YtndbdnkpnjibkaaDoor.P
end

section
namespace Go.Proofs.YtndbdnkpnjibkaaDoor.P
open Go.RowKit Go.Proofs.YtndbdnkpnjibkaaDoorW.PrintWords Go.Proofs.YtndbdnkpnjibkaaDoorW.PrintLast Go.Proofs.YtndbdnkpnjibkaaDoorW.PrintMore
set_option linter.unusedVariables false
/-- A result that may be none: its number, and whether there is one. -/
def okv : Option Rat → Int × Int × Bool
  | some r => (r.num, (r.den : Int), true)
  | none => (0, 0, false)
def osum (x y : Option Rat) : Option Rat := x.bind fun r => y.bind fun s => if small (r + s) then some (r + s) else none
def omul (x y : Option Rat) : Option Rat := x.bind fun r => y.bind fun s => if small (r * s) then some (r * s) else none
def sm (x : Option Rat) : Prop := ∀ r, x = some r → small r
theorem sm_some {r : Rat} (h : small r) : sm (some r) := fun s e => by rw [← Option.some.inj e]; exact h
theorem sm_osum (x y : Option Rat) : sm (osum x y) := by
  intro r e
  unfold osum at e
  cases x <;> cases y <;> simp at e
  obtain ⟨h, rfl⟩ := e; exact h
theorem sm_omul (x y : Option Rat) : sm (omul x y) := by
  intro r e
  unfold omul at e
  cases x <;> cases y <;> simp at e
  obtain ⟨h, rfl⟩ := e; exact h
theorem okv_I64 {x : Option Rat} (h : sm x) : I64 (okv x).1 ∧ I64 (okv x).2.1 := by
  cases x with
  | none => unfold I64; simp [okv]
  | some r => exact vB_I64 (small_vB (h r rfl))
theorem vB_okv {x : Option Rat} (h : sm x) : vB (okv x).1 (okv x).2.1 = x.isSome := by
  cases x with
  | none => decide
  | some r => exact small_vB (h r rfl)
theorem out_okv (r : Rat) : ((exr r).1, (exr r).2.1, (exr r).2.2 == 0) = okv (if small r then some r else none) := by
  by_cases h : small r
  · rw [if_pos h, exr_pos h]; rfl
  · rw [if_neg h, exr_neg h]; rfl
theorem bad_do {op : ByteArray} {a b c d : Int} (h : ¬ (vB a b && vB c d) = true) : doV op false a b c d = (0, 0, 2) := if_neg h
theorem osum_ev {x y : Option Rat} (hx : sm x) (hy : sm y) : Ev (fun k => fleuronlaw01_sum.f k (okv x).1 (okv x).2.1 (okv y).1 (okv y).2.1) (okv (osum x y)) := by
  have ix := okv_I64 hx
  have iy := okv_I64 hy
  unfold fleuronlaw01_sum.f
  refine Ev.bind (Add_ev ix.1 ix.2 iy.1 iy.2) (Ev.const ?_)
  congr 1
  cases x with
  | none => rw [bad_do (by rw [vB_okv hx, vB_okv hy]; simp)]; rfl
  | some r =>
    cases y with
    | none => rw [bad_do (by rw [vB_okv hx, vB_okv hy]; simp)]; rfl
    | some s =>
      show ((doV ⟨#[43]⟩ false r.num r.den s.num s.den).1, (doV ⟨#[43]⟩ false r.num r.den s.num s.den).2.1, (doV ⟨#[43]⟩ false r.num r.den s.num s.den).2.2 == 0) = _
      rw [doV_add (hx r rfl) (hy s rfl) false]
      exact out_okv (r + s)
theorem omul_ev {x y : Option Rat} (hx : sm x) (hy : sm y) : Ev (fun k => fleuronlaw01_product.f k (okv x).1 (okv x).2.1 (okv y).1 (okv y).2.1) (okv (omul x y)) := by
  have ix := okv_I64 hx
  have iy := okv_I64 hy
  unfold fleuronlaw01_product.f
  refine Ev.bind (Mul_ev ix.1 ix.2 iy.1 iy.2) (Ev.const ?_)
  congr 1
  cases x with
  | none => rw [bad_do (by rw [vB_okv hx, vB_okv hy]; simp)]; rfl
  | some r =>
    cases y with
    | none => rw [bad_do (by rw [vB_okv hx, vB_okv hy]; simp)]; rfl
    | some s =>
      show ((doV ⟨#[42]⟩ false r.num r.den s.num s.den).1, (doV ⟨#[42]⟩ false r.num r.den s.num s.den).2.1, (doV ⟨#[42]⟩ false r.num r.den s.num s.den).2.2 == 0) = _
      rw [doV_mul (hx r rfl) (hy s rfl) false]
      exact out_okv (r * s)
theorem okv_true {x : Option Rat} (h : (okv x).2.2 = true) : ∃ r, x = some r := by
  cases x with
  | none => exact absurd h (by decide)
  | some r => exact ⟨r, rfl⟩
theorem osum_some {x y : Option Rat} {z : Rat} (h : osum x y = some z) : ∃ r s, x = some r ∧ y = some s ∧ z = r + s := by
  unfold osum at h
  cases x <;> cases y <;> simp at h
  exact ⟨_, _, rfl, rfl, h.2.symm⟩
theorem omul_some {x y : Option Rat} {z : Rat} (h : omul x y = some z) : ∃ r s, x = some r ∧ y = some s ∧ z = r * s := by
  unfold omul at h
  cases x <;> cases y <;> simp at h
  exact ⟨_, _, rfl, rfl, h.2.symm⟩
theorem osum_comm (x y : Option Rat) : osum x y = osum y x := by
  unfold osum
  cases x <;> cases y <;> simp [Rat.add_comm]
theorem omul_comm (x y : Option Rat) : omul x y = omul y x := by
  unfold omul
  cases x <;> cases y <;> simp [Rat.mul_comm]
theorem same_no {x y : Option Rat} (h : x = y) : ¬ (!((okv x).1 == (okv y).1) || (!((okv x).2.1 == (okv y).2.1))) = true := by
  subst h; simp
theorem same_yes {x y : Option Rat} (h : x = y) : ((okv x).1 == (okv y).1 && ((okv x).2.1 == (okv y).2.1)) = true := by
  subst h; simp
theorem NumField_pure (a b c d e f : Int) (ha : (Lit.int .i64 a).wf = true) (hb : (Lit.int .i64 b).wf = true) (hc : (Lit.int .i64 c).wf = true) (hd : (Lit.int .i64 d).wf = true) (he : (Lit.int .i64 e).wf = true) (hf : (Lit.int .i64 f).wf = true) : ∃ k, fleuronlaw01_NumField.f k a b c d e f = some true := by
  have ia := I64_of ha
  have ib := I64_of hb
  have ic := I64_of hc
  have id := I64_of hd
  have ie := I64_of he
  have if_ := I64_of hf
  refine Ev.here ?_
  have out : Ev (fun k => fleuronlaw01_NumField.j0 k true a b c d e f) true := by
    refine Ev.succ ?_
    simp only [fleuronlaw01_NumField.j0]
    exact Ev.pos trivial (Ev.bind awake_ev (Ev.const rfl))
  unfold fleuronlaw01_NumField.f
  refine Ev.bind (RValid_ev ia ib) ?_
  by_cases h1 : vB a b = true
  rotate_left
  · exact Ev.neg h1 out
  refine Ev.pos h1 (Ev.bind (RValid_ev ic id) ?_)
  by_cases h2 : vB c d = true
  rotate_left
  · exact Ev.neg h2 out
  refine Ev.pos h2 (Ev.bind (RValid_ev ie if_) ?_)
  by_cases h3 : vB e f = true
  rotate_left
  · rw [Bool.eq_false_iff.mpr h3]; exact out
  rw [h3]
  obtain ⟨r, hr, rfl, rfl⟩ := vB_rat h1
  obtain ⟨s, hs, rfl, rfl⟩ := vB_rat h2
  obtain ⟨t, ht, rfl, rfl⟩ := vB_rat h3
  clear out
  have sr := sm_some hr
  have ss := sm_some hs
  have st := sm_some ht
  have fin : Ev (fun k => (fleuronlaw01_awake.f k).bind fun t => (some t)) true := Ev.bind awake_ev (Ev.const rfl)
  obtain ⟨ab, hab⟩ : ∃ x, x = osum (some r) (some s) := ⟨_, rfl⟩
  obtain ⟨p, hp⟩ : ∃ x, x = omul (some r) (some s) := ⟨_, rfl⟩
  have sab : sm ab := by rw [hab]; exact sm_osum _ _
  have sp : sm p := by rw [hp]; exact sm_omul _ _
  -- products of sums
  have j6 : Ev (fun k => fleuronlaw01_NumField.j6 k r.num r.den s.num s.den t.num t.den) true := by
    refine Ev.succ ?_
    simp only [fleuronlaw01_NumField.j6]
    refine Ev.bind (osum_ev ss st) (Ev.bind (omul_ev sr (sm_osum (some s) (some t))) (Ev.bind (omul_ev sr ss) (Ev.bind (omul_ev sr st) (Ev.bind (osum_ev (sm_omul (some r) (some s)) (sm_omul (some r) (some t))) ?_))))
    by_cases c1 : (okv (osum (some s) (some t))).2.2 = true
    rotate_left
    · exact Ev.neg c1 fin
    refine Ev.pos c1 ?_
    by_cases c2 : (okv (omul (some r) (osum (some s) (some t)))).2.2 = true
    rotate_left
    · exact Ev.neg c2 fin
    refine Ev.pos c2 ?_
    by_cases c3 : (okv (omul (some r) (some s))).2.2 = true
    rotate_left
    · exact Ev.neg c3 fin
    refine Ev.pos c3 ?_
    by_cases c4 : (okv (omul (some r) (some t))).2.2 = true
    rotate_left
    · exact Ev.neg c4 fin
    refine Ev.pos c4 ?_
    by_cases c5 : (okv (osum (omul (some r) (some s)) (omul (some r) (some t)))).2.2 = true
    rotate_left
    · exact Ev.neg c5 fin
    refine Ev.pos c5 (Ev.pos ?_ fin)
    obtain ⟨l, hl⟩ := okv_true c2
    obtain ⟨q, hq⟩ := okv_true c5
    refine same_yes ?_
    obtain ⟨x1, y1, e1, e2, e3⟩ := omul_some hl
    obtain ⟨x2, y2, e4, e5, e6⟩ := osum_some e2
    obtain ⟨x3, y3, e7, e8, e9⟩ := osum_some hq
    obtain ⟨x4, y4, f1, f2, f3⟩ := omul_some e7
    obtain ⟨x5, y5, f4, f5, f6⟩ := omul_some e8
    cases e1; cases e4; cases e5; cases f1; cases f2; cases f4; cases f5
    rw [hl, hq, e3, e6, e9, f3, f6, Rat.mul_add]
  have j5 : Ev (fun k => fleuronlaw01_NumField.j5 k false r.num r.den s.num s.den t.num t.den (okv p).1 (okv p).2.1) true := by
    refine Ev.succ ?_
    simp only [fleuronlaw01_NumField.j5]
    refine Ev.neg (by decide) (Ev.bind (omul_ev sp st) (Ev.bind (omul_ev ss st) (Ev.bind (omul_ev sr (sm_omul (some s) (some t))) ?_)))
    by_cases c1 : (okv (omul p (some t))).2.2 = true
    rotate_left
    · exact Ev.neg c1 j6
    refine Ev.pos c1 ?_
    by_cases c2 : (okv (omul (some s) (some t))).2.2 = true
    rotate_left
    · exact Ev.neg c2 j6
    refine Ev.pos c2 ?_
    by_cases c3 : (okv (omul (some r) (omul (some s) (some t)))).2.2 = true
    rotate_left
    · exact Ev.neg c3 j6
    refine Ev.pos c3 (Ev.neg ?_ j6)
    obtain ⟨l, hl⟩ := okv_true c1
    obtain ⟨q, hq⟩ := okv_true c3
    refine same_no ?_
    obtain ⟨x1, y1, e1, e2, e3⟩ := omul_some hl
    rw [hp] at e1
    obtain ⟨x2, y2, e4, e5, e6⟩ := omul_some e1
    obtain ⟨x3, y3, e7, e8, e9⟩ := omul_some hq
    obtain ⟨x4, y4, f1, f2, f3⟩ := omul_some e8
    cases e2; cases e4; cases e5; cases e7; cases f1; cases f2
    rw [hl, hq, e3, e6, e9, f3, Rat.mul_assoc]
  have j4 : Ev (fun k => fleuronlaw01_NumField.j4 k (okv p).2.2 r.num r.den s.num s.den t.num t.den (okv p).1 (okv p).2.1) true := by
    refine Ev.succ ?_
    simp only [fleuronlaw01_NumField.j4]
    by_cases c1 : (okv p).2.2 = true
    rotate_left
    · exact Ev.neg c1 j6
    obtain ⟨q, hq⟩ := okv_true c1
    have hqs := sp q hq
    obtain ⟨x1, y1, e1, e2, e3⟩ := omul_some (hp.symm.trans hq)
    cases e1; cases e2
    refine Ev.pos c1 ?_
    have dv : Ev (fun k => num_Div.f k (okv p).1 (okv p).2.1 s.num s.den) (if s = 0 then (0, 0, 18) else exr r) := by
      rw [hq]
      have iq := vB_I64 (small_vB hqs)
      refine Ev.to (Div_ev iq.1 iq.2 ic id) ?_
      show doV ⟨#[47]⟩ false q.num q.den s.num s.den = _
      rw [doV_div hqs hs false]
      by_cases hz : s = 0
      · rw [if_pos hz, if_pos hz]
      · rw [if_neg hz, if_neg hz, e3, Rat.mul_div_cancel hz]; rfl
    refine Ev.bind dv ?_
    by_cases hz : s.num = 0
    · exact Ev.pos hz j5
    · have hz' : ¬ s = 0 := fun h => hz (Rat.num_eq_zero.mpr h)
      refine Ev.neg hz ?_
      rw [if_neg hz', exr_pos hr]
      refine Ev.pos rfl ?_
      rw [show (!(r.num == r.num) || (!((r.den : Int) == r.den))) = false by simp]
      exact j5
  have j3 : Ev (fun k => fleuronlaw01_NumField.j3 k (okv p).2.2 false r.num r.den s.num s.den t.num t.den (okv ab).1 (okv ab).2.1 (okv p).1 (okv p).2.1) true := by
    refine Ev.succ ?_
    simp only [fleuronlaw01_NumField.j3]
    refine Ev.neg (by decide) (Ev.bind (osum_ev sab st) (Ev.bind (osum_ev ss st) (Ev.bind (osum_ev sr (sm_osum (some s) (some t))) ?_)))
    by_cases c1 : (okv (osum ab (some t))).2.2 = true
    rotate_left
    · exact Ev.neg c1 j4
    refine Ev.pos c1 ?_
    by_cases c2 : (okv (osum (some s) (some t))).2.2 = true
    rotate_left
    · exact Ev.neg c2 j4
    refine Ev.pos c2 ?_
    by_cases c3 : (okv (osum (some r) (osum (some s) (some t)))).2.2 = true
    rotate_left
    · exact Ev.neg c3 j4
    refine Ev.pos c3 (Ev.neg ?_ j4)
    obtain ⟨l, hl⟩ := okv_true c1
    obtain ⟨q, hq⟩ := okv_true c3
    refine same_no ?_
    obtain ⟨x1, y1, e1, e2, e3⟩ := osum_some hl
    rw [hab] at e1
    obtain ⟨x2, y2, e4, e5, e6⟩ := osum_some e1
    obtain ⟨x3, y3, e7, e8, e9⟩ := osum_some hq
    obtain ⟨x4, y4, f1, f2, f3⟩ := osum_some e8
    cases e2; cases e4; cases e5; cases e7; cases f1; cases f2
    rw [hl, hq, e3, e6, e9, f3, Rat.add_assoc]
  have j2 : Ev (fun k => fleuronlaw01_NumField.j2 k (okv ab).2.2 (okv p).2.2 false r.num r.den s.num s.den t.num t.den (okv ab).1 (okv ab).2.1 (okv p).1 (okv p).2.1) true := by
    refine Ev.succ ?_
    simp only [fleuronlaw01_NumField.j2]
    refine Ev.neg (by decide) ?_
    by_cases c1 : (okv ab).2.2 = true
    rotate_left
    · exact Ev.neg c1 j4
    obtain ⟨q, hq⟩ := okv_true c1
    have hqs := sab q hq
    obtain ⟨x1, y1, e1, e2, e3⟩ := osum_some (hab.symm.trans hq)
    cases e1; cases e2
    refine Ev.pos c1 ?_
    have dv : Ev (fun k => num_Sub.f k (okv ab).1 (okv ab).2.1 s.num s.den) (exr r) := by
      rw [hq]
      have iq := vB_I64 (small_vB hqs)
      refine Ev.to (Sub_ev iq.1 iq.2 ic id) ?_
      show doV ⟨#[45]⟩ false q.num q.den s.num s.den = _
      rw [doV_sub hqs hs false, e3, Rat.sub_eq_add_neg, Rat.add_assoc, Rat.add_neg_cancel, Rat.add_zero]; rfl
    refine Ev.bind dv ?_
    rw [exr_pos hr]
    refine Ev.pos rfl ?_
    rw [show (!(r.num == r.num) || (!((r.den : Int) == r.den))) = false by simp]
    exact j3
  have j1 : Ev (fun k => fleuronlaw01_NumField.j1 k (okv ab).2.2 false r.num r.den s.num s.den t.num t.den (okv ab).1 (okv ab).2.1) true := by
    refine Ev.succ ?_
    simp only [fleuronlaw01_NumField.j1]
    refine Ev.neg (by decide) (Ev.bind (omul_ev sr ss) (Ev.bind (omul_ev ss sr) ?_))
    rw [omul_comm (some s) (some r), ← hp]
    refine Ev.neg (by simp) ?_
    rw [Bool.eq_false_iff.mpr (same_no (rfl : p = p))]
    exact j2
  refine Ev.succ ?_
  simp only [fleuronlaw01_NumField.j0]
  refine Ev.neg (by decide) (Ev.bind (osum_ev sr ss) (Ev.bind (osum_ev ss sr) ?_))
  rw [osum_comm (some s) (some r), ← hab]
  refine Ev.neg (by simp) ?_
  rw [Bool.eq_false_iff.mpr (same_no (rfl : ab = ab))]
  exact j1
end Go.Proofs.YtndbdnkpnjibkaaDoor.P
end

section
namespace Go.Proofs.YtndbdnkpnjibkaaDoor
open Go Go.ChangeShapes Go.WideShapes Go.ChangeAt Go.RowKit
open Go.ChangeMaps (open_string shut_string)
set_option linter.unusedVariables false
theorem ownNumField : ownKnob Tryd.prog.godebug = none := by kernel_rfl
theorem laidOutNumField : laidOutB Tryd.prog = true := by kernel_rfl
set_option maxRecDepth 100000 in
theorem liftedNumField (os : Os) (started : os.Started) (H : Type) (enc : TypeId × Value → H) :
    ReturnsInHanded {} Tryd.checked os 7 .any (fun w args => (Rows.numFieldSpec.pre enc Tryd.prog Tryd.f7 Rows.numFieldRow.domain false w args ∧ laidMet Tryd.prog P.laidL w) ∧ sizedMet enc Tryd.prog Tryd.f7 (OpenSpec.ofChange Rows.numFieldSpec) false w args)
      (Rows.numFieldSpec.post enc Tryd.prog Tryd.f7 false true false false) := by
  refine returnsInHanded_of_change_and (C := Tryd.checked) (X := fun w _ => laidMet Tryd.prog P.laidL w) (fun _ _ _ hh h => h.of_heap hh) ownNumField started (by kernel_rfl) Tryd.func7
    (ChangeSpec.witness_at (enc := enc) (C := Tryd.checked) (os := os) (X := fun w _ => laidMet Tryd.prog P.laidL w) false (P.doorW os) #[.agg #[.int .i64 0, .int .i64 0], .agg #[.int .i64 0, .int .i64 0], .agg #[.int .i64 0, .int .i64 0]] 8 rfl (by kernel_rfl) (by kernel_rfl) (by kernel_rfl) (by kernel_rfl) (by kernel_rfl) (P.door_met os _)) ?_
  intro W base args ds gs before hval0 hW _ hsz0 hL _
  have hsz : (DataW.weightsEach Tryd.prog (Tryd.f7.params.toList ++ Rows.numFieldSpec.plain.varTypes Tryd.prog) (ds ++ gs)).all (· ≤ reachBytes) = true := hsz0
  have hval : ∀ (j : Nat) t v, Tryd.f7.params[j]? = some t → args[j]? = some v → Value.okWide Tryd.prog W .any base t v := hval0
  have hW' := hW
  obtain ⟨p, q, hA0, hV, rfl, hfz, hnd⟩ := hW
  have hA : DataW.TrodAll enc Tryd.prog W 0 (fun _ => true) true Tryd.f7.params.toList args.toList ds p := hA0
  rw [Tryd.params7] at hA hval hsz
  obtain ⟨v0, vs0, d0, ds0, p0, q0, hargs, rfl, rfl, h0, r0⟩ := trodAll_cons hA
  obtain ⟨v1, vs1, d1, ds1, p1, q1, rfl, rfl, rfl, h1, r1⟩ := trodAll_cons r0
  obtain ⟨v2, vs2, d2, ds2, p2, q2, rfl, rfl, rfl, h2, r2⟩ := trodAll_cons r1
  obtain ⟨rfl, rfl, rfl⟩ := trodAll_nil r2
  obtain rfl : args = #[v0, v1, v2] := by cases args; simp_all
  obtain ⟨rfl, rfl⟩ := trodVars_none hV
  have k0 := h0
  have lt0 : ∀ x ∈ p0, x.block < W.heap.size := by obtain ⟨m, hm⟩ := k0; exact DataW.trod_lt m _ _ _ hm
  obtain ⟨u0, u0', y0, y0', n0, rfl, rfl, rfl, e0, e0'⟩ := Joins.open_agg2 Tryd.underlying23 (by kernel_rfl) (by kernel_rfl) (hval 0 23 v0 rfl rfl) h0
  obtain ⟨a0, c0, rfl, w0⟩ := DataW.trod_int Tryd.underlying2 e0
  cases c0
  obtain ⟨b0, c0, rfl, z0⟩ := DataW.trod_int Tryd.underlying2 e0'
  cases c0
  have k1 := h1
  have lt1 : ∀ x ∈ p1, x.block < W.heap.size := by obtain ⟨m, hm⟩ := k1; exact DataW.trod_lt m _ _ _ hm
  obtain ⟨u1, u1', y1, y1', n1, rfl, rfl, rfl, e1, e1'⟩ := Joins.open_agg2 Tryd.underlying23 (by kernel_rfl) (by kernel_rfl) (hval 1 23 v1 rfl rfl) h1
  obtain ⟨a1, c1, rfl, w1⟩ := DataW.trod_int Tryd.underlying2 e1
  cases c1
  obtain ⟨b1, c1, rfl, z1⟩ := DataW.trod_int Tryd.underlying2 e1'
  cases c1
  have k2 := h2
  have lt2 : ∀ x ∈ p2, x.block < W.heap.size := by obtain ⟨m, hm⟩ := k2; exact DataW.trod_lt m _ _ _ hm
  obtain ⟨u2, u2', y2, y2', n2, rfl, rfl, rfl, e2, e2'⟩ := Joins.open_agg2 Tryd.underlying23 (by kernel_rfl) (by kernel_rfl) (hval 2 23 v2 rfl rfl) h2
  obtain ⟨a2, c2, rfl, w2⟩ := DataW.trod_int Tryd.underlying2 e2
  cases c2
  obtain ⟨b2, c2, rfl, z2⟩ := DataW.trod_int Tryd.underlying2 e2'
  cases c2
  obtain ⟨k, hk⟩ := P.NumField_pure a0 b0 a1 b1 a2 b2 w0 z0 w1 z1 w2 z2
  refine (P.fleuronlaw01_NumField.calls k a0 b0 a1 b1 a2 b2 true W hk (P.glob_of_laid hL)).mono fun e W' ⟨he, bel⟩ => ?_
  subst he
  exact ⟨_, rfl, _, _, _, [], _, [], hW', trodAll_mk1 (shut_bool Tryd.underlying4 _), (trodAll_cons_mk (Below.trod laidOutNumField (by kernel_rfl) (of_decide_eq_true (by kernel_rfl)) k0 bel lt0) (trodAll_cons_mk (Below.trod laidOutNumField (by kernel_rfl) (of_decide_eq_true (by kernel_rfl)) k1 bel lt1) (trodAll_cons_mk (Below.trod laidOutNumField (by kernel_rfl) (of_decide_eq_true (by kernel_rfl)) k2 bel lt2) trodAll_mk0))), rfl, bel.frame _, fun h => by cases h⟩
theorem numField_row : Rows.numFieldRow.holds Tryd.pinned (OpenSpec.ofChange Rows.numFieldSpec) :=
  OpenClaim.holds_of_wide 7 Tryd.f7 rfl rfl rfl rfl rfl rfl rfl ⟨rfl, rfl, rfl, rfl, rfl⟩ rfl rfl rfl rfl rfl (by kernel_rfl) Tryd.func7 (by kernel_rfl)
    (of_decide_eq_true (by kernel_rfl)) (by unfold Func.isWrapper; first | (rw [if_pos (by decide +kernel)]; kernel_rfl) | (rw [if_neg (by decide +kernel)]; exact ⟨rfl, rfl⟩))
    (fun os started H enc _ => liftedNumField os started H enc)
theorem numField_card : Rows.NumFieldCardSaid :=
  Claim7.holds_tied_plain_at .later [] [.data, .data, .data, .data, .sentinel, .sentinel, .pinned] true (true, "4653bffee7f6aae2909d5259872671d077a66129e723f2463e501ec7edcfb5b9") true
    numField_row (fun _ h => by cases h) (by kernel_rfl) (fun _ h => by cases h) numField_row_tie rfl ⟨rfl, rfl⟩ (by kernel_rfl) rfl
    (fun f fn hf hfn => by
      obtain rfl : f = 7 := Option.some.inj ((show Tryd.prog.funcNamed "fleuron/fleuronlaw01.NumField" = some 7 by kernel_rfl).symm.trans hf) |>.symm
      obtain rfl : fn = Tryd.f7 := (Option.some.inj (Tryd.func7.symm.trans hfn)).symm
      exact ⟨by kernel_rfl, fun j t ht => by
        rw [Tryd.params7] at ht
        have hm : t ∈ [23, 23, 23] := by have := Array.mem_of_getElem? ht; simpa using this
        simp only [List.mem_cons, List.mem_nil_iff, or_false] at hm
        rcases hm with rfl | rfl | rfl
        · exact (show Tryd.prog.wantsStandIn 23 = false by kernel_rfl)
        · exact (show Tryd.prog.wantsStandIn 23 = false by kernel_rfl)
        · exact (show Tryd.prog.wantsStandIn 23 = false by kernel_rfl)⟩)
    (by kernel_rfl)
#print axioms numField_card
end Go.Proofs.YtndbdnkpnjibkaaDoor
end
