/- Numbers in lowest terms as rationals: the operations, the order, the remainder. -/
import Derived.Test.YtndbdnkpnjibkaaDoorFix
import Derived.Test.YtndbdnkpnjibkaaDoorRes
namespace Go.Proofs.YtndbdnkpnjibkaaDoor.P
open Go.RowKit Go.Proofs.YtndbdnkpnjibkaaDoorW.PrintWords Go.Proofs.YtndbdnkpnjibkaaDoorW.PrintLast Go.Proofs.YtndbdnkpnjibkaaDoorW.PrintMore
set_option linter.unusedVariables false

theorem den_ne (r : Rat) : (r.den : Int) ≠ 0 := by have := r.den_pos; omega
theorem den_gt (r : Rat) : 0 < (r.den : Int) := by have := r.den_pos; omega
theorem both_small {r s : Rat} (hr : small r) (hs : small s) : (vB r.num r.den && vB s.num s.den) = true := by rw [small_vB hr, small_vB hs]; rfl
theorem doV_add {r s : Rat} (hr : small r) (hs : small s) (near : Bool) : doV ⟨#[43]⟩ near r.num r.den s.num s.den = outv near (r + s) := by
  unfold doV
  rw [if_pos (both_small hr hs), if_pos (by kernel_rfl), ← Rat.divInt_add_divInt _ _ (den_ne r) (den_ne s), rat_divInt, rat_divInt]
theorem doV_sub {r s : Rat} (hr : small r) (hs : small s) (near : Bool) : doV ⟨#[45]⟩ near r.num r.den s.num s.den = outv near (r - s) := by
  unfold doV
  rw [if_pos (both_small hr hs), if_neg (by decide +kernel), if_pos (by kernel_rfl), ← Rat.divInt_sub_divInt _ _ (den_ne r) (den_ne s), rat_divInt, rat_divInt]
theorem doV_mul {r s : Rat} (hr : small r) (hs : small s) (near : Bool) : doV ⟨#[42]⟩ near r.num r.den s.num s.den = outv near (r * s) := by
  unfold doV
  rw [if_pos (both_small hr hs), if_neg (by decide +kernel), if_neg (by decide +kernel), if_pos (by kernel_rfl), ← Rat.divInt_mul_divInt, rat_divInt, rat_divInt]
theorem doV_div {r s : Rat} (hr : small r) (hs : small s) (near : Bool) : doV ⟨#[47]⟩ near r.num r.den s.num s.den = if s = 0 then (0, 0, 18) else outv near (r / s) := by
  unfold doV
  rw [if_pos (both_small hr hs), if_neg (by decide +kernel), if_neg (by decide +kernel), if_neg (by decide +kernel), if_pos (by kernel_rfl)]
  by_cases h : s = 0
  · rw [if_pos h, if_pos (by rw [h]; rfl)]
  · have hn : s.num ≠ 0 := fun e => h (Rat.num_eq_zero.mp e)
    rw [if_neg h, if_neg hn]
    have e : Rat.divInt (r.num * s.den) (r.den * s.num) = r / s := by
      rw [← Rat.divInt_mul_divInt, rat_divInt, Rat.div_def]
      congr 1
      rw [← Rat.inv_divInt, rat_divInt]
    rw [e]
/-- The order of two rationals. -/
def cmpR (r s : Rat) : Int := if r < s then -1 else if s < r then 1 else 0
theorem cmpV_R {r s : Rat} (hr : small r) (hs : small s) : cmpV r.num r.den s.num s.den = (cmpR r s, 0) := by
  unfold cmpV cmpR
  rw [if_pos (both_small hr hs)]
  have h1 : r.num * s.den < s.num * r.den ↔ r < s := (Rat.lt_iff r s).symm
  have h2 : r.num * s.den > s.num * r.den ↔ s < r := (Rat.lt_iff s r).symm
  by_cases c1 : r < s
  · rw [if_pos c1, if_pos (h1.mpr c1)]
  · rw [if_neg c1, if_neg (fun h => c1 (h1.mp h))]
    by_cases c2 : s < r
    · rw [if_pos c2, if_pos (h2.mpr c2)]
    · rw [if_neg c2, if_neg (fun h => c2 (h2.mp h))]
theorem cmpR_neg (r s : Rat) : cmpR r s = -cmpR s r := by
  unfold cmpR
  by_cases c1 : r < s
  · have : ¬ s < r := fun h => Rat.not_lt.mpr (Rat.le_of_lt c1) h
    rw [if_pos c1, if_neg this, if_pos c1]
  · by_cases c2 : s < r
    · rw [if_neg c1, if_pos c2, if_pos c2]; rfl
    · rw [if_neg c1, if_neg c2, if_neg c2, if_neg c1]; rfl
theorem cmpR_le {r s : Rat} : cmpR r s ≤ 0 ↔ r ≤ s := by
  unfold cmpR
  by_cases c1 : r < s
  · rw [if_pos c1]; exact ⟨fun _ => Rat.le_of_lt c1, fun _ => by decide⟩
  · rw [if_neg c1]
    by_cases c2 : s < r
    · rw [if_pos c2]; exact ⟨fun h => absurd h (by decide), fun h => absurd c2 (Rat.not_lt.mpr h)⟩
    · rw [if_neg c2]; exact ⟨fun _ => Rat.not_lt.mp c2, fun _ => by decide⟩
theorem cmpR_zero {r s : Rat} : cmpR r s = 0 ↔ r = s := by
  constructor
  · intro h
    have h1 : r ≤ s := cmpR_le.mp (by omega)
    have h2 : s ≤ r := cmpR_le.mp (by have := cmpR_neg s r; omega)
    exact Rat.le_antisymm h1 h2
  · rintro rfl
    unfold cmpR
    rw [if_neg (Rat.lt_irrefl), if_neg (Rat.lt_irrefl)]
theorem cmpR_lt {r s : Rat} : cmpR r s < 0 ↔ r < s := by
  constructor
  · intro h
    have h1 : r ≤ s := cmpR_le.mp (by omega)
    refine Rat.not_le.mp (fun h2 => ?_)
    have := cmpR_zero.mpr (Rat.le_antisymm h1 h2)
    omega
  · intro h; unfold cmpR; rw [if_pos h]; decide
theorem cmpR_gt {r s : Rat} : cmpR r s > 0 ↔ s < r := by
  rw [cmpR_neg r s, ← cmpR_lt]; omega
theorem cmpR_add (r s t : Rat) : cmpR (r + t) (s + t) = cmpR r s := by
  have h : ∀ x y : Rat, x + t < y + t ↔ x < y := fun x y => Rat.add_lt_add_right
  unfold cmpR
  simp only [h]
theorem vB_same {r s : Rat} : (r.num = s.num ∧ (r.den : Int) = s.den) ↔ r = s := by
  constructor
  · rintro ⟨h1, h2⟩
    exact Rat.ext h1 (by omega)
  · rintro rfl; exact ⟨rfl, rfl⟩
end Go.Proofs.YtndbdnkpnjibkaaDoor.P
