/- Fixed numbers, floors, comparison: the program's and the plain twin's. -/
import Derived.Test.YtndbdnkpnjibkaaDoorDo
import Derived.Test.YtndbdnkpnjibkaaDoorPxnumCmp
import Derived.Test.YtndbdnkpnjibkaaDoorPxnumDecimal
import Derived.Test.YtndbdnkpnjibkaaDoorPxnumFromFixed
import Derived.Test.YtndbdnkpnjibkaaDoorPxnumdo
namespace Go.Proofs.YtndbdnkpnjibkaaDoor.P
open Go.RowKit Go.Proofs.YtndbdnkpnjibkaaDoorW.PrintWords Go.Proofs.YtndbdnkpnjibkaaDoorW.PrintLast Go.Proofs.YtndbdnkpnjibkaaDoorW.PrintMore
set_option linter.unusedVariables false

theorem ediv_small {p q : Int} (hp : -2147483647 ≤ p ∧ p ≤ 2147483647) (hq : 1 ≤ q) : -2147483647 ≤ p / q ∧ p / q ≤ 2147483647 := by
  have e := Int.mul_ediv_add_emod p q
  have m1 := Int.emod_nonneg p (show q ≠ 0 by omega)
  have m2 := Int.emod_lt_of_pos p (show 0 < q by omega)
  constructor
  · have : -2147483647 ≤ p / q := (Int.le_ediv_iff_mul_le (by omega)).mpr (by omega)
    omega
  · have : p / q < 2147483648 := Int.ediv_lt_of_lt_mul (by omega) (by omega)
    omega
theorem Fixed_ev {p q : Int} (hp : I64 p) (hq : I64 q) : Ev (fun k => num_Fixed.f k p q) (if vB p q = true then ((131072 * p + q) / (2 * q), 0) else (0, 2)) := by
  unfold num_Fixed.f
  refine Ev.bind (Valid_ev hp hq) ?_
  by_cases hv : vB p q = true
  · obtain ⟨a1, b1, b2⟩ := vB_b hv
    have d := ediv_small a1 b2
    refine Ev.to (Ev.pos hv (Ev.bind (Ev.const (a := (131072 * p + q) / (2 * q)) ?_) (Ev.const rfl))) (if_pos hv).symm
    unfold rational_Round.f
    rw [if_pos ⟨by omega, by omega, by omega, by omega, by omega, by omega⟩]
  · exact Ev.to (Ev.neg hv (Ev.const rfl)) (if_neg hv).symm
theorem Floor_ev {p q : Int} (hp : I64 p) (hq : I64 q) : Ev (fun k => num_Floor.f k p q) (if vB p q = true then (p / q, 0) else (0, 2)) := by
  unfold num_Floor.f
  refine Ev.bind (Valid_ev hp hq) ?_
  by_cases hv : vB p q = true
  · obtain ⟨a1, b1, b2⟩ := vB_b hv
    exact Ev.to (Ev.pos hv (Ev.bind (Ev.const (r_Floor p q (by omega) hp.1 hp.2 hq.2)) (Ev.const rfl))) (if_pos hv).symm
  · exact Ev.to (Ev.neg hv (Ev.const rfl)) (if_neg hv).symm
theorem FromFixed_ev {n : Int} (hn : I64 n) : Ev (fun k => num_FromFixed.f k n) (exr (Rat.divInt n 65536)) := by
  unfold num_FromFixed.f
  exact Ev.bind (Exact_ev hn (by unfold I64; omega) (by decide)) (Ev.const rfl)
/-- The order of two fractions. -/
def cmpV (a b c d : Int) : Int × Int := if (vB a b && vB c d) = true then (if a * d < c * b then (-1, 0) else if a * d > c * b then (1, 0) else (0, 0)) else (0, 2)
theorem Cmp_ev {a b c d : Int} (ha : I64 a) (hb : I64 b) (hc : I64 c) (hd : I64 d) : Ev (fun k => num_Cmp.f k a b c d) (cmpV a b c d) := by
  unfold num_Cmp.f cmpV
  refine Ev.bind (valid2_ev ha hb hc hd) ?_
  by_cases hv : (vB a b && vB c d) = true
  rotate_left
  · exact Ev.to (Ev.neg hv (Ev.const rfl)) (if_neg hv).symm
  refine Ev.to (Ev.pos hv ?_) (if_pos hv).symm
  simp only [Bool.and_eq_true] at hv
  obtain ⟨a1, b1, b2⟩ := vB_b hv.1
  obtain ⟨c1, d1, d2⟩ := vB_b hv.2
  have m1 := mul_small a1 d1
  have m2 := mul_small c1 b1
  rw [w64_id (x := a * d) (by omega) (by omega), w64_id (x := c * b) (by omega) (by omega)]
  by_cases h1 : a * d < c * b
  · exact Ev.to (Ev.pos h1 (Ev.const rfl)) (if_pos h1).symm
  refine Ev.to ?_ (if_neg h1).symm
  by_cases h2 : a * d > c * b
  · exact Ev.to (Ev.neg h1 (Ev.pos h2 (Ev.const rfl))) (if_pos h2).symm
  · exact Ev.to (Ev.neg h1 (Ev.neg h2 (Ev.const rfl))) (if_neg h2).symm
end Go.Proofs.YtndbdnkpnjibkaaDoor.P
