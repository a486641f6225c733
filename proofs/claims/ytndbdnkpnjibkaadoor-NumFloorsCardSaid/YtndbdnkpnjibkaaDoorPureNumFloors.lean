/- The plain law of NumFloors. -/
import Derived.Test.YtndbdnkpnjibkaaDoorFix
import Derived.Test.YtndbdnkpnjibkaaDoorPxfleuronref01Floor
namespace Go.Proofs.YtndbdnkpnjibkaaDoor.P
open Go.RowKit Go.Proofs.YtndbdnkpnjibkaaDoorW.PrintWords Go.Proofs.YtndbdnkpnjibkaaDoorW.PrintLast Go.Proofs.YtndbdnkpnjibkaaDoorW.PrintMore
set_option linter.unusedVariables false
theorem RFloor_ev {p q : Int} (hp : I64 p) (hq : I64 q) : Ev (fun k => fleuronref01_Floor.f k p q) (if vB p q = true then (p / q, 0) else (0, 2)) := by
  unfold fleuronref01_Floor.f
  refine Ev.bind (RValid_ev hp hq) ?_
  by_cases hv : vB p q = true
  · obtain ⟨a1, b1, b2⟩ := vB_b hv
    exact Ev.to (Ev.pos hv (Ev.bind (Ev.const (down_eq hp (by omega) hq.2)) (Ev.const rfl))) (if_pos hv).symm
  · exact Ev.to (Ev.neg hv (Ev.const rfl)) (if_neg hv).symm
theorem RFixed_ev {p q : Int} (hp : I64 p) (hq : I64 q) : Ev (fun k => fleuronref01_Fixed.f k p q) (if vB p q = true then ((131072 * p + q) / (2 * q), 0) else (0, 2)) := by
  unfold fleuronref01_Fixed.f
  refine Ev.bind (RValid_ev hp hq) ?_
  by_cases hv : vB p q = true
  · obtain ⟨a1, b1, b2⟩ := vB_b hv
    have d := ediv_small a1 b2
    refine Ev.to (Ev.pos hv (Ev.bind (fixed_ev hp (by omega) (by omega)) (Ev.const ?_))) (if_pos hv).symm
    rw [if_neg (by omega)]
  · exact Ev.to (Ev.neg hv (Ev.const rfl)) (if_neg hv).symm
theorem RFromFixed_ev {n : Int} (hn : I64 n) : Ev (fun k => fleuronref01_FromFixed.f k n) (exr (Rat.divInt n 65536)) := by
  unfold fleuronref01_FromFixed.f
  refine Ev.bind (RMake_ev hn (by unfold I64; omega)) (Ev.const ?_)
  rw [if_neg (by decide)]
theorem RCmp_ev {a b c d : Int} (ha : I64 a) (hb : I64 b) (hc : I64 c) (hd : I64 d) : Ev (fun k => fleuronref01_Cmp.f k a b c d) (cmpV a b c d) := by
  unfold fleuronref01_Cmp.f cmpV
  refine Ev.bind (both_ev ha hb hc hd) ?_
  by_cases hv : (vB a b && vB c d) = true
  rotate_left
  · exact Ev.to (Ev.neg hv (Ev.const rfl)) (if_neg hv).symm
  refine Ev.to (Ev.pos hv ?_) (if_pos hv).symm
  simp only [Bool.and_eq_true] at hv
  obtain ⟨a1, b1, b2⟩ := vB_b hv.1
  obtain ⟨c1, d1, d2⟩ := vB_b hv.2
  have m1 := mul_small a1 d1
  have m2 := mul_small c1 b1
  rw [w64_id (x := a * d) (by omega) (by omega), w64_id (x := c * b) (by omega) (by omega)]
  by_cases h1 : a * d < c * b
  · exact Ev.to (Ev.pos h1 (Ev.const rfl)) (if_pos h1).symm
  refine Ev.to ?_ (if_neg h1).symm
  by_cases h2 : a * d > c * b
  · exact Ev.to (Ev.neg h1 (Ev.pos h2 (Ev.const rfl))) (if_pos h2).symm
  · exact Ev.to (Ev.neg h1 (Ev.neg h2 (Ev.const rfl))) (if_neg h2).symm
theorem NumFloors_pure (a b c d n : Int) (ha : (Lit.int .i64 a).wf = true) (hb : (Lit.int .i64 b).wf = true) (hc : (Lit.int .i64 c).wf = true) (hd : (Lit.int .i64 d).wf = true) (hn : (Lit.int .i64 n).wf = true) : ∃ k, fleuronlaw01_NumFloors.f k a b c d n = some true := by
  have ia := I64_of ha
  have ib := I64_of hb
  have ic := I64_of hc
  have id := I64_of hd
  have im := I64_of hn
  refine Ev.here ?_
  unfold fleuronlaw01_NumFloors.f
  refine Ev.bind (Floor_ev ia ib) (Ev.bind (RFloor_ev ia ib) (Ev.bind (Cmp_ev ia ib ic id) (Ev.bind (RCmp_ev ia ib ic id) (Ev.bind (Fixed_ev ia ib) (Ev.bind (RFixed_ev ia ib) (Ev.bind (FromFixed_ev im) (Ev.bind (RFromFixed_ev im) ?_)))))))
  exact Ev.pos rfl (Ev.pos rfl (Ev.pos rfl (Ev.pos rfl (Ev.pos rfl (Ev.pos rfl (Ev.pos (by simp) (Ev.pos rfl (Ev.bind awake_ev (Ev.const rfl)))))))))
end Go.Proofs.YtndbdnkpnjibkaaDoor.P
