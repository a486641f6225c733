/- The plain law of NumSums. -/
import Derived.Test.YtndbdnkpnjibkaaDoorRes
import Derived.Test.YtndbdnkpnjibkaaDoorPxfleuronref01Add
namespace Go.Proofs.YtndbdnkpnjibkaaDoor.P
open Go.RowKit Go.Proofs.YtndbdnkpnjibkaaDoorW.PrintWords Go.Proofs.YtndbdnkpnjibkaaDoorW.PrintLast Go.Proofs.YtndbdnkpnjibkaaDoorW.PrintMore
set_option linter.unusedVariables false
theorem NumSums_pure (a b c d : Int) (ha : (Lit.int .i64 a).wf = true) (hb : (Lit.int .i64 b).wf = true) (hc : (Lit.int .i64 c).wf = true) (hd : (Lit.int .i64 d).wf = true) : ∃ k, fleuronlaw01_NumSums.f k a b c d = some true := by
  have ia := I64_of ha
  have ib := I64_of hb
  have ic := I64_of hc
  have id := I64_of hd
  refine Ev.here ?_
  unfold fleuronlaw01_NumSums.f
  refine Ev.bind (Add_ev ia ib ic id) (Ev.bind (RAdd_ev ia ib ic id) (Ev.bind (Sub_ev ia ib ic id) (Ev.bind (RSub_ev ia ib ic id) (Ev.bind (Mul_ev ia ib ic id) (Ev.bind (RMul_ev ia ib ic id) (Ev.bind (Div_ev ia ib ic id) (Ev.bind (RDiv_ev ia ib ic id) ?_)))))))
  exact Ev.pos (by simp) (Ev.pos (by simp) (Ev.pos (by simp) (Ev.pos (by simp) (Ev.pos (by simp) (Ev.pos (by simp) (Ev.pos (by simp) (Ev.pos (by simp) (Ev.bind awake_ev (Ev.const rfl)))))))))
end Go.Proofs.YtndbdnkpnjibkaaDoor.P
