/- The plain law of NumNear. -/
import Derived.Test.YtndbdnkpnjibkaaDoorRes
import Derived.Test.YtndbdnkpnjibkaaDoorPxfleuronref01Near
namespace Go.Proofs.YtndbdnkpnjibkaaDoor.P
open Go.RowKit Go.Proofs.YtndbdnkpnjibkaaDoorW.PrintWords Go.Proofs.YtndbdnkpnjibkaaDoorW.PrintLast Go.Proofs.YtndbdnkpnjibkaaDoorW.PrintMore
set_option linter.unusedVariables false
theorem NumNear_pure (op : ByteArray) (a b c d : Int) (ho : op.size ≤ 140737488351232) (ha : (Lit.int .i64 a).wf = true) (hb : (Lit.int .i64 b).wf = true) (hc : (Lit.int .i64 c).wf = true) (hd : (Lit.int .i64 d).wf = true) : ∃ k, fleuronlaw01_NumNear.f k op a b c d = some true := by
  have ia := I64_of ha
  have ib := I64_of hb
  have ic := I64_of hc
  have id := I64_of hd
  refine Ev.here ?_
  unfold fleuronlaw01_NumNear.f
  refine Ev.bind (Near_near_ev ia ib ic id) (Ev.bind (RNear_ev ia ib ic id) ?_)
  exact Ev.pos (by simp) (Ev.pos (by simp) (Ev.bind awake_ev (Ev.const rfl)))
end Go.Proofs.YtndbdnkpnjibkaaDoor.P
