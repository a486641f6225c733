/- The plain law of NumMakes. -/
import Derived.Test.YtndbdnkpnjibkaaDoorDo
import Derived.Test.YtndbdnkpnjibkaaDoorPxfleuronlaw01NumMakes
namespace Go.Proofs.YtndbdnkpnjibkaaDoor.P
open Go.RowKit Go.Proofs.YtndbdnkpnjibkaaDoorW.PrintWords Go.Proofs.YtndbdnkpnjibkaaDoorW.PrintLast Go.Proofs.YtndbdnkpnjibkaaDoorW.PrintMore
theorem NumMakes_pure (p q : Int) (hp : (Lit.int .i64 p).wf = true) (hq : (Lit.int .i64 q).wf = true) : ∃ k, fleuronlaw01_NumMakes.f k p q = some true := by
  have ip := I64_of hp
  have iq := I64_of hq
  refine Ev.here ?_
  unfold fleuronlaw01_NumMakes.f
  refine Ev.bind (Make_ev ip iq) (Ev.bind (RMake_ev ip iq) ?_)
  refine Ev.pos (by simp [makeV]) (Ev.pos (by simp [makeV]) ?_)
  exact Ev.bind (Valid_ev ip iq) (Ev.bind (RValid_ev ip iq) (Ev.pos (by simp) (Ev.bind awake_ev (Ev.const rfl))))
end Go.Proofs.YtndbdnkpnjibkaaDoor.P
