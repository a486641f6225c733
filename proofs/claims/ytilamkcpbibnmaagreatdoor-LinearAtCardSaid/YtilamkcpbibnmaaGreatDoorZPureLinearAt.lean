import Derived.Test.YtilamkcpbibnmaaGreatDoorZLinAt
import Derived.Test.YtilamkcpbibnmaaGreatDoorZPxfleuronref08At
namespace Go.Proofs.YtilamkcpbibnmaaGreatDoor.P
open Go.RowKit Go.Proofs.YtilamkcpbibnmaaGreatDoorW.PrintWords Go.Proofs.YtilamkcpbibnmaaGreatDoorW.PrintLast Go.Proofs.YtilamkcpbibnmaaGreatDoorW.PrintMore
set_option linter.unusedVariables false
theorem LinearAt_pure (p q : Int) (l l1 : LT) (hp : (Lit.int .i64 p).wf = true) (hq : (Lit.int .i64 q).wf = true) (hl : l.length ≤ 9223372036854775807) (ht : ∀ t ∈ l, TOk t) (hl1 : l1.length ≤ 9223372036854775807) (ht1 : ∀ t ∈ l1, TOk t) : ∃ k, fleuronlaw08_LinearAt.f k p q l l1 = some true := by
  have ip := I64_of hp
  have iq := I64_of hq
  refine Ev.here ?_
  unfold fleuronlaw08_LinearAt.f
  refine Ev.bind (few_ev ⟨by simp, fun r hr => by
    simp only [List.mem_cons, List.mem_nil_iff, or_false] at hr
    rcases hr with rfl | rfl
    · exact ⟨hl, fun t h => (ht t h).2.2⟩
    · exact ⟨hl1, fun t h => (ht1 t h).2.2⟩⟩) ?_
  simp only [List.all_cons, List.all_nil, Bool.and_true]
  cases hc : (fewB l && fewB l1) with
  | false => exact Ev.neg (by decide) awake_ev
  | true =>
    simp only [Bool.and_eq_true] at hc
    have a1 := fewB_le hc.1
    have a2 := fewB_le hc.2
    refine Ev.pos rfl (Ev.bind (At_ev ip iq a1 a2 ht ht1) (Ev.bind (RAt_ev ip iq a1 a2 ht ht1) (Ev.bind (same_refl (Nat.le_trans atV_len (by omega))) (Ev.bind awake_ev ?_))))
    exact Ev.pos (by simp) (Ev.const rfl)
end Go.Proofs.YtilamkcpbibnmaaGreatDoor.P
