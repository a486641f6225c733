import Derived.Test.YtilamkcpbibnmaaGreatDoorZLinSum
import Derived.Test.YtilamkcpbibnmaaGreatDoorZPxfleuronlaw08LinearSums
namespace Go.Proofs.YtilamkcpbibnmaaGreatDoor.P
open Go.RowKit Go.Proofs.YtilamkcpbibnmaaGreatDoorW.PrintWords Go.Proofs.YtilamkcpbibnmaaGreatDoorW.PrintLast Go.Proofs.YtilamkcpbibnmaaGreatDoorW.PrintMore
set_option linter.unusedVariables false
theorem LinearSums_pure (p q : Int) (l : LT) (p1 q1 : Int) (l1 : LT) (hp : (Lit.int .i64 p).wf = true) (hq : (Lit.int .i64 q).wf = true) (hl : l.length ≤ 9223372036854775807) (ht : ∀ t ∈ l, TOk t) (hp1 : (Lit.int .i64 p1).wf = true) (hq1 : (Lit.int .i64 q1).wf = true) (hl1 : l1.length ≤ 9223372036854775807) (ht1 : ∀ t ∈ l1, TOk t) : ∃ k, fleuronlaw08_LinearSums.f k p q l p1 q1 l1 = some true := by
  have ip := I64_of hp
  have iq := I64_of hq
  have ip1 := I64_of hp1
  have iq1 := I64_of hq1
  refine Ev.here ?_
  unfold fleuronlaw08_LinearSums.f
  refine Ev.bind (few_ev ⟨by simp, fun r hr => by
    simp only [List.mem_cons, List.mem_nil_iff, or_false] at hr
    rcases hr with rfl | rfl
    · exact ⟨hl, fun t h => (ht t h).2.2⟩
    · exact ⟨hl1, fun t h => (ht1 t h).2.2⟩⟩) ?_
  simp only [List.all_cons, List.all_nil, Bool.and_true]
  cases hc : (fewB l && fewB l1) with
  | false => exact Ev.neg (by decide) awake_ev
  | true =>
    simp only [Bool.and_eq_true] at hc
    have a1 := fewB_le hc.1
    have a2 := fewB_le hc.2
    have eJ : ∀ op, Ev (fun k => (linear_join.f k op p q l p1 q1 l1).bind fun r => some (r.1, r.2.1, r.2.2.1, r.2.2.2)) (sumV op p q l p1 q1 l1) := fun op => Ev.bind (fjoin_ev ip iq ip1 iq1 a1 a2 ht ht1) (Ev.const rfl)
    have eB : ∀ op, Ev (fun k => (fleuronref08_both.f k op p q l p1 q1 l1).bind fun r => some (r.1, r.2.1, r.2.2.1, r.2.2.2)) (sumV op p q l p1 q1 l1) := fun op => Ev.bind (fboth_ev ip iq ip1 iq1 a1 a2 ht ht1) (Ev.const rfl)
    have le : ∀ op, (sumV op p q l p1 q1 l1).2.2.1.length ≤ 9223372036854775807 := fun op => Nat.le_trans sumV_len (by omega)
    refine Ev.pos rfl (Ev.bind (eJ ⟨#[43]⟩) (Ev.bind (eB ⟨#[43]⟩) (Ev.bind (eJ ⟨#[45]⟩) (Ev.bind (eB ⟨#[45]⟩) ?_))))
    refine Ev.bind (Val_ev ip iq (by omega) ht) (Ev.bind (RVal_ev ip iq (by omega) ht) (Ev.bind (same_refl (le _)) (Ev.bind (same_refl (le _)) (Ev.bind awake_ev ?_))))
    exact Ev.pos (by simp) (Ev.const rfl)
end Go.Proofs.YtilamkcpbibnmaaGreatDoor.P
