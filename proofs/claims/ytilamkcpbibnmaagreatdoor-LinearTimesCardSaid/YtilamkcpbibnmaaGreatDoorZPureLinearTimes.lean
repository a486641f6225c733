import Derived.Test.YtilamkcpbibnmaaGreatDoorZLinMul
import Derived.Test.YtilamkcpbibnmaaGreatDoorZPxfleuronref08Times
namespace Go.Proofs.YtilamkcpbibnmaaGreatDoor.P
open Go.RowKit Go.Proofs.YtilamkcpbibnmaaGreatDoorW.PrintWords Go.Proofs.YtilamkcpbibnmaaGreatDoorW.PrintLast Go.Proofs.YtilamkcpbibnmaaGreatDoorW.PrintMore
set_option linter.unusedVariables false
theorem LinearTimes_pure (p q : Int) (l : LT) (a b : Int) (name : ByteArray) (hp : (Lit.int .i64 p).wf = true) (hq : (Lit.int .i64 q).wf = true) (hl : l.length ≤ 9223372036854775807) (ht : ∀ t ∈ l, TOk t) (ha : (Lit.int .i64 a).wf = true) (hb : (Lit.int .i64 b).wf = true) (hn : name.size ≤ 140737488351232) : ∃ k, fleuronlaw08_LinearTimes.f k p q l a b name = some true := by
  have ip := I64_of hp
  have iq := I64_of hq
  have ia := I64_of ha
  have ib := I64_of hb
  refine Ev.here ?_
  unfold fleuronlaw08_LinearTimes.f
  refine Ev.bind (few_ev ⟨by simp, fun r hr => by simp only [List.mem_singleton] at hr; subst hr; exact ⟨hl, fun t h => (ht t h).2.2⟩⟩) ?_
  by_cases hc : (([(⟨⟨p, q⟩, l⟩ : S26)].all fun r => fewB r.f1) = true ∧ ¬ (name.size : Int) > 10000)
  rotate_left
  · exact Ev.neg hc awake_ev
  refine Ev.pos hc ?_
  have eT : ∀ op, Ev (fun k => (linear_each.f k op p q l a b).bind fun r => some (r.1, r.2.1, r.2.2.1, r.2.2.2)) (eachV op p q l a b) := fun op => Ev.bind (each_ev ip iq ia ib hl ht) (Ev.const rfl)
  have eR : ∀ op, Ev (fun k => (fleuronref08_each.f k op p q l a b).bind fun r => some (r.1, r.2.1, r.2.2.1, r.2.2.2)) (eachV op p q l a b) := fun op => Ev.bind (reach_ev ip iq ia ib hl ht) (Ev.const rfl)
  have lO : (eachV ⟨#[42]⟩ p q l a b).2.2.1.length ≤ 9223372036854775807 := Nat.le_trans eachV_len (by omega)
  have lD : (eachV ⟨#[47]⟩ p q l a b).2.2.1.length ≤ 9223372036854775807 := Nat.le_trans eachV_len (by omega)
  have of1 : Ev (fun k => linear_Of.f k a b) (if vB a b = true then (a, b, [], 0) else (0, 0, [], 2)) := by
    unfold linear_Of.f
    refine Ev.bind (Valid_ev ia ib) ?_
    cases vB a b with
    | true => exact Ev.pos rfl (Ev.const rfl)
    | false => exact Ev.neg (by decide) (Ev.const rfl)
  have of2 : Ev (fun k => fleuronref08_Of.f k a b) (if vB a b = true then (a, b, [], 0) else (0, 0, [], 2)) := by
    unfold fleuronref08_Of.f
    refine Ev.bind (RValid_ev ia ib) ?_
    cases vB a b with
    | true => exact Ev.pos rfl (Ev.const rfl)
    | false => exact Ev.neg (by decide) (Ev.const rfl)
  have v1 : linear_Var.f name = some (if namedB name = true then (0, 1, [⟨name, ⟨1, 1⟩⟩], 0) else (0, 0, [], 2)) := by
    unfold linear_Var.f
    rw [Named_eq hn, Option.bind_some]
    cases namedB name <;> rfl
  have v2 : Ev (fun k => fleuronref08_Var.f k name) (if namedB name = true then (0, 1, [⟨name, ⟨1, 1⟩⟩], 0) else (0, 0, [], 2)) := by
    unfold fleuronref08_Var.f
    refine Ev.bind (RName_ev hn) ?_
    cases namedB name with
    | true => exact Ev.pos rfl (Ev.const rfl)
    | false => exact Ev.neg (by decide) (Ev.const rfl)
  refine Ev.bind (eT ⟨#[42]⟩) (Ev.bind (eR ⟨#[42]⟩) (Ev.bind (eT ⟨#[47]⟩) (Ev.bind (eR ⟨#[47]⟩) (Ev.bind of1 (Ev.bind of2 (Ev.bind (Ev.const v1) (Ev.bind v2 ?_)))))))
  refine Ev.bind (same_refl lO) (Ev.bind (same_refl lD) (Ev.bind (same_refl (by split <;> simp)) (Ev.bind (same_refl (by split <;> simp)) (Ev.bind awake_ev ?_))))
  exact Ev.pos (by simp) (Ev.const rfl)
end Go.Proofs.YtilamkcpbibnmaaGreatDoor.P
