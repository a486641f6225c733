import Derived.Test.YtilamkcpbibnmaaGreatDoorZLin
import Derived.Test.YtilamkcpbibnmaaGreatDoorZPxfleuronref08Times
import Derived.Test.YtilamkcpbibnmaaGreatDoorZPxfleuronref08each
import Derived.Test.YtilamkcpbibnmaaGreatDoorZPxlinearOver
import Derived.Test.YtilamkcpbibnmaaGreatDoorZPxlineareach
namespace Go.Proofs.YtilamkcpbibnmaaGreatDoor.P
open Go.RowKit Go.Proofs.YtilamkcpbibnmaaGreatDoorW.PrintWords Go.Proofs.YtilamkcpbibnmaaGreatDoorW.PrintLast Go.Proofs.YtilamkcpbibnmaaGreatDoorW.PrintMore
set_option linter.unusedVariables false
def eachL (op : ByteArray) (a b : Int) : LT → LT → LT × Int
  | [], acc => (acc, 0)
  | t :: ts, acc => let c := doV op true t.f1.f0 t.f1.f1 a b; if c.2.2 = 0 then eachL op a b ts (if c.1 = 0 then acc else acc ++ [⟨t.f0, ⟨c.1, c.2.1⟩⟩]) else ([], c.2.2)
def endV (x y : Int) (r : LT × Int) : Int × Int × LT × Int := if r.2 = 0 then (x, y, r.1, 0) else (0, 0, [], r.2)
def eachV (op : ByteArray) (p q : Int) (l : LT) (a b : Int) : Int × Int × LT × Int :=
  if valB p q l = true ∧ vB a b = true then
    let c := doV op true p q a b
    if c.2.2 = 0 then endV c.1 c.2.1 (eachL op a b l []) else (0, 0, [], c.2.2)
  else (0, 0, [], 2)
section
variable {op : ByteArray} {p q a b : Int} {l : LT}
theorem each_loop (ia : I64 a) (ib : I64 b) (x y : Int) (hl : l.length ≤ 60) (ht : ∀ t ∈ l, TOk t) : ∀ m j acc, j + m = l.length → acc.length ≤ j →
    Ev (fun k => linear_each.l0 k op l (l.length : Int) (j : Int) a b x y acc) (endV x y (eachL op a b (l.drop j) acc))
  | 0, j, acc, h, ha => by
    refine Ev.succ ?_
    simp only [linear_each.l0]
    refine Ev.as ?_ (Ev.neg (by omega) (Ev.const rfl))
    rw [List.drop_eq_nil_of_le (by omega)]; simp [eachL, endV]
  | m + 1, j, acc, h, ha => by
    have hj : j < l.length := by omega
    obtain ⟨t1, t2, t3⟩ := ht l[j] (List.getElem_mem hj)
    refine Ev.succ ?_
    simp only [linear_each.l0]
    refine Ev.pos (by omega) (Ev.pos (by omega) (Ev.pos (by omega) ?_))
    rw [rdd hj, w64s hj (by omega), List.drop_eq_getElem_cons hj]
    refine Ev.bind (Near_near_ev (I64_of t1) (I64_of t2) ia ib) ?_
    simp only [eachL]
    by_cases hc : (doV op true l[j].f1.f0 l[j].f1.f1 a b).2.2 = 0
    · rw [if_pos hc]
      refine Ev.pos hc ?_
      by_cases h0 : (doV op true l[j].f1.f0 l[j].f1.f1 a b).1 = 0
      · rw [if_pos h0]; exact Ev.pos h0 (each_loop ia ib x y hl ht m (j + 1) acc (by omega) (by omega))
      · rw [if_neg h0]; exact Ev.neg h0 (Ev.pos (by omega) (each_loop ia ib x y hl ht m (j + 1) _ (by omega) (by simp; omega)))
    · rw [if_neg hc]; exact Ev.as (by simp [endV, hc]) (Ev.neg hc (Ev.const rfl))
theorem reach_loop (ia : I64 a) (ib : I64 b) (x y : Int) (hl : l.length ≤ 60) (ht : ∀ t ∈ l, TOk t) : ∀ m j acc, j + m = l.length → acc.length ≤ j →
    Ev (fun k => fleuronref08_each.l0 k op l (l.length : Int) (j : Int) a b x y acc) (endV x y (eachL op a b (l.drop j) acc))
  | 0, j, acc, h, ha => by
    refine Ev.succ ?_
    simp only [fleuronref08_each.l0]
    refine Ev.as ?_ (Ev.neg (by omega) (Ev.const rfl))
    rw [List.drop_eq_nil_of_le (by omega)]; simp [eachL, endV]
  | m + 1, j, acc, h, ha => by
    have hj : j < l.length := by omega
    obtain ⟨t1, t2, t3⟩ := ht l[j] (List.getElem_mem hj)
    refine Ev.succ ?_
    simp only [fleuronref08_each.l0]
    refine Ev.pos (by omega) (Ev.pos (by omega) (Ev.pos (by omega) ?_))
    rw [rdd hj, w64s hj (by omega), List.drop_eq_getElem_cons hj]
    refine Ev.bind (RNear_ev (I64_of t1) (I64_of t2) ia ib) ?_
    simp only [eachL]
    by_cases hc : (doV op true l[j].f1.f0 l[j].f1.f1 a b).2.2 = 0
    · rw [if_pos hc]
      refine Ev.pos hc ?_
      by_cases h0 : (doV op true l[j].f1.f0 l[j].f1.f1 a b).1 = 0
      · rw [if_pos h0]; exact Ev.pos h0 (reach_loop ia ib x y hl ht m (j + 1) acc (by omega) (by omega))
      · rw [if_neg h0]; exact Ev.neg h0 (Ev.pos (by omega) (reach_loop ia ib x y hl ht m (j + 1) _ (by omega) (by simp; omega)))
    · rw [if_neg hc]; exact Ev.as (by simp [endV, hc]) (Ev.neg hc (Ev.const rfl))
theorem each_ev (hp : I64 p) (hq : I64 q) (ia : I64 a) (ib : I64 b) (hl : l.length ≤ 9223372036854775807) (ht : ∀ t ∈ l, TOk t) : Ev (fun k => linear_each.f k op p q l a b) (eachV op p q l a b) := by
  unfold linear_each.f eachV
  refine Ev.bind (Val_ev hp hq hl ht) ?_
  cases hv : valB p q l with
  | false =>
    refine Ev.neg (by decide) (Ev.succ ?_)
    simp only [linear_each.j0]
    exact Ev.as (by simp) (Ev.pos trivial (Ev.const rfl))
  | true =>
    refine Ev.pos rfl (Ev.bind (Valid_ev ia ib) (Ev.succ ?_))
    simp only [linear_each.j0]
    cases hw : vB a b with
    | false => exact Ev.as (by simp) (Ev.pos (by decide) (Ev.const rfl))
    | true =>
      refine Ev.neg (by decide) (Ev.bind (Near_near_ev hp hq ia ib) ?_)
      rw [if_pos ⟨trivial, rfl⟩]
      by_cases hc : (doV op true p q a b).2.2 = 0
      · exact Ev.as (if_pos hc).symm (Ev.pos hc (each_loop ia ib _ _ (valB_len hv) ht l.length 0 [] (by omega) (by simp)))
      · exact Ev.as (if_neg hc).symm (Ev.neg hc (Ev.const rfl))
theorem reach_ev (hp : I64 p) (hq : I64 q) (ia : I64 a) (ib : I64 b) (hl : l.length ≤ 9223372036854775807) (ht : ∀ t ∈ l, TOk t) : Ev (fun k => fleuronref08_each.f k op p q l a b) (eachV op p q l a b) := by
  unfold fleuronref08_each.f eachV
  refine Ev.bind (RVal_ev hp hq hl ht) ?_
  cases hv : valB p q l with
  | false =>
    refine Ev.neg (by decide) (Ev.succ ?_)
    simp only [fleuronref08_each.j0]
    exact Ev.as (by simp) (Ev.pos trivial (Ev.const rfl))
  | true =>
    refine Ev.pos rfl (Ev.bind (RValid_ev ia ib) (Ev.succ ?_))
    simp only [fleuronref08_each.j0]
    cases hw : vB a b with
    | false => exact Ev.as (by simp) (Ev.pos (by decide) (Ev.const rfl))
    | true =>
      refine Ev.neg (by decide) (Ev.bind (RNear_ev hp hq ia ib) ?_)
      rw [if_pos ⟨trivial, rfl⟩]
      by_cases hc : (doV op true p q a b).2.2 = 0
      · exact Ev.as (if_pos hc).symm (Ev.pos hc (reach_loop ia ib _ _ (valB_len hv) ht l.length 0 [] (by omega) (by simp)))
      · exact Ev.as (if_neg hc).symm (Ev.neg hc (Ev.const rfl))
end
theorem eachL_len (op : ByteArray) (a b : Int) : ∀ (l acc : LT), (eachL op a b l acc).1.length ≤ l.length + acc.length
  | [], acc => by simp [eachL]
  | t :: ts, acc => by
    simp only [eachL]
    split
    · refine Nat.le_trans (eachL_len op a b ts _) ?_
      split <;> simp <;> omega
    · simp
theorem eachV_len {op : ByteArray} {p q a b : Int} {l : LT} : (eachV op p q l a b).2.2.1.length ≤ 60 := by
  unfold eachV
  split
  · rename_i h
    have hl := valB_len h.1
    have := eachL_len op a b l []
    dsimp only
    split
    · unfold endV
      split
      · show (eachL op a b l []).1.length ≤ 60
        simp at this; omega
      · simp
    · simp
  · simp
end Go.Proofs.YtilamkcpbibnmaaGreatDoor.P
