import Derived.Test.YtilamkcpbibnmaaGreatDoorZLin
import Derived.Test.YtilamkcpbibnmaaGreatDoorZPxfleuronref08At
import Derived.Test.YtilamkcpbibnmaaGreatDoorZPxlinearOver
namespace Go.Proofs.YtilamkcpbibnmaaGreatDoor.P
open Go.RowKit Go.Proofs.YtilamkcpbibnmaaGreatDoorW.PrintWords Go.Proofs.YtilamkcpbibnmaaGreatDoorW.PrintLast Go.Proofs.YtilamkcpbibnmaaGreatDoorW.PrintMore
set_option linter.unusedVariables false
theorem tld (s : ByteArray) : s.toList = s.data.toList := ByteArray.toList_eq s
theorem ris_lt {z : Bool} : ∀ (l : LT) (p : Option (List UInt8)), risP z p l = true → (∀ x, p = some x → ∀ t ∈ l, bl x t.f0.toList = true) ∧ ∀ i j (hi : i < l.length) (hj : j < l.length), i < j → bl l[i].f0.toList l[j].f0.toList = true
  | [], p, _ => ⟨fun _ _ t ht => (by cases ht), fun i j hi => absurd hi (by simp)⟩
  | t :: ts, p, h => by
    simp only [risP, Bool.and_eq_true] at h
    obtain ⟨⟨h1, h2⟩, h3⟩ := h
    obtain ⟨i1, i2⟩ := ris_lt ts _ h3
    have i1 := i1 _ rfl
    refine ⟨fun x hp u hu => ?_, fun i j hi hj hij => ?_⟩
    · subst hp
      rcases List.mem_cons.mp hu with rfl | hu
      · exact h2
      · exact bl_trans h2 (i1 u hu)
    · cases j with
      | zero => omega
      | succ j =>
        cases i with
        | zero => exact i1 _ (List.getElem_mem _)
        | succ i => exact i2 i j (by simpa using hi) (by simpa using hj) (by omega)
def hasB (n : ByteArray) (l : LT) : Bool := l.any fun x => x.f0.toList == n.toList
def findT (n : ByteArray) (l : LT) : S47 := (l.find? fun x => x.f0.toList == n.toList).getD ⟨⟨#[]⟩, ⟨0, 1⟩⟩
theorem find_at {l : LT} {n : ByteArray} {i : Nat} (hi : i < l.length) (he : l[i].f0.toList = n.toList) (hlt : ∀ j (hj : j < l.length), j < i → l[j].f0.toList ≠ n.toList) : findT n l = l[i] ∧ hasB n l = true := by
  refine ⟨?_, ?_⟩
  · unfold findT
    have : l.find? (fun x => x.f0.toList == n.toList) = some l[i] := by
      rw [List.find?_eq_some_iff_getElem]
      exact ⟨by simpa using he, i, hi, rfl, fun j hj => by simpa using hlt j (by omega) hj⟩
    rw [this]; rfl
  · unfold hasB
    rw [List.any_eq_true]
    exact ⟨l[i], List.getElem_mem hi, by simpa using he⟩
section
variable {l : LT} {n : ByteArray}
end
section
variable {l1 : LT}
theorem coef_loop {n : ByteArray} (hl : l1.length ≤ 60) : ∀ m j, j + m = l1.length → (∀ x (hx : x < l1.length), x < j → l1[x].f0.toList ≠ n.toList) → Ev (fun k => fleuronref08_coef.l0 k n l1 (l1.length : Int) (j : Int)) ((findT n l1).f1.f0, (findT n l1).f1.f1)
  | 0, j, h, hn => by
    refine Ev.succ ?_
    simp only [fleuronref08_coef.l0]
    refine Ev.as ?_ (Ev.neg (by omega) (Ev.const rfl))
    have : l1.find? (fun x => x.f0.toList == n.toList) = none := by
      rw [List.find?_eq_none]
      intro t ht
      obtain ⟨x, hx, rfl⟩ := List.getElem_of_mem ht
      simpa using hn x hx (by omega)
    unfold findT; rw [this]; rfl
  | m + 1, j, h, hn => by
    have hj : j < l1.length := by omega
    refine Ev.succ ?_
    simp only [fleuronref08_coef.l0]
    refine Ev.pos (by omega) (Ev.pos (by omega) (Ev.pos (by omega) ?_))
    rw [rdd hj, w64s hj (by omega)]
    by_cases he : l1[j].f0.toList = n.toList
    · exact Ev.as (by rw [(find_at hj he hn).1]) (Ev.pos he (Ev.const rfl))
    · refine Ev.neg he (coef_loop hl m (j + 1) (by omega) (fun x hx hxj => ?_))
      rcases Nat.lt_or_ge x j with h | h
      · exact hn x hx h
      · have : x = j := by omega
        subst this; exact he
theorem coef_ev {n : ByteArray} (hl : l1.length ≤ 60) : Ev (fun k => fleuronref08_coef.f k l1 n) ((findT n l1).f1.f0, (findT n l1).f1.f1) := coef_loop hl l1.length 0 (by omega) (fun x hx h => by omega)
end
section
variable {p q : Int} {l l1 : LT}
end
end Go.Proofs.YtilamkcpbibnmaaGreatDoor.P
