import Derived.Test.YtilamkcpbibnmaaGreatDoorZRes
import Derived.Test.YtilamkcpbibnmaaGreatDoorZBl
import Derived.Test.YtilamkcpbibnmaaGreatDoorZOpn
import Derived.Test.YtilamkcpbibnmaaGreatDoorZPxfleuronlaw08few
import Derived.Test.YtilamkcpbibnmaaGreatDoorZPxfleuronlaw08number
import Derived.Test.YtilamkcpbibnmaaGreatDoorZPxfleuronref08Same
import Derived.Test.YtilamkcpbibnmaaGreatDoorZPxfleuronref08Valid
import Derived.Test.YtilamkcpbibnmaaGreatDoorZPxlinearrising
namespace Go.Proofs.YtilamkcpbibnmaaGreatDoor.P
open Go.RowKit Go.Proofs.YtilamkcpbibnmaaGreatDoorW.PrintWords Go.Proofs.YtilamkcpbibnmaaGreatDoorW.PrintLast Go.Proofs.YtilamkcpbibnmaaGreatDoorW.PrintMore
set_option linter.unusedVariables false
abbrev LT := List S47
set_option maxRecDepth 100000 in
theorem awake_at : fleuronlaw08_awake.f 60 = some true := by kernel_rfl
theorem awake_ev : Ev (fun k => fleuronlaw08_awake.f k) true := by
  refine ⟨60, fun k hk => ?_⟩
  induction hk with
  | refl => exact awake_at
  | step _ ih => exact fleuronlaw08_awake.mono _ _ ih
theorem rdd {l : LT} {j : Nat} (h : j < l.length) : rd_T47 l (j : Int) = l[j] := by unfold rd_T47; rw [Int.toNat_natCast, List.getD_eq_getElem?_getD, List.getElem?_eq_getElem h]; rfl
theorem w64s {j n : Nat} (h : j < n) (hn : n ≤ 9223372036854775807) : wrap64 ((j : Int) + 1) = ((j + 1 : Nat) : Int) := by unfold wrap64; omega
theorem Ev.as {β : Type} {f : Nat → Option β} {a b : β} (e : a = b) (h : Ev f a) : Ev f b := e ▸ h
def fewB (l : LT) : Bool := decide (l.length ≤ 80) && decide ((l.map (fun t => t.f0.size)).sum ≤ 20000)
theorem fewB_le {l : LT} (h : fewB l = true) : l.length ≤ 80 := by unfold fewB at h; simp at h; exact h.1
theorem sum_le (l : LT) (h : ∀ t ∈ l, t.f0.size ≤ 140737488351232) : (l.map (fun t => t.f0.size)).sum ≤ l.length * 140737488351232 := by
  induction l with
  | nil => simp
  | cons t l ih =>
    have := ih (fun t ht => h t (List.mem_cons_of_mem _ ht))
    have h1 := h t List.mem_cons_self
    simp only [List.map_cons, List.sum_cons, List.length_cons]
    omega
theorem few_l1 {rows : List S26} {len i c0 c1 : Int} {l : LT} {R : Bool} (hl : l.length ≤ 9223372036854775807) (hs : ∀ t ∈ l, t.f0.size ≤ 140737488351232) (cont : Ev (fun k => fleuronlaw08_few.l0 k rows len (wrap64 (i + 1))) R) :
    ∀ m j, j + m = l.length → Ev (fun k => fleuronlaw08_few.l1 k (wrap64 ((((l.take j).map (fun t => t.f0.size)).sum : Nat) : Int)) rows len i l (l.length : Int) (j : Int) c0 c1 l) (fewB l && R)
  | 0, j, h => by
    refine Ev.succ ?_
    simp only [fleuronlaw08_few.l1]
    refine Ev.neg (by omega) ?_
    by_cases h1 : (l.length : Int) > 80
    · refine Ev.as ?_ (Ev.pos h1 (Ev.const rfl))
      unfold fewB; rw [decide_eq_false (show ¬ l.length ≤ 80 by omega)]; rfl
    refine Ev.neg h1 ?_
    have hsum := sum_le l hs
    rw [List.take_of_length_le (by omega)]
    have hw : wrap64 (((l.map (fun t => t.f0.size)).sum : Nat) : Int) = (((l.map (fun t => t.f0.size)).sum : Nat) : Int) := by
      have : l.length * 140737488351232 ≤ 80 * 140737488351232 := Nat.mul_le_mul_right _ (by omega)
      unfold wrap64; omega
    rw [hw]
    by_cases h2 : (((l.map (fun t => t.f0.size)).sum : Nat) : Int) > 20000
    · refine Ev.as ?_ (Ev.pos h2 (Ev.const rfl))
      unfold fewB; rw [decide_eq_false (show ¬ (l.map (fun t => t.f0.size)).sum ≤ 20000 by omega), Bool.and_false]; rfl
    · refine Ev.as ?_ (Ev.neg h2 cont)
      unfold fewB; rw [decide_eq_true (show l.length ≤ 80 by omega), decide_eq_true (show (l.map (fun t => t.f0.size)).sum ≤ 20000 by omega)]; rfl
  | m + 1, j, h => by
    have hj : j < l.length := by omega
    refine Ev.succ ?_
    simp only [fleuronlaw08_few.l1]
    refine Ev.pos (by omega) (Ev.pos (by omega) (Ev.pos (by omega) ?_))
    rw [rdd hj, w64s hj hl]
    have e : wrap64 (wrap64 ((((l.take j).map (fun t => t.f0.size)).sum : Nat) : Int) + (l[j].f0.size : Int)) = wrap64 ((((l.take (j + 1)).map (fun t => t.f0.size)).sum : Nat) : Int) := by
      rw [List.take_succ_eq_append_getElem hj, List.map_append, List.sum_append, List.map_singleton, List.sum_singleton]
      unfold wrap64; omega
    rw [e]
    exact few_l1 hl hs cont m (j + 1) (by omega)
def rowsOk (rows : List S26) : Prop := rows.length ≤ 100 ∧ ∀ r ∈ rows, r.f1.length ≤ 9223372036854775807 ∧ ∀ t ∈ r.f1, t.f0.size ≤ 140737488351232
theorem few_l0 {rows : List S26} (h : rowsOk rows) : ∀ m i, i + m = rows.length → Ev (fun k => fleuronlaw08_few.l0 k rows (rows.length : Int) (i : Int)) ((rows.drop i).all fun r => fewB r.f1)
  | 0, i, hi => by
    refine Ev.succ ?_
    simp only [fleuronlaw08_few.l0]
    refine Ev.as ?_ (Ev.neg (by omega) (Ev.const rfl))
    rw [List.drop_eq_nil_of_le (by omega)]; rfl
  | m + 1, i, hi => by
    have hlt : i < rows.length := by omega
    obtain ⟨hb, hr⟩ := h
    have hrd : rd_T26 rows (i : Int) = rows[i] := by unfold rd_T26; rw [Int.toNat_natCast, List.getD_eq_getElem?_getD, List.getElem?_eq_getElem hlt]; rfl
    obtain ⟨r1, r2⟩ := hr rows[i] (List.getElem_mem hlt)
    refine Ev.succ ?_
    simp only [fleuronlaw08_few.l0]
    refine Ev.pos (by omega) (Ev.pos (by omega) (Ev.pos (by omega) ?_))
    rw [hrd, List.drop_eq_getElem_cons hlt, List.all_cons]
    have c := few_l0 ⟨hb, hr⟩ m (i + 1) (by omega)
    rw [← w64s hlt (by omega)] at c
    have := few_l1 (c0 := rows[i].f0.f0) (c1 := rows[i].f0.f1) r1 r2 c rows[i].f1.length 0 (by omega)
    rw [show wrap64 ((((rows[i].f1.take 0).map (fun t => t.f0.size)).sum : Nat) : Int) = 0 by simp [wrap64]] at this
    exact this
theorem few_ev {rows : List S26} (h : rowsOk rows) : Ev (fun k => fleuronlaw08_few.f k rows) (rows.all fun r => fewB r.f1) := few_l0 h rows.length 0 (by omega)
theorem name_loop (s : ByteArray) (hs : s.size ≤ 140737488351232) : ∀ m j, j + m = s.size → Ev (fun k => fleuronref08_Name.l0 k s (j : Int)) ((s.data.toList.drop j).all okB && decide (1 ≤ s.size) && decide (s.size ≤ 200))
  | 0, j, h => by
    refine Ev.succ ?_
    simp only [fleuronref08_Name.l0]
    refine Ev.neg (by omega) ?_
    have hl : s.data.toList.length = s.size := Array.length_toList
    rw [List.drop_eq_nil_of_le (by omega)]
    by_cases h1 : (s.size : Int) ≥ 1
    · refine Ev.as ?_ (Ev.pos h1 (Ev.const rfl))
      rw [decide_eq_true (show 1 ≤ s.size by omega)]
      exact decide_eq_decide.mpr (by omega)
    · refine Ev.as ?_ (Ev.neg h1 (Ev.const rfl))
      rw [decide_eq_false (show ¬ 1 ≤ s.size by omega)]; rfl
  | m + 1, j, h => by
    have hl : s.data.toList.length = s.size := Array.length_toList
    have hj : j < s.data.toList.length := by omega
    refine Ev.succ ?_
    simp only [fleuronref08_Name.l0]
    refine Ev.pos (by omega) (Ev.pos (by omega) ?_)
    have hb : bt s (j : Int) = ((s.data.toList[j]).toNat : Int) := by
      unfold bt; rw [dif_pos (by simpa using (by omega : j < s.size))]; rfl
    rw [hb, List.drop_eq_getElem_cons hj, List.all_cons]
    by_cases h1 : ((s.data.toList[j]).toNat : Int) < 33
    · refine Ev.as ?_ (Ev.pos h1 (Ev.const rfl))
      unfold okB; rw [decide_eq_true h1]; rfl
    refine Ev.neg h1 ?_
    by_cases h2 : ((s.data.toList[j]).toNat : Int) > 126
    · refine Ev.as ?_ (Ev.pos h2 (Ev.const rfl))
      unfold okB; rw [decide_eq_true h2, Bool.not_true, Bool.and_false]; rfl
    refine Ev.neg h2 ?_
    have e : okB s.data.toList[j] = true := by unfold okB; rw [decide_eq_false h1, decide_eq_false h2]; rfl
    rw [e, Bool.true_and, show wrap64 ((j : Int) + 1) = ((j + 1 : Nat) : Int) by unfold wrap64; omega]
    exact name_loop s hs m (j + 1) (by omega)
theorem RName_ev {s : ByteArray} (hs : s.size ≤ 140737488351232) : Ev (fun k => fleuronref08_Name.f k s) (namedB s) := name_loop s hs s.size 0 (by omega)
theorem Named_eq {s : ByteArray} (hs : s.size ≤ 140737488351232) : linear_Named.f s = some (namedB s) := if_pos hs
def tB (zero : Bool) (t : S47) : Bool := namedB t.f0 && vB t.f1.f0 t.f1.f1 && (zero || !(t.f1.f0 == 0))
def preB : Option (List UInt8) → List UInt8 → Bool
  | none, _ => true
  | some x, y => bl x y
def risP (zero : Bool) : Option (List UInt8) → LT → Bool
  | _, [] => true
  | p, t :: ts => tB zero t && preB p t.f0.toList && risP zero (some t.f0.toList) ts
def prevN (l : LT) : Nat → Option (List UInt8)
  | 0 => none
  | j + 1 => some (l.getD j z47).f0.toList
theorem risP_and (p : Option (List UInt8)) : ∀ l : LT, (risP true p l && !(l.any fun t => t.f1.f0 == 0)) = risP false p l
  | [] => rfl
  | t :: ts => by
    have ih := risP_and (some t.f0.toList) ts
    simp only [risP, tB, List.any_cons, Bool.not_or, Bool.true_or, Bool.false_or, Bool.and_true]
    rw [← ih]
    cases namedB t.f0 <;> cases vB t.f1.f0 t.f1.f1 <;> cases preB p t.f0.toList <;> cases risP true (some t.f0.toList) ts <;> cases (t.f1.f0 == 0) <;> simp
theorem getd {l : LT} {j : Nat} (h : j < l.length) : l.getD j z47 = l[j] := by rw [List.getD_eq_getElem?_getD, List.getElem?_eq_getElem h]; rfl
theorem ris_loop {l : LT} (hl : l.length ≤ 9223372036854775807) (ht : ∀ t ∈ l, TOk t) : ∀ m j, j + m = l.length → Ev (fun k => linear_rising.l0 k l l (l.length : Int) (j : Int)) (risP true (prevN l j) (l.drop j) && decide (l.length ≤ 60))
  | 0, j, h => by
    refine Ev.succ ?_
    simp only [linear_rising.l0]
    refine Ev.as ?_ (Ev.neg (by omega) (Ev.const rfl))
    rw [List.drop_eq_nil_of_le (by omega)]
    exact decide_eq_decide.mpr (by omega)
  | m + 1, j, h => by
    have hj : j < l.length := by omega
    obtain ⟨t1, t2, t3⟩ := ht l[j] (List.getElem_mem hj)
    have v := Valid_ev (I64_of t1) (I64_of t2)
    have ih := ris_loop hl ht m (j + 1) (by omega)
    refine Ev.succ ?_
    simp only [linear_rising.l0]
    refine Ev.pos (by omega) (Ev.pos (by omega) (Ev.pos (by omega) ?_))
    rw [rdd hj, Named_eq t3, w64s hj hl, List.drop_eq_getElem_cons hj]
    have ep : prevN l (j + 1) = some l[j].f0.toList := by show some (l.getD j _).f0.toList = _; rw [getd hj]
    rw [ep] at ih
    refine Ev.bind (Ev.const rfl) ?_
    cases hn : namedB l[j].f0 with
    | false =>
      refine Ev.as ?_ (Ev.neg (by decide) (Ev.const rfl))
      simp [risP, tB, hn]
    | true =>
      refine Ev.pos rfl ?_
      have fin : preB (prevN l j) l[j].f0.toList = true → Ev (fun k => (num_Valid.f k l[j].f1.f0 l[j].f1.f1).bind fun t => if t = true then linear_rising.l0 k l l (l.length : Int) ((j + 1 : Nat) : Int) else some false) (risP true (prevN l j) (l[j] :: l.drop (j + 1)) && decide (l.length ≤ 60)) := by
        intro hp
        refine Ev.bind v ?_
        cases hv : vB l[j].f1.f0 l[j].f1.f1 with
        | false => refine Ev.as ?_ (Ev.neg (by decide) (Ev.const rfl)); simp [risP, tB, hv]
        | true =>
          refine Ev.as ?_ (Ev.pos rfl ih)
          simp only [risP, tB, hn, hv, hp, Bool.true_or, Bool.true_and]
      cases j with
      | zero => exact Ev.neg (by omega) (fin rfl)
      | succ i =>
        refine Ev.pos (by omega) ?_
        have hi : i < l.length := by omega
        rw [show wrap64 (((i + 1 : Nat) : Int) - 1) = (i : Int) by unfold wrap64; omega, rdd hi]
        refine Ev.pos (by omega) (Ev.pos (by omega) ?_)
        have epi : prevN l (i + 1) = some l[i].f0.toList := by show some (l.getD i _).f0.toList = _; rw [getd hi]
        by_cases hlt : Op.bytesLess l[i].f0.toList l[i + 1].f0.toList = true
        · exact Ev.pos hlt (fin (by rw [epi]; exact hlt))
        · refine Ev.as ?_ (Ev.neg hlt (Ev.const rfl))
          have : preB (prevN l (i + 1)) l[i + 1].f0.toList = false := by rw [epi]; simpa [preB, bl] using hlt
          simp [risP, this]
theorem rising_ev {l : LT} (hl : l.length ≤ 9223372036854775807) (ht : ∀ t ∈ l, TOk t) : Ev (fun k => linear_rising.f k l) (risP true none l && decide (l.length ≤ 60)) := ris_loop hl ht l.length 0 (by omega)
theorem trm_loop {l : LT} (z : Bool) (hl : l.length ≤ 9223372036854775807) (ht : ∀ t ∈ l, TOk t) : ∀ m j, j + m = l.length → Ev (fun k => fleuronref08_terms.l0 k l z l (l.length : Int) (j : Int)) (risP z (prevN l j) (l.drop j))
  | 0, j, h => by
    refine Ev.succ ?_
    simp only [fleuronref08_terms.l0]
    refine Ev.as ?_ (Ev.neg (by omega) (Ev.const rfl))
    rw [List.drop_eq_nil_of_le (by omega)]; rfl
  | m + 1, j, h => by
    have hj : j < l.length := by omega
    obtain ⟨t1, t2, t3⟩ := ht l[j] (List.getElem_mem hj)
    have v := RValid_ev (I64_of t1) (I64_of t2)
    have ih := trm_loop z hl ht m (j + 1) (by omega)
    refine Ev.succ ?_
    simp only [fleuronref08_terms.l0]
    refine Ev.pos (by omega) (Ev.pos (by omega) (Ev.pos (by omega) ?_))
    rw [rdd hj, w64s hj hl, List.drop_eq_getElem_cons hj]
    have ep : prevN l (j + 1) = some l[j].f0.toList := by show some (l.getD j _).f0.toList = _; rw [getd hj]
    rw [ep] at ih
    refine Ev.bind (RName_ev t3) ?_
    cases hn : namedB l[j].f0 with
    | false => refine Ev.as ?_ (Ev.neg (by decide) (Ev.const rfl)); simp [risP, tB, hn]
    | true =>
      refine Ev.pos rfl (Ev.bind v ?_)
      cases hv : vB l[j].f1.f0 l[j].f1.f1 with
      | false => refine Ev.as ?_ (Ev.neg (by decide) (Ev.const rfl)); simp [risP, tB, hv]
      | true =>
        refine Ev.pos rfl ?_
        have fin : (z || !(l[j].f1.f0 == 0)) = true → Ev (fun k => if (j : Int) > 0 then if 0 ≤ wrap64 ((j : Int) - 1) then if wrap64 ((j : Int) - 1) < (l.length : Int) then if Op.bytesLess (rd_T47 l (wrap64 ((j : Int) - 1))).f0.toList l[j].f0.toList = true then fleuronref08_terms.l0 k l z l (l.length : Int) ((j + 1 : Nat) : Int) else some false else none else none else fleuronref08_terms.l0 k l z l (l.length : Int) ((j + 1 : Nat) : Int)) (risP z (prevN l j) (l[j] :: l.drop (j + 1))) := by
          intro hz
          cases j with
          | zero =>
            refine Ev.as ?_ (Ev.neg (by omega) ih)
            simp only [risP, tB, hn, hv, hz, prevN, preB, Bool.true_and]
          | succ i =>
            refine Ev.pos (by omega) ?_
            have hi : i < l.length := by omega
            rw [show wrap64 (((i + 1 : Nat) : Int) - 1) = (i : Int) by unfold wrap64; omega, rdd hi]
            refine Ev.pos (by omega) (Ev.pos (by omega) ?_)
            have epi : prevN l (i + 1) = some l[i].f0.toList := by show some (l.getD i _).f0.toList = _; rw [getd hi]
            by_cases hlt : Op.bytesLess l[i].f0.toList l[i + 1].f0.toList = true
            · refine Ev.as ?_ (Ev.pos hlt ih)
              have : preB (prevN l (i + 1)) l[i + 1].f0.toList = true := by rw [epi]; exact hlt
              simp only [risP, tB, hn, hv, hz, this, Bool.true_and]
            · refine Ev.as ?_ (Ev.neg hlt (Ev.const rfl))
              have : preB (prevN l (i + 1)) l[i + 1].f0.toList = false := by rw [epi]; simpa [preB, bl] using hlt
              simp [risP, this]
        by_cases h0 : l[j].f1.f0 = 0
        · refine Ev.pos h0 ?_
          cases hz : z with
          | true => refine Ev.pos rfl ?_; subst hz; exact fin (by simp)
          | false => refine Ev.as ?_ (Ev.neg (by decide) (Ev.const rfl)); simp [risP, tB, h0]
        · exact Ev.neg h0 (fin (by simp [h0]))
theorem terms_ev {l : LT} (z : Bool) (hl : l.length ≤ 9223372036854775807) (ht : ∀ t ∈ l, TOk t) : Ev (fun k => fleuronref08_terms.f k l z) (risP z none l && decide (l.length ≤ 60)) := by
  unfold fleuronref08_terms.f
  by_cases h : (l.length : Int) > 60
  · refine Ev.as ?_ (Ev.pos h (Ev.const rfl))
    rw [decide_eq_false (show ¬ l.length ≤ 60 by omega), Bool.and_false]
  · refine Ev.as ?_ (Ev.neg h (trm_loop z hl ht l.length 0 (by omega)))
    rw [decide_eq_true (show l.length ≤ 60 by omega), Bool.and_true]; rfl
theorem idx_loop {l : LT} (hl : l.length ≤ 9223372036854775807) : ∀ m j, j + m = l.length → ∃ r : Int, Ev (fun k => slices_IndexFunc_at_47.l0 k l (l.length : Int) (j : Int)) r ∧ (decide (r ≥ 0)) = (l.drop j).any fun t => t.f1.f0 == 0
  | 0, j, h => by
    refine ⟨-1, Ev.succ ?_, ?_⟩
    · simp only [slices_IndexFunc_at_47.l0]
      exact Ev.neg (by omega) (Ev.const rfl)
    · rw [List.drop_eq_nil_of_le (by omega)]; rfl
  | m + 1, j, h => by
    have hj : j < l.length := by omega
    obtain ⟨r, h1, h2⟩ := idx_loop hl m (j + 1) (by omega)
    rw [List.drop_eq_getElem_cons hj, List.any_cons]
    cases h0 : (l[j].f1.f0 == 0) with
    | true =>
      refine ⟨(j : Int), Ev.succ ?_, by simp⟩
      simp only [slices_IndexFunc_at_47.l0]
      refine Ev.pos (by omega) (Ev.pos (by omega) (Ev.pos (by omega) ?_))
      rw [rdd hj]
      exact Ev.bind (Ev.const rfl) (Ev.pos h0 (Ev.const rfl))
    | false =>
      refine ⟨r, Ev.succ ?_, by rw [h2]; rfl⟩
      simp only [slices_IndexFunc_at_47.l0]
      refine Ev.pos (by omega) (Ev.pos (by omega) (Ev.pos (by omega) ?_))
      rw [rdd hj, w64s hj hl]
      exact Ev.bind (Ev.const rfl) (Ev.neg (by rw [h0]; decide) h1)
def valB (p q : Int) (l : LT) : Bool := vB p q && (risP false none l && decide (l.length ≤ 60))
theorem Val_ev {p q : Int} {l : LT} (hp : I64 p) (hq : I64 q) (hl : l.length ≤ 9223372036854775807) (ht : ∀ t ∈ l, TOk t) : Ev (fun k => linear_Valid.f k p q l) (valB p q l) := by
  unfold linear_Valid.f valB
  refine Ev.bind (Valid_ev hp hq) ?_
  cases vB p q with
  | false => exact Ev.neg (by decide) (Ev.const rfl)
  | true =>
    refine Ev.pos rfl (Ev.bind (rising_ev hl ht) ?_)
    rw [← risP_and]
    obtain ⟨r, h1, h2⟩ := idx_loop hl l.length 0 (by omega)
    rw [List.drop_zero] at h2
    cases hr : (risP true none l && decide (l.length ≤ 60)) with
    | false =>
      refine Ev.as ?_ (Ev.neg (by decide) (Ev.const rfl))
      cases h : risP true none l <;> rw [h] at hr <;> simp at hr <;> simp [hr]
    | true =>
      simp only [Bool.and_eq_true] at hr
      refine Ev.pos rfl ?_
      unfold slices_ContainsFunc_at_47.f
      refine Ev.as ?_ (Ev.bind (Ev.bind h1 (Ev.const rfl)) (Ev.const rfl))
      rw [h2, hr.1, hr.2]; simp
theorem RVal_ev {p q : Int} {l : LT} (hp : I64 p) (hq : I64 q) (hl : l.length ≤ 9223372036854775807) (ht : ∀ t ∈ l, TOk t) : Ev (fun k => fleuronref08_Valid.f k p q l) (valB p q l) := by
  unfold fleuronref08_Valid.f valB
  refine Ev.bind (RValid_ev hp hq) ?_
  cases vB p q with
  | false => exact Ev.neg (by decide) (Ev.const rfl)
  | true => exact Ev.as (by simp) (Ev.pos rfl (Ev.bind (terms_ev false hl ht) (Ev.const rfl)))
theorem valB_len {p q : Int} {l : LT} (h : valB p q l = true) : l.length ≤ 60 := by unfold valB at h; simp at h; exact h.2.2
theorem same_loop {p q : Int} {l : LT} (hl : l.length ≤ 9223372036854775807) : ∀ m j, j + m = l.length → Ev (fun k => fleuronref08_Same.l0 k (l.length : Int) (j : Int) p q l p q l) true
  | 0, j, h => by
    refine Ev.succ ?_
    simp only [fleuronref08_Same.l0]
    exact Ev.neg (by omega) (Ev.const rfl)
  | m + 1, j, h => by
    have hj : j < l.length := by omega
    refine Ev.succ ?_
    simp only [fleuronref08_Same.l0]
    refine Ev.pos (by omega) (Ev.pos (by omega) (Ev.pos (by omega) (Ev.pos (by omega) ?_)))
    rw [w64s hj hl]
    exact Ev.neg (by simp) (same_loop hl m (j + 1) (by omega))
theorem same_refl {p q : Int} {l : LT} (hl : l.length ≤ 9223372036854775807) : Ev (fun k => fleuronref08_Same.f k p q l p q l) true := by
  unfold fleuronref08_Same.f
  refine Ev.neg (by simp) (Ev.succ ?_)
  simp only [fleuronref08_Same.j0]
  exact Ev.neg (by simp) (same_loop hl l.length 0 (by omega))
end Go.Proofs.YtilamkcpbibnmaaGreatDoor.P
