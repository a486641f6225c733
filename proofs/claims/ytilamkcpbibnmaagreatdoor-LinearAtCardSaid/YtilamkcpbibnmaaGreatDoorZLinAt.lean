import Derived.Test.YtilamkcpbibnmaaGreatDoorZLin
import Derived.Test.YtilamkcpbibnmaaGreatDoorZPxfleuronref08At
import Derived.Test.YtilamkcpbibnmaaGreatDoorZPxlinearOver
namespace Go.Proofs.YtilamkcpbibnmaaGreatDoor.P
open Go.RowKit Go.Proofs.YtilamkcpbibnmaaGreatDoorW.PrintWords Go.Proofs.YtilamkcpbibnmaaGreatDoorW.PrintLast Go.Proofs.YtilamkcpbibnmaaGreatDoorW.PrintMore
set_option linter.unusedVariables false
theorem tld (s : ByteArray) : s.toList = s.data.toList := ByteArray.toList_eq s
theorem cmp_lt : ∀ x y : List UInt8, (Lib.compareBytes x y < 0) ↔ bl x y = true
  | [], [] => by simp [Lib.compareBytes, bl, Op.bytesLess]
  | [], _ :: _ => by simp [Lib.compareBytes, bl, Op.bytesLess]
  | _ :: _, [] => by simp [Lib.compareBytes, bl, Op.bytesLess]
  | a :: x, b :: y => by
    have ih := cmp_lt x y
    simp only [Lib.compareBytes, bl, Op.bytesLess] at *
    by_cases h : a < b
    · simp [h]
    · by_cases h2 : b < a
      · have : (a == b) = false := by simp; rintro rfl; exact UInt8.lt_irrefl _ h2
        simp [h, h2, this]
      · have e : a = b := UInt8.le_antisymm (UInt8.not_lt.1 h2) (UInt8.not_lt.1 h)
        subst e
        simp [h, ih]
theorem cmp_eq : ∀ x y : List UInt8, (Lib.compareBytes x y = 0) ↔ x = y
  | [], [] => by simp [Lib.compareBytes]
  | [], _ :: _ => by simp [Lib.compareBytes]
  | _ :: _, [] => by simp [Lib.compareBytes]
  | a :: x, b :: y => by
    have ih := cmp_eq x y
    simp only [Lib.compareBytes]
    by_cases h : a < b
    · simp only [if_pos h]
      constructor
      · intro e; omega
      · intro e; cases e; exact absurd h (UInt8.lt_irrefl _)
    · by_cases h2 : b < a
      · simp only [if_neg h, if_pos h2]
        constructor
        · intro e; omega
        · intro e; cases e; exact absurd h2 (UInt8.lt_irrefl _)
      · have e : a = b := UInt8.le_antisymm (UInt8.not_lt.1 h2) (UInt8.not_lt.1 h)
        subst e
        simp only [if_neg h]; rw [ih]; simp
theorem ris_lt {z : Bool} : ∀ (l : LT) (p : Option (List UInt8)), risP z p l = true → (∀ x, p = some x → ∀ t ∈ l, bl x t.f0.toList = true) ∧ ∀ i j (hi : i < l.length) (hj : j < l.length), i < j → bl l[i].f0.toList l[j].f0.toList = true
  | [], p, _ => ⟨fun _ _ t ht => (by cases ht), fun i j hi => absurd hi (by simp)⟩
  | t :: ts, p, h => by
    simp only [risP, Bool.and_eq_true] at h
    obtain ⟨⟨h1, h2⟩, h3⟩ := h
    obtain ⟨i1, i2⟩ := ris_lt ts _ h3
    have i1 := i1 _ rfl
    refine ⟨fun x hp u hu => ?_, fun i j hi hj hij => ?_⟩
    · subst hp
      rcases List.mem_cons.mp hu with rfl | hu
      · exact h2
      · exact bl_trans h2 (i1 u hu)
    · cases j with
      | zero => omega
      | succ j =>
        cases i with
        | zero => exact i1 _ (List.getElem_mem _)
        | succ i => exact i2 i j (by simpa using hi) (by simpa using hj) (by omega)
def hasB (n : ByteArray) (l : LT) : Bool := l.any fun x => x.f0.toList == n.toList
def findT (n : ByteArray) (l : LT) : S47 := (l.find? fun x => x.f0.toList == n.toList).getD ⟨⟨#[]⟩, ⟨0, 1⟩⟩
theorem find_at {l : LT} {n : ByteArray} {i : Nat} (hi : i < l.length) (he : l[i].f0.toList = n.toList) (hlt : ∀ j (hj : j < l.length), j < i → l[j].f0.toList ≠ n.toList) : findT n l = l[i] ∧ hasB n l = true := by
  refine ⟨?_, ?_⟩
  · unfold findT
    have : l.find? (fun x => x.f0.toList == n.toList) = some l[i] := by
      rw [List.find?_eq_some_iff_getElem]
      exact ⟨by simpa using he, i, hi, rfl, fun j hj => by simpa using hlt j (by omega) hj⟩
    rw [this]; rfl
  · unfold hasB
    rw [List.any_eq_true]
    exact ⟨l[i], List.getElem_mem hi, by simpa using he⟩
section
variable {l : LT} {n : ByteArray}
theorem bs_loop (hl : l.length ≤ 60) (hr : ∀ i j (hi : i < l.length) (hj : j < l.length), i < j → bl l[i].f0.toList l[j].f0.toList = true) : ∀ d i j, j - i ≤ d → i ≤ j → j ≤ l.length → (∀ x (hx : x < l.length), x < i → bl l[x].f0.toList n.toList = true) → (∀ x (hx : x < l.length), j ≤ x → bl l[x].f0.toList n.toList = false) →
    ∃ m : Nat, ∃ b : Bool, Ev (fun k => slices_BinarySearchFunc_at_54.l0 k l n (l.length : Int) (i : Int) (j : Int)) ((m : Int), b) ∧ m ≤ l.length ∧ b = hasB n l ∧ (b = true → ∃ h : m < l.length, findT n l = l[m])
  | d, i, j, hd, hij, hj, h1, h2 => by
    by_cases hlt : i < j
    · obtain ⟨h, hh⟩ : ∃ h, h = (i + j) / 2 := ⟨_, rfl⟩
      have e : wrap64 ((IntKind.u64.wrap (wrap64 ((i : Int) + (j : Int)))) / 2) = (h : Int) := by
        rw [w64_id (x := (i : Int) + j) (by omega) (by omega), u64_id (by omega) (by omega)]; unfold wrap64; omega
      have hhl : h < l.length := by omega
      have hc : linear_At_1.f l[h].f0 l[h].f1.f0 l[h].f1.f1 n = some (Lib.compareBytes l[h].f0.data.toList n.data.toList) := rfl
      have key : ∀ i' j', j' - i' < d → i' ≤ j' → j' ≤ l.length → (∀ x (hx : x < l.length), x < i' → bl l[x].f0.toList n.toList = true) → (∀ x (hx : x < l.length), j' ≤ x → bl l[x].f0.toList n.toList = false) → _ := fun i' j' a1 a2 a3 a4 a5 => bs_loop hl hr (d - 1) i' j' (by omega) a2 a3 a4 a5
      by_cases hb : bl l[h].f0.toList n.toList = true
      · obtain ⟨m, b, g1, g2⟩ := key (h + 1) j (by omega) (by omega) hj (fun x hx hxh => by
            rcases Nat.lt_or_ge x h with hx' | hx'
            · exact bl_trans (hr x h hx hhl hx') hb
            · have : x = h := by omega
              subst this; exact hb) h2
        refine ⟨m, b, Ev.succ ?_, g2⟩
        simp only [slices_BinarySearchFunc_at_54.l0]
        refine Ev.pos (by omega) ?_
        rw [e, rdd hhl]
        refine Ev.pos (by omega) (Ev.pos (by omega) (Ev.bind (Ev.const hc) ?_))
        rw [tld, tld] at hb
        refine Ev.pos ((cmp_lt _ _).mpr hb) ?_
        rw [show wrap64 ((h : Int) + 1) = ((h + 1 : Nat) : Int) by unfold wrap64; omega]
        exact g1
      · obtain ⟨m, b, g1, g2⟩ := key i h (by omega) (by omega) (by omega) h1 (fun x hx hxh => by
            rcases Nat.lt_or_ge h x with hx' | hx'
            · cases hq : bl l[x].f0.toList n.toList with
              | false => rfl
              | true => exact absurd (bl_trans (hr h x hhl hx hx') hq) hb
            · have : x = h := by omega
              subst this; simpa using hb)
        refine ⟨m, b, Ev.succ ?_, g2⟩
        simp only [slices_BinarySearchFunc_at_54.l0]
        refine Ev.pos (by omega) ?_
        rw [e, rdd hhl]
        refine Ev.pos (by omega) (Ev.pos (by omega) (Ev.bind (Ev.const hc) ?_))
        rw [tld, tld] at hb
        exact Ev.neg (fun x => hb ((cmp_lt _ _).mp x)) g1
    · have eij : i = j := by omega
      subst eij
      by_cases hil : i < l.length
      · have hc : linear_At_1.f l[i].f0 l[i].f1.f0 l[i].f1.f1 n = some (Lib.compareBytes l[i].f0.data.toList n.data.toList) := rfl
        refine ⟨i, (Lib.compareBytes l[i].f0.data.toList n.data.toList == 0), Ev.succ ?_, hj, ?_, ?_⟩
        · simp only [slices_BinarySearchFunc_at_54.l0]
          refine Ev.neg (by omega) (Ev.pos (by omega) (Ev.pos (by omega) (Ev.pos (by omega) ?_)))
          rw [rdd hil]
          exact Ev.bind (Ev.const hc) (Ev.const rfl)
        · by_cases he : l[i].f0.toList = n.toList
          · rw [(find_at hil he (fun j hj hji => bl_ne (h1 j hj hji))).2]
            rw [tld, tld] at he
            simpa using (cmp_eq _ _).mpr he
          · have hn : hasB n l = false := by
              unfold hasB
              rw [List.any_eq_false]
              intro t ht
              obtain ⟨x, hx, rfl⟩ := List.getElem_of_mem ht
              simp only [beq_iff_eq]
              rcases Nat.lt_trichotomy x i with h | h | h
              · exact bl_ne (h1 x hx h)
              · subst h; exact he
              · intro e2
                have q1 := h2 i hil (Nat.le_refl _)
                have q2 := bl_not q1 he
                have q3 := hr i x hil hx h
                rw [e2] at q3
                rw [q1] at q3; cases q3
            rw [hn]
            rw [tld, tld] at he
            simp only [beq_eq_false_iff_ne, ne_eq]
            exact fun x => he ((cmp_eq _ _).mp x)
        · intro hb
          refine ⟨hil, (find_at hil ?_ (fun j hj hji => bl_ne (h1 j hj hji))).1⟩
          rw [tld, tld]
          exact (cmp_eq _ _).mp (by simpa using hb)
      · have ei : i = l.length := by omega
        refine ⟨i, false, Ev.succ ?_, hj, ?_, fun h => by cases h⟩
        · simp only [slices_BinarySearchFunc_at_54.l0]
          exact Ev.neg (by omega) (Ev.neg (by omega) (Ev.const rfl))
        · symm
          unfold hasB
          rw [List.any_eq_false]
          intro t ht
          obtain ⟨x, hx, rfl⟩ := List.getElem_of_mem ht
          simp only [beq_iff_eq]
          exact bl_ne (h1 x hx (by omega))
termination_by d i j => d
decreasing_by all_goals omega
end
def atL (l1 : LT) : LT → Int → Int → LT → Int × Int × LT × Int
  | [], c0, c1, out => (c0, c1, out, 0)
  | t :: ts, c0, c1, out => if hasB t.f0 l1 = true then
      let v := doV ⟨#[42]⟩ true t.f1.f0 t.f1.f1 (findT t.f0 l1).f1.f0 (findT t.f0 l1).f1.f1
      if v.2.2 = 0 then let s := doV ⟨#[43]⟩ true c0 c1 v.1 v.2.1; if s.2.2 = 0 then atL l1 ts s.1 s.2.1 out else (0, 0, [], s.2.2) else (0, 0, [], v.2.2)
    else atL l1 ts c0 c1 (out ++ [t])
theorem exr_I64 (r : Rat) : I64 (exr r).1 ∧ I64 (exr r).2.1 := by
  unfold exr
  split
  · rename_i h; unfold small at h; unfold I64; dsimp only; omega
  · unfold I64; dsimp only; omega
theorem outv_I64 (b : Bool) (r : Rat) : I64 (outv b r).1 ∧ I64 (outv b r).2.1 := by
  unfold outv nearv
  split
  · split <;> exact exr_I64 _
  · exact exr_I64 _
theorem doV_I64 (op : ByteArray) (b : Bool) (x y z u : Int) : I64 (doV op b x y z u).1 ∧ I64 (doV op b x y z u).2.1 := by
  have z0 : I64 0 := by unfold I64; omega
  unfold doV
  repeat' split
  all_goals first | exact outv_I64 _ _ | exact ⟨z0, z0⟩
theorem find_mem {l : LT} {n : ByteArray} (h : hasB n l = true) : findT n l ∈ l := by
  unfold hasB at h
  unfold findT
  cases hf : l.find? (fun x => x.f0.toList == n.toList) with
  | some x => exact List.mem_of_find?_eq_some hf
  | none =>
    rw [List.find?_eq_none] at hf
    obtain ⟨x, hx, hx2⟩ := List.any_eq_true.mp h
    exact absurd hx2 (hf x hx)
section
variable {l1 : LT}
theorem atgo_ev (h60 : l1.length ≤ 60) (hr : ∀ i j (hi : i < l1.length) (hj : j < l1.length), i < j → bl l1[i].f0.toList l1[j].f0.toList = true) (ht1 : ∀ t ∈ l1, TOk t) : ∀ (l : LT) (c0 c1 : Int) (out : LT), (∀ t ∈ l, TOk t) → I64 c0 → I64 c1 → Ev (fun k => atgo k l1 l c0 c1 out) (atL l1 l c0 c1 out)
  | [], c0, c1, out, _, _, _ => Ev.const rfl
  | t :: ts, c0, c1, out, ht, i0, i1 => by
    obtain ⟨t1, t2, t3⟩ := ht t List.mem_cons_self
    have ht' : ∀ u ∈ ts, TOk u := fun u hu => ht u (List.mem_cons_of_mem _ hu)
    obtain ⟨m, b, g1, g2, g3, g4⟩ := bs_loop (n := t.f0) h60 hr l1.length 0 l1.length (by omega) (by omega) (Nat.le_refl _) (fun x hx h => by omega) (fun x hx h => by omega)
    unfold atgo atL
    refine Ev.bind g1 ?_
    subst g3
    cases hb : hasB t.f0 l1 with
    | false =>
      rw [if_neg (by decide)]
      exact Ev.neg (by simp) (atgo_ev h60 hr ht1 ts c0 c1 _ ht' i0 i1)
    | true =>
      rw [if_pos rfl]
      obtain ⟨hm, hf⟩ := g4 hb
      obtain ⟨u1, u2, u3⟩ := ht1 _ (find_mem hb)
      refine Ev.pos rfl (Ev.pos (by dsimp only; omega) (Ev.pos (by dsimp only; omega) ?_))
      show Ev (fun k => (num_Near.f k _ _ _ (rd_T47 l1 (m : Int)).f1.f0 (rd_T47 l1 (m : Int)).f1.f1).bind _) _
      rw [rdd hm, ← hf]
      refine Ev.bind (Near_near_ev (I64_of t1) (I64_of t2) (I64_of u1) (I64_of u2)) ?_
      by_cases hv : (doV ⟨#[42]⟩ true t.f1.f0 t.f1.f1 (findT t.f0 l1).f1.f0 (findT t.f0 l1).f1.f1).2.2 = 0
      · refine Ev.as (if_pos hv).symm (Ev.pos hv ?_)
        refine Ev.bind (Near_near_ev i0 i1 (doV_I64 _ _ _ _ _ _).1 (doV_I64 _ _ _ _ _ _).2) ?_
        by_cases hs : (doV ⟨#[43]⟩ true c0 c1 (doV ⟨#[42]⟩ true t.f1.f0 t.f1.f1 (findT t.f0 l1).f1.f0 (findT t.f0 l1).f1.f1).1 (doV ⟨#[42]⟩ true t.f1.f0 t.f1.f1 (findT t.f0 l1).f1.f0 (findT t.f0 l1).f1.f1).2.1).2.2 = 0
        · exact Ev.as (if_pos hs).symm (Ev.pos hs (atgo_ev h60 hr ht1 ts _ _ out ht' (doV_I64 _ _ _ _ _ _).1 (doV_I64 _ _ _ _ _ _).2))
        · exact Ev.as (if_neg hs).symm (Ev.neg hs (Ev.const rfl))
      · exact Ev.as (if_neg hv).symm (Ev.neg hv (Ev.const rfl))
theorem coef_loop {n : ByteArray} (hl : l1.length ≤ 60) : ∀ m j, j + m = l1.length → (∀ x (hx : x < l1.length), x < j → l1[x].f0.toList ≠ n.toList) → Ev (fun k => fleuronref08_coef.l0 k n l1 (l1.length : Int) (j : Int)) ((findT n l1).f1.f0, (findT n l1).f1.f1)
  | 0, j, h, hn => by
    refine Ev.succ ?_
    simp only [fleuronref08_coef.l0]
    refine Ev.as ?_ (Ev.neg (by omega) (Ev.const rfl))
    have : l1.find? (fun x => x.f0.toList == n.toList) = none := by
      rw [List.find?_eq_none]
      intro t ht
      obtain ⟨x, hx, rfl⟩ := List.getElem_of_mem ht
      simpa using hn x hx (by omega)
    unfold findT; rw [this]; rfl
  | m + 1, j, h, hn => by
    have hj : j < l1.length := by omega
    refine Ev.succ ?_
    simp only [fleuronref08_coef.l0]
    refine Ev.pos (by omega) (Ev.pos (by omega) (Ev.pos (by omega) ?_))
    rw [rdd hj, w64s hj (by omega)]
    by_cases he : l1[j].f0.toList = n.toList
    · exact Ev.as (by rw [(find_at hj he hn).1]) (Ev.pos he (Ev.const rfl))
    · refine Ev.neg he (coef_loop hl m (j + 1) (by omega) (fun x hx hxj => ?_))
      rcases Nat.lt_or_ge x j with h | h
      · exact hn x hx h
      · have : x = j := by omega
        subst this; exact he
theorem coef_ev {n : ByteArray} (hl : l1.length ≤ 60) : Ev (fun k => fleuronref08_coef.f k l1 n) ((findT n l1).f1.f0, (findT n l1).f1.f1) := coef_loop hl l1.length 0 (by omega) (fun x hx h => by omega)
theorem ratgo_ev (h60 : l1.length ≤ 60) (ht1 : ∀ t ∈ l1, TOk t) : ∀ (l : LT) (c0 c1 : Int) (out : LT), (∀ t ∈ l, TOk t) → I64 c0 → I64 c1 → Ev (fun k => ratgo k l1 l c0 c1 out) (atL l1 l c0 c1 out)
  | [], c0, c1, out, _, _, _ => Ev.const rfl
  | t :: ts, c0, c1, out, ht, i0, i1 => by
    obtain ⟨t1, t2, t3⟩ := ht t List.mem_cons_self
    have ht' : ∀ u ∈ ts, TOk u := fun u hu => ht u (List.mem_cons_of_mem _ hu)
    unfold ratgo atL
    have er : rathas t.f0 l1 = hasB t.f0 l1 := rfl
    rw [er]
    cases hb : hasB t.f0 l1 with
    | false =>
      rw [if_neg (by decide)]
      exact Ev.neg (by simp) (ratgo_ev h60 ht1 ts c0 c1 _ ht' i0 i1)
    | true =>
      rw [if_pos rfl]
      obtain ⟨u1, u2, u3⟩ := ht1 _ (find_mem hb)
      refine Ev.pos rfl (Ev.bind (coef_ev h60) ?_)
      refine Ev.bind (RNear_ev (I64_of t1) (I64_of t2) (I64_of u1) (I64_of u2)) ?_
      by_cases hv : (doV ⟨#[42]⟩ true t.f1.f0 t.f1.f1 (findT t.f0 l1).f1.f0 (findT t.f0 l1).f1.f1).2.2 = 0
      · refine Ev.as (if_pos hv).symm (Ev.pos hv ?_)
        refine Ev.bind (RNear_ev i0 i1 (doV_I64 _ _ _ _ _ _).1 (doV_I64 _ _ _ _ _ _).2) ?_
        by_cases hs : (doV ⟨#[43]⟩ true c0 c1 (doV ⟨#[42]⟩ true t.f1.f0 t.f1.f1 (findT t.f0 l1).f1.f0 (findT t.f0 l1).f1.f1).1 (doV ⟨#[42]⟩ true t.f1.f0 t.f1.f1 (findT t.f0 l1).f1.f0 (findT t.f0 l1).f1.f1).2.1).2.2 = 0
        · exact Ev.as (if_pos hs).symm (Ev.pos hs (ratgo_ev h60 ht1 ts _ _ out ht' (doV_I64 _ _ _ _ _ _).1 (doV_I64 _ _ _ _ _ _).2))
        · exact Ev.as (if_neg hs).symm (Ev.neg hs (Ev.const rfl))
      · exact Ev.as (if_neg hv).symm (Ev.neg hv (Ev.const rfl))
end
theorem atL_len (l1 : LT) : ∀ (l : LT) (c0 c1 : Int) (out : LT), (atL l1 l c0 c1 out).2.2.1.length ≤ l.length + out.length
  | [], c0, c1, out => by simp [atL]
  | t :: ts, c0, c1, out => by
    simp only [atL]
    split
    · split
      · split
        · exact Nat.le_trans (atL_len l1 ts _ _ out) (by simp)
        · simp
      · simp
    · exact Nat.le_trans (atL_len l1 ts c0 c1 _) (by simp; omega)
def atV (p q : Int) (l l1 : LT) : Int × Int × LT × Int := if valB p q l = true ∧ (risP true none l1 && decide (l1.length ≤ 60)) = true then atL l1 l p q [] else (0, 0, [], 2)
theorem atV_len {p q : Int} {l l1 : LT} : (atV p q l l1).2.2.1.length ≤ 60 := by
  unfold atV
  split
  · rename_i h
    have h1 := valB_len h.1
    have h2 := atL_len l1 l p q []
    simp at h2
    omega
  · simp
section
variable {p q : Int} {l l1 : LT}
theorem At_ev (hp : I64 p) (hq : I64 q) (hl : l.length ≤ 80) (hl1 : l1.length ≤ 80) (ht : ∀ t ∈ l, TOk t) (ht1 : ∀ t ∈ l1, TOk t) : Ev (fun k => linear_At.f k p q l l1) (atV p q l l1) := by
  unfold linear_At.f atV
  refine Ev.neg (by omega) (Ev.bind (Val_ev hp hq (by omega) ht) ?_)
  cases hv : valB p q l with
  | false => exact Ev.as (by simp) (Ev.neg (by decide) (Ev.const rfl))
  | true =>
    refine Ev.pos rfl (Ev.bind (rising_ev (by omega) ht1) ?_)
    cases hr : (risP true none l1 && decide (l1.length ≤ 60)) with
    | false => exact Ev.as (by simp) (Ev.neg (by decide) (Ev.const rfl))
    | true =>
      rw [if_pos ⟨rfl, rfl⟩]
      simp only [Bool.and_eq_true, decide_eq_true_eq] at hr
      exact Ev.pos rfl (atgo_ev hr.2 (ris_lt l1 none hr.1).2 ht1 l p q [] ht hp hq)
theorem RAt_ev (hp : I64 p) (hq : I64 q) (hl : l.length ≤ 80) (hl1 : l1.length ≤ 80) (ht : ∀ t ∈ l, TOk t) (ht1 : ∀ t ∈ l1, TOk t) : Ev (fun k => fleuronref08_At.f k p q l l1) (atV p q l l1) := by
  unfold fleuronref08_At.f atV
  refine Ev.neg (by omega) (Ev.bind (RVal_ev hp hq (by omega) ht) ?_)
  cases hv : valB p q l with
  | false => exact Ev.as (by simp) (Ev.neg (by decide) (Ev.const rfl))
  | true =>
    refine Ev.pos rfl (Ev.bind (terms_ev true (by omega) ht1) ?_)
    cases hr : (risP true none l1 && decide (l1.length ≤ 60)) with
    | false => exact Ev.as (by simp) (Ev.neg (by decide) (Ev.const rfl))
    | true =>
      rw [if_pos ⟨rfl, rfl⟩]
      simp only [Bool.and_eq_true, decide_eq_true_eq] at hr
      exact Ev.pos rfl (ratgo_ev hr.2 ht1 l p q [] ht hp hq)
end
end Go.Proofs.YtilamkcpbibnmaaGreatDoor.P
