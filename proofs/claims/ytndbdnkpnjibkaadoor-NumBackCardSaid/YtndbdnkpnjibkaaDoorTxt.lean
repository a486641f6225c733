/- Numbers as text: the program's Text, Parse, Decimal and the plain twin's. -/
import Derived.Test.YtndbdnkpnjibkaaDoorDo
import Derived.Test.YtndbdnkpnjibkaaDoorPxfleuronref01Decimal
import Derived.Test.YtndbdnkpnjibkaaDoorPxfleuronref01digits
import Derived.Test.YtndbdnkpnjibkaaDoorPxnumDecimal
import Derived.Test.YtndbdnkpnjibkaaDoorPxnumParse
import Derived.Test.YtndbdnkpnjibkaaDoorPxnumdo
import Derived.Lib.IndexLaws
import Derived.Lib.ParseIntBCases
import Derived.Lib.SmallJoins
namespace Go.Proofs.YtndbdnkpnjibkaaDoor.P
open Go.RowKit Go.Proofs.YtndbdnkpnjibkaaDoorW.PrintWords Go.Proofs.YtndbdnkpnjibkaaDoorW.PrintLast Go.Proofs.YtndbdnkpnjibkaaDoorW.PrintMore
set_option linter.unusedVariables false

/-! Decimal digits. -/
def isDig (l : List UInt8) : Prop := ∀ c ∈ l, 48 ≤ c.toNat ∧ c.toNat ≤ 57
def natVal (l : List UInt8) : Nat := l.foldl (fun n c => n * 10 + (c.toNat - 48)) 0
theorem ofNat_dig {d : Nat} (h : d < 10) : (UInt8.ofNat (48 + d)).toNat = 48 + d := by
  rw [UInt8.toNat_ofNat']; omega
theorem dd_all : ∀ (u : Nat), isDig (Lib.decDigits u) ∧ natVal (Lib.decDigits u) = u ∧ 1 ≤ (Lib.decDigits u).length ∧ ∀ m, u < 10 ^ (m + 1) → (Lib.decDigits u).length ≤ m + 1 := by
  intro u
  induction u using Nat.strongRecOn with
  | _ u ih =>
    rw [Lib.decDigits]
    by_cases h : u < 10
    · rw [dif_pos h]
      refine ⟨fun c hc => ?_, ?_, by simp, fun m _ => by simp⟩
      · rw [List.mem_singleton.mp hc, ofNat_dig h]; omega
      · simp only [natVal, List.foldl_cons, List.foldl_nil]; rw [ofNat_dig h]; omega
    · rw [dif_neg h]
      obtain ⟨i1, i2, i3, i4⟩ := ih (u / 10) (by omega)
      have hd : u % 10 < 10 := Nat.mod_lt _ (by omega)
      refine ⟨fun c hc => ?_, ?_, by simp, fun m hm => ?_⟩
      · rcases List.mem_append.mp hc with hc | hc
        · exact i1 c hc
        · rw [List.mem_singleton.mp hc, ofNat_dig hd]; omega
      · unfold natVal at i2 ⊢
        rw [List.foldl_append, i2]
        simp only [List.foldl_cons, List.foldl_nil]
        rw [ofNat_dig hd]; omega
      · cases m with
        | zero => omega
        | succ m =>
          have := i4 m (by rw [Nat.pow_succ] at hm; omega)
          rw [List.length_append]; simp; omega
theorem dd_dig (u : Nat) : isDig (Lib.decDigits u) := (dd_all u).1
theorem dd_val (u : Nat) : natVal (Lib.decDigits u) = u := (dd_all u).2.1
theorem dd_pos (u : Nat) : 1 ≤ (Lib.decDigits u).length := (dd_all u).2.2.1
theorem dd_len10 {u : Nat} (h : u < 10000000000) : (Lib.decDigits u).length ≤ 10 := (dd_all u).2.2.2 9 (by simpa using h)
theorem digVal_of {l : List UInt8} (h : isDig l) : digVal l = (natVal l : Int) := digVal_nat l 0 h
theorem parseUint_digs {l : List UInt8} (h : isDig l) (h1 : 1 ≤ l.length) (h2 : l.length ≤ 15) : Lib.parseUintB 64 l = .ok (natVal l) ∧ natVal l < 1000000000000000 := by
  obtain ⟨i1, i2⟩ := parseUintM_digs l 0 0 h (by decide) (by omega)
  have hp : (10 : Nat) ^ (0 + l.length) ≤ 10 ^ 15 := Nat.pow_le_pow_right (by decide) (by omega)
  refine ⟨?_, by unfold natVal; omega⟩
  unfold Lib.parseUintB
  rw [if_neg (by rintro rfl; simp at h1)]
  exact i1
theorem parseVal_plain {l : List UInt8} (h : isDig l) (h1 : 1 ≤ l.length) (h2 : l.length ≤ 15) : parseVal l = ((natVal l : Int), true) := by
  obtain ⟨e, hb⟩ := parseUint_digs h h1 h2
  cases l with
  | nil => simp at h1
  | cons c r =>
    have hc := h c (by simp)
    have e2 : Lib.parseIntB 64 (c :: r) = .ok (natVal (c :: r) : Int) := by
      rw [Lib.parseIntB_plain 64 c r (by omega) (by omega), e]
      show (if 2 ^ (64 - 1) ≤ natVal (c :: r) then _ else _) = _
      rw [if_neg (by omega)]
    unfold parseVal
    rw [e2]
theorem parseVal_minus {l : List UInt8} (h : isDig l) (h1 : 1 ≤ l.length) (h2 : l.length ≤ 15) : parseVal (45 :: l) = (-(natVal l : Int), true) := by
  obtain ⟨e, hb⟩ := parseUint_digs h h1 h2
  have e2 : Lib.parseIntB 64 (45 :: l) = .ok (-(natVal l : Int)) := by
    rw [Lib.parseIntB_minus 64 l, e]
    show (if 2 ^ (64 - 1) < natVal l then _ else _) = _
    rw [if_neg (by omega)]
  unfold parseVal
  rw [e2]
/-- A numeral read back. -/
theorem parseVal_itoa {n : Int} (h : -2147483647 ≤ n ∧ n ≤ 2147483647) : parseVal (Lib.itoa n) = (n, true) := by
  unfold Lib.itoa
  by_cases hn : n < 0
  · rw [if_pos hn, parseVal_minus (dd_dig _) (dd_pos _) (by have := dd_len10 (u := n.natAbs) (by omega); omega), dd_val]
    congr 1; omega
  · rw [if_neg hn, parseVal_plain (dd_dig _) (dd_pos _) (by have := dd_len10 (u := n.toNat) (by omega); omega), dd_val]
    congr 1; omega
theorem itoa_no {n : Int} {c : UInt8} (h : c.toNat = 46 ∨ c.toNat = 47) : c ∉ Lib.itoa n := by
  intro hc
  unfold Lib.itoa at hc
  by_cases hn : n < 0
  · rw [if_pos hn] at hc
    rcases List.mem_cons.mp hc with rfl | hc
    · revert h; decide
    · have := dd_dig _ _ hc; omega
  · rw [if_neg hn] at hc
    have := dd_dig _ _ hc; omega
theorem itoa_len {n : Int} (h : -2147483647 ≤ n ∧ n ≤ 2147483647) : (Lib.itoa n).length ≤ 11 := by
  unfold Lib.itoa
  by_cases hn : n < 0
  · rw [if_pos hn]; have := dd_len10 (u := n.natAbs) (by omega); simp; omega
  · rw [if_neg hn]; have := dd_len10 (u := n.toNat) (by omega); omega

/-! Cutting at a byte. -/
theorem ib_at : ∀ (x y : List UInt8) (c : UInt8), c ∉ x → Lib.indexByte (x ++ c :: y) c = x.length
  | [], y, c, _ => by simp [Lib.indexByte]
  | b :: x, y, c, h => by
    have h1 : ¬ (b == c) = true := by intro e; exact h (by simp [eq_of_beq e])
    have i := ib_at x y c (fun hc => h (List.mem_cons_of_mem _ hc))
    show (if (b == c) = true then (0 : Int) else if (Lib.indexByte (x ++ c :: y) c == -1) = true then -1 else Lib.indexByte (x ++ c :: y) c + 1) = _
    rw [if_neg h1, i, if_neg (by simp)]
    simp
theorem ib_no : ∀ (x : List UInt8) (c : UInt8), c ∉ x → Lib.indexByte x c = -1
  | [], c, _ => rfl
  | b :: x, c, h => by
    have h1 : ¬ (b == c) = true := by intro e; exact h (by simp [eq_of_beq e])
    have i := ib_no x c (fun hc => h (List.mem_cons_of_mem _ hc))
    show (if (b == c) = true then (0 : Int) else if (Lib.indexByte x c == -1) = true then -1 else Lib.indexByte x c + 1) = _
    rw [if_neg h1, i, if_pos (by rfl)]
theorem cut_at (x y : List UInt8) (c : UInt8) (h : c ∉ x) : Lib.cut (x ++ c :: y) [c] = (x, y, true) := by
  rw [cut_some _ _ _ (ib_at x y c h)]
  simp
theorem cut_no (x : List UInt8) (c : UInt8) (h : c ∉ x) : Lib.cut x [c] = (x, [], false) := cut_none _ _ (ib_no x c h)
theorem bt_eq {s : ByteArray} {i : Nat} {c : UInt8} (h : s.data.toList[i]? = some c) : bt s (i : Int) = (c.toNat : Int) := by
  obtain ⟨hi, e⟩ := List.getElem?_eq_some_iff.mp h
  have hs : i < s.size := by simpa using hi
  unfold bt
  rw [dif_pos (by simpa using hs)]
  have : (s[(i : Int).toNat]'(by simpa using hs)) = c := by
    rw [← e]; rfl
  rw [this]
/-- The plain twin's cut. -/
theorem rcut_ev {s : ByteArray} (c : UInt8) (hs : s.size ≤ 1000000) : Ev (fun k => fleuronref01_cut.f k s (c.toNat : Int)) (⟨(Lib.cut s.data.toList [c]).1.toArray⟩, ⟨(Lib.cut s.data.toList [c]).2.1.toArray⟩, (Lib.cut s.data.toList [c]).2.2) := by
  have hlen : s.data.toList.length = s.size := Array.length_toList
  have loop : ∀ (n i : Nat), i + n = s.size → (∀ j, j < i → s.data.toList[j]? ≠ some c) → Ev (fun k => fleuronref01_cut.l0 k s (c.toNat : Int) (i : Int)) (⟨(Lib.cut s.data.toList [c]).1.toArray⟩, ⟨(Lib.cut s.data.toList [c]).2.1.toArray⟩, (Lib.cut s.data.toList [c]).2.2) := by
    intro n
    induction n with
    | zero =>
      intro i hi hb
      refine Ev.succ ?_
      simp only [fleuronref01_cut.l0]
      refine Ev.neg (by omega) (Ev.const ?_)
      have hno : c ∉ s.data.toList := by
        intro hc
        obtain ⟨j, hj, e⟩ := List.mem_iff_getElem.mp hc
        exact hb j (by omega) (by rw [List.getElem?_eq_getElem hj, e])
      rw [cut_no _ _ hno]
    | succ n ih =>
      intro i hi hb
      refine Ev.succ ?_
      simp only [fleuronref01_cut.l0]
      refine Ev.pos (by omega) (Ev.pos (by omega) ?_)
      obtain ⟨d, hd⟩ : ∃ d, s.data.toList[i]? = some d := ⟨_, List.getElem?_eq_getElem (by omega)⟩
      rw [bt_eq hd, w64_id (x := (i : Int) + 1) (by omega) (by omega), show (i : Int) + 1 = ((i + 1 : Nat) : Int) by omega]
      by_cases hdc : d = c
      · subst hdc
        refine Ev.pos rfl (Ev.pos (by omega) (Ev.pos (by omega) (Ev.pos (by omega) (Ev.const ?_))))
        have hsplit : s.data.toList = s.data.toList.take i ++ d :: s.data.toList.drop (i + 1) := by
          have hlt : i < s.data.toList.length := by omega
          rw [← List.getElem?_eq_some_iff.mp hd |>.2, List.getElem_cons_drop, List.take_append_drop]
        have hno : d ∉ s.data.toList.take i := by
          intro hc
          obtain ⟨j, hj, e⟩ := List.mem_iff_getElem.mp hc
          rw [List.length_take] at hj
          rw [List.getElem_take] at e
          exact hb j (by omega) (by rw [List.getElem?_eq_getElem (by omega), e])
        have hcut : Lib.cut s.data.toList [d] = (s.data.toList.take i, s.data.toList.drop (i + 1), true) := by
          conv => lhs; rw [hsplit]
          exact cut_at _ _ _ hno
        rw [hcut]
        have e1 : (⟨(s.data.toList.take i).toArray⟩ : ByteArray) = s.extract 0 i := by rw [Lib.extract_eq]; simp
        have e2 : (⟨(s.data.toList.drop (i + 1)).toArray⟩ : ByteArray) = s.extract (i + 1) s.size := by
          rw [Lib.extract_eq, List.take_of_length_le (by simp)]
        rw [show ((i : Int)).toNat = i by omega, show (((i + 1 : Nat) : Int)).toNat = i + 1 by omega]
        simp only [e1, e2]
      · have hne : ¬ (d.toNat : Int) = (c.toNat : Int) := by
          intro e; exact hdc (UInt8.toNat_inj.mp (by omega))
        refine Ev.neg hne (ih (i + 1) (by omega) (fun j hj => ?_))
        by_cases hji : j = i
        · subst hji; rw [hd]; intro e; exact hdc (Option.some.inj e)
        · exact hb j (by omega)
  exact loop s.size 0 (by omega) (fun j hj => absurd hj (by omega))
/-- The plain twin's whole: a row of digits, or -1. -/
theorem rwhole_ev {s : ByteArray} {most : Nat} (hm : most ≤ 10) (hs : s.size ≤ 1000000) : Ev (fun k => fleuronref01_whole.f k s (most : Int)) (if digs s.data.toList 1 most = true then digVal s.data.toList else -1) := by
  have hlen : s.data.toList.length = s.size := Array.length_toList
  have bad : ¬ digs s.data.toList 1 most = true → Ev (fun k => fleuronref01_whole.j0 k s true) (if digs s.data.toList 1 most = true then digVal s.data.toList else -1) := by
    intro h
    refine Ev.succ ?_
    simp only [fleuronref01_whole.j0]
    exact Ev.to (Ev.pos trivial (Ev.const rfl)) (if_neg h).symm
  unfold fleuronref01_whole.f
  by_cases h1 : (s.size : Int) < 1
  · refine Ev.pos h1 (bad (fun h => ?_)); have := (digs_all h).1; omega
  refine Ev.neg h1 ?_
  by_cases h2 : (s.size : Int) > most
  · rw [decide_eq_true h2]; refine bad (fun h => ?_); have := (digs_all h).2.1; omega
  rw [decide_eq_false h2]
  refine Ev.succ ?_
  simp only [fleuronref01_whole.j0]
  refine Ev.neg (by decide) ?_
  have hE : ∀ (rest pre : List UInt8), s.data.toList = pre ++ rest → ∀ (acc : Nat), acc < 10 ^ pre.length →
      Ev (fun k => fleuronref01_whole.l0 k s (acc : Int) (pre.length : Int)) (if (rest.all fun c => decide (48 ≤ c.toNat) && decide (c.toNat ≤ 57)) = true then ((rest.foldl (fun n c => n * 10 + (c.toNat - 48)) acc : Nat) : Int) else -1) := by
    intro rest
    induction rest with
    | nil =>
      intro pre hp acc ha
      refine Ev.succ ?_
      simp only [fleuronref01_whole.l0]
      have : pre.length = s.size := by rw [← hlen, hp]; simp
      exact Ev.neg (by omega) (Ev.const rfl)
    | cons d rest ih =>
      intro pre hp acc ha
      have hl : pre.length + (rest.length + 1) = s.size := by rw [← hlen, hp]; simp
      have hd : s.data.toList[pre.length]? = some d := by rw [hp]; simp
      have hpw : (10 : Nat) ^ pre.length ≤ 10 ^ 9 := Nat.pow_le_pow_right (by decide) (by omega)
      refine Ev.succ ?_
      simp only [fleuronref01_whole.l0]
      refine Ev.pos (by omega) (Ev.pos (by omega) ?_)
      rw [bt_eq hd]
      by_cases c1 : (d.toNat : Int) < 48
      · exact Ev.to (Ev.pos c1 (Ev.const rfl)) (if_neg (by simp; omega)).symm
      refine Ev.neg c1 ?_
      by_cases c2 : (d.toNat : Int) > 57
      · exact Ev.to (Ev.pos c2 (Ev.const rfl)) (if_neg (by simp; omega)).symm
      refine Ev.neg c2 ?_
      rw [Int.emod_eq_of_lt (a := (d.toNat : Int) - 48) (by omega) (by omega), w64_id (x := 10 * (acc : Int)) (by omega) (by omega), w64_id (x := 10 * (acc : Int) + ((d.toNat : Int) - 48)) (by omega) (by omega), w64_id (x := (pre.length : Int) + 1) (by omega) (by omega)]
      have := ih (pre ++ [d]) (by rw [hp]; simp) (acc * 10 + (d.toNat - 48)) (by rw [List.length_append]; show _ < 10 ^ (pre.length + 1); rw [Nat.pow_succ]; omega)
      rw [show ((pre ++ [d]).length : Int) = (pre.length : Int) + 1 by simp, show ((acc * 10 + (d.toNat - 48) : Nat) : Int) = 10 * (acc : Int) + ((d.toNat : Int) - 48) by omega] at this
      refine Ev.to this ?_
      rw [List.all_cons, List.foldl_cons, decide_eq_true (show 48 ≤ d.toNat by omega), decide_eq_true (show d.toNat ≤ 57 by omega)]
      rfl
  refine Ev.to (hE s.data.toList [] (by simp) 0 (by decide)) ?_
  unfold digs
  rw [decide_eq_true (show 1 ≤ s.data.toList.length by omega), decide_eq_true (show s.data.toList.length ≤ most by omega)]
  simp only [Bool.true_and]
  by_cases ha : (s.data.toList.all fun c => decide (48 ≤ c.toNat) && decide (c.toNat ≤ 57)) = true
  · rw [if_pos ha, if_pos ha]
    refine (digVal_nat s.data.toList 0 (fun c hc => ?_)).symm
    have := List.all_eq_true.mp ha c hc
    simpa using this
  · rw [if_neg ha, if_neg ha]
end Go.Proofs.YtndbdnkpnjibkaaDoor.P
