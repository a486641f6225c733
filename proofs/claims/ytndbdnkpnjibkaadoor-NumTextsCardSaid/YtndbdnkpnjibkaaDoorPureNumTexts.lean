/- The plain law of NumTexts. -/
import Derived.Test.YtndbdnkpnjibkaaDoorTxt2
import Derived.Test.YtndbdnkpnjibkaaDoorPxfleuronref01Decimal
import Derived.Test.YtndbdnkpnjibkaaDoorPxnumDecimal
namespace Go.Proofs.YtndbdnkpnjibkaaDoor.P
open Go.RowKit Go.Proofs.YtndbdnkpnjibkaaDoorW.PrintWords Go.Proofs.YtndbdnkpnjibkaaDoorW.PrintLast Go.Proofs.YtndbdnkpnjibkaaDoorW.PrintMore
set_option linter.unusedVariables false
/-- A decimal. -/
def decV (l : List UInt8) : Int × Int × Int :=
  if (if (Lib.cut l [46]).2.2 = true then digs (Lib.cut l [46]).1 0 9 && digs (Lib.cut l [46]).2.1 1 5 else digs (Lib.cut l [46]).1 1 9) = true
  then exr (Rat.divInt (digVal ((Lib.cut l [46]).1 ++ (Lib.cut l [46]).2.1)) ((10 ^ (Lib.cut l [46]).2.1.length : Nat) : Int)) else (0, 0, 30)
theorem digVal_b {l : List UInt8} (hc : isDig l) (m : Nat) (hm : m ≤ 16) (hl : l.length ≤ m) : 0 ≤ digVal l ∧ digVal l < ((10 ^ m : Nat) : Int) := by
  obtain ⟨_, i2⟩ := parseUintM_digs l 0 0 hc (by decide) (by omega)
  have hp : (10 : Nat) ^ (0 + l.length) ≤ 10 ^ m := Nat.pow_le_pow_right (by decide) (by omega)
  rw [digVal_of hc]
  unfold natVal
  omega
theorem digVal_app (x y : List UInt8) : digVal (x ++ y) = digVal x * ((10 ^ y.length : Nat) : Int) + digVal y := by
  have gen : ∀ (y : List UInt8) (acc : Int), y.foldl (fun n c => 10 * n + ((c.toNat : Int) - 48)) acc = acc * ((10 ^ y.length : Nat) : Int) + digVal y := by
    intro y
    induction y with
    | nil => intro acc; simp [digVal]
    | cons c y ih =>
      intro acc
      have h1 := ih (10 * acc + ((c.toNat : Int) - 48))
      have h2 := ih (10 * 0 + ((c.toNat : Int) - 48))
      rw [List.foldl_cons, h1]
      unfold digVal at h2 ⊢
      rw [List.foldl_cons, h2, List.length_cons, Nat.pow_succ, Int.natCast_mul, Int.add_mul, Int.add_mul]
      generalize ((10 ^ y.length : Nat) : Int) = T
      rw [show acc * (T * ((10 : Nat) : Int)) = 10 * acc * T by rw [Int.mul_comm T, ← Int.mul_assoc, Int.mul_comm acc]; rfl]
      omega
  unfold digVal
  rw [List.foldl_append]
  exact gen y _
theorem cut_no_tail {l : List UInt8} {c : UInt8} (h : (Lib.cut l [c]).2.2 = false) : (Lib.cut l [c]).2.1 = [] := by
  unfold Lib.cut at h ⊢
  split
  · rename_i hi; rw [if_pos hi] at h; cases h
  · rfl
theorem cut_len (l : List UInt8) (c : UInt8) : (Lib.cut l [c]).1.length ≤ l.length ∧ (Lib.cut l [c]).2.1.length ≤ l.length := by
  unfold Lib.cut
  split
  · exact ⟨by simp; omega, by simp⟩
  · exact ⟨Nat.le_refl _, by simp⟩
theorem pow5 {n : Nat} (h : n ≤ 5) : (1 : Int) ≤ ((10 ^ n : Nat) : Int) ∧ ((10 ^ n : Nat) : Int) ≤ 100000 := by
  have h1 : (10 : Nat) ^ n ≤ 10 ^ 5 := Nat.pow_le_pow_right (by decide) h
  have h2 : 0 < (10 : Nat) ^ n := Nat.pow_pos (by decide)
  omega
theorem Decimal_ev {s : ByteArray} (hs : s.size ≤ 1000000) : Ev (fun k => num_Decimal.f k s) (decV s.data.toList) := by
  unfold num_Decimal.f decV
  have hc : strings_Cut.f s ⟨#[46]⟩ = some (⟨(Lib.cut s.data.toList [46]).1.toArray⟩, ⟨(Lib.cut s.data.toList [46]).2.1.toArray⟩, (Lib.cut s.data.toList [46]).2.2) := by
    unfold strings_Cut.f
    rw [if_pos ⟨rfl, by omega⟩]
  refine Ev.bind (Ev.const hc) ?_
  simp only
  by_cases h : (if (Lib.cut s.data.toList [46]).2.2 = true then digs (Lib.cut s.data.toList [46]).1 0 9 && digs (Lib.cut s.data.toList [46]).2.1 1 5 else digs (Lib.cut s.data.toList [46]).1 1 9) = true
  rotate_left
  · exact Ev.to (Ev.neg h (Ev.const rfl)) (if_neg h).symm
  refine Ev.to (Ev.pos h ?_) (if_pos h).symm
  have hb : isDig ((Lib.cut s.data.toList [46]).1 ++ (Lib.cut s.data.toList [46]).2.1) ∧ ((Lib.cut s.data.toList [46]).1 ++ (Lib.cut s.data.toList [46]).2.1).length ≤ 14 ∧ (Lib.cut s.data.toList [46]).2.1.length ≤ 5 := by
    by_cases hp : (Lib.cut s.data.toList [46]).2.2 = true
    · rw [if_pos hp, Bool.and_eq_true] at h
      obtain ⟨_, a2, a3⟩ := digs_all h.1
      obtain ⟨_, b2, b3⟩ := digs_all h.2
      refine ⟨fun c hc => ?_, by rw [List.length_append]; omega, b2⟩
      rcases List.mem_append.mp hc with hc | hc
      · exact a3 c hc
      · exact b3 c hc
    · rw [if_neg hp] at h
      obtain ⟨_, a2, a3⟩ := digs_all h
      have e := cut_no_tail (l := s.data.toList) (c := 46) (by simpa using hp)
      rw [e, List.append_nil]
      exact ⟨a3, by omega, by simp⟩
  have b1 := digVal_b hb.1 14 (by omega) hb.2.1
  have b2 := pow5 hb.2.2
  have e14 : ((10 ^ 14 : Nat) : Int) = 100000000000000 := by decide
  rw [e14] at b1
  exact Exact_ev (by unfold I64; omega) (by unfold I64; omega) (by omega)
theorem RDecimal_ev {s : ByteArray} (hs : s.size ≤ 1000000) : Ev (fun k => fleuronref01_Decimal.f k s) (decV s.data.toList) := by
  have hlen : s.data.toList.length = s.size := Array.length_toList
  have hcl := cut_len s.data.toList 46
  unfold fleuronref01_Decimal.f
  refine Ev.bind (rcut_ev 46 hs) ?_
  unfold decV
  have htail := cut_no_tail (l := s.data.toList) (c := 46)
  obtain ⟨x, hx⟩ : ∃ x, (Lib.cut s.data.toList [46]).1 = x := ⟨_, rfl⟩
  obtain ⟨y, hy⟩ : ∃ y, (Lib.cut s.data.toList [46]).2.1 = y := ⟨_, rfl⟩
  obtain ⟨b, hb⟩ : ∃ b, (Lib.cut s.data.toList [46]).2.2 = b := ⟨_, rfl⟩
  rw [hx, hy] at hcl
  rw [hb, hy] at htail
  rw [hx, hy, hb]
  show Ev (fun k => if (⟨x.toArray⟩ : ByteArray).toList = [] then fleuronref01_Decimal.j0 k ⟨x.toArray⟩ ⟨y.toArray⟩ b 0 1 (!b) else fleuronref01_Decimal.j0 k ⟨x.toArray⟩ ⟨y.toArray⟩ b 0 1 true) _
  have W : ∀ (l : List UInt8) (n : Nat), n ≤ 10 → l.length ≤ 1000000 → Ev (fun k => fleuronref01_whole.f k ⟨l.toArray⟩ (n : Int)) (wholeV l n) := fun l n hn hl => by
    have := rwhole_ev (s := ⟨l.toArray⟩) hn (by rw [ba_size]; exact hl)
    exact this
  -- what comes behind the front part
  have tail : ∀ n : Int, -1 ≤ n → n < 1000000000 → Ev (fun k => fleuronref01_Decimal.j1 k ⟨y.toArray⟩ b n 1)
      (if n < 0 then (0, 0, 30) else if b = true then (if wholeV y 5 < 0 then (0, 0, 30) else exr (Rat.divInt (n * ((10 ^ y.length : Nat) : Int) + wholeV y 5) ((10 ^ y.length : Nat) : Int))) else exr (Rat.divInt n 1)) := by
    intro n n0 n1
    refine Ev.succ ?_
    simp only [fleuronref01_Decimal.j1]
    by_cases hn : n < 0
    · exact Ev.to (Ev.pos hn (Ev.const rfl)) (if_pos hn).symm
    refine Ev.to (Ev.neg hn ?_) (if_neg hn).symm
    by_cases hbt : b = true
    rotate_left
    · refine Ev.to (Ev.neg hbt (Ev.bind (RMake_ev (p := n) (q := 1) (by unfold I64; omega) (by unfold I64; omega)) (Ev.const ?_))) (if_neg hbt).symm
      rw [if_neg (by decide)]
    refine Ev.to (Ev.pos hbt (Ev.bind (W y 5 (by omega) (by omega)) ?_)) (if_pos hbt).symm
    by_cases hw : wholeV y 5 < 0
    · exact Ev.to (Ev.pos hw (Ev.const rfl)) (if_pos hw).symm
    refine Ev.to (Ev.neg hw ?_) (if_neg hw).symm
    have hdy : digs y 1 5 = true := by
      by_cases h : digs y 1 5 = true
      · exact h
      · exfalso; apply hw; unfold wholeV; rw [if_neg h]; decide
    obtain ⟨y1, y2, y3⟩ := digs_all hdy
    have hv : wholeV y 5 = digVal y := by unfold wholeV; rw [if_pos hdy]
    have bv := digVal_b (l := y) y3 5 (by omega) y2
    have e5 : ((10 ^ 5 : Nat) : Int) = 100000 := by decide
    rw [e5] at bv
    rw [hv]
    have loop : ∀ (m i : Nat), i + m = y.length → Ev (fun k => fleuronref01_Decimal.l0 k ⟨y.toArray⟩ n ((10 ^ i : Nat) : Int) (digVal y) (i : Int)) (exr (Rat.divInt (n * ((10 ^ y.length : Nat) : Int) + digVal y) ((10 ^ y.length : Nat) : Int))) := by
      intro m
      induction m with
      | zero =>
        intro i hi
        have p5 := pow5 y2
        refine Ev.succ ?_
        simp only [fleuronref01_Decimal.l0]
        rw [ba_size]
        rw [show i = y.length by omega]
        have hmul : 0 ≤ n * ((10 ^ y.length : Nat) : Int) ∧ n * ((10 ^ y.length : Nat) : Int) ≤ 1000000000 * 100000 :=
          ⟨Int.mul_nonneg (by omega) (by omega), Int.mul_le_mul (by omega) p5.2 (by omega) (by omega)⟩
        refine Ev.neg (by omega) ?_
        rw [w64_id (x := n * ((10 ^ y.length : Nat) : Int)) (by omega) (by omega), w64_id (x := n * ((10 ^ y.length : Nat) : Int) + digVal y) (by omega) (by omega)]
        refine Ev.bind (RMake_ev (p := n * ((10 ^ y.length : Nat) : Int) + digVal y) (by unfold I64; omega) (by unfold I64; omega)) (Ev.const ?_)
        rw [if_neg (by omega)]
      | succ m ih =>
        intro i hi
        have p5 := pow5 (n := i) (by omega)
        refine Ev.succ ?_
        simp only [fleuronref01_Decimal.l0]
        rw [ba_size]
        refine Ev.pos (by omega) ?_
        rw [w64_id (x := ((10 ^ i : Nat) : Int) * 10) (by omega) (by omega), w64_id (x := (i : Int) + 1) (by omega) (by omega)]
        have := ih (i + 1) (by omega)
        rw [Nat.pow_succ, Int.natCast_mul] at this
        exact this
    exact loop y.length 0 (by omega)
  -- with the front part read
  have front : Ev (fun k => fleuronref01_Decimal.j0 k ⟨x.toArray⟩ ⟨y.toArray⟩ b 0 1 true) (if wholeV x 9 < 0 then (0, 0, 30) else if b = true then (if wholeV y 5 < 0 then (0, 0, 30) else exr (Rat.divInt (wholeV x 9 * ((10 ^ y.length : Nat) : Int) + wholeV y 5) ((10 ^ y.length : Nat) : Int))) else exr (Rat.divInt (wholeV x 9) 1)) := by
    refine Ev.succ ?_
    simp only [fleuronref01_Decimal.j0]
    have hb9 : -1 ≤ wholeV x 9 ∧ wholeV x 9 < 1000000000 := by
      unfold wholeV
      by_cases h : digs x 1 9 = true
      · rw [if_pos h]
        obtain ⟨x1, x2, x3⟩ := digs_all h
        have bv := digVal_b (l := x) x3 9 (by omega) x2
        have e9 : ((10 ^ 9 : Nat) : Int) = 1000000000 := by decide
        rw [e9] at bv
        omega
      · rw [if_neg h]; omega
    exact Ev.pos trivial (Ev.bind (W x 9 (by omega) (by omega)) (tail _ hb9.1 hb9.2))
  have wneg : ∀ (l : List UInt8) (m : Nat), m ≤ 10 → (wholeV l m < 0 ↔ ¬ digs l 1 m = true) := by
    intro l m hm
    unfold wholeV
    by_cases h : digs l 1 m = true
    · rw [if_pos h]
      obtain ⟨x1, x2, x3⟩ := digs_all h
      have bv := digVal_b (l := l) x3 m (by omega) x2
      constructor
      · intro hh; omega
      · intro hh; exact absurd h hh
    · rw [if_neg h]; simp [h]
  have wpos : ∀ (l : List UInt8) (m : Nat), digs l 1 m = true → wholeV l m = digVal l := by
    intro l m h; unfold wholeV; rw [if_pos h]
  have d01 : ∀ l : List UInt8, l ≠ [] → digs l 0 9 = digs l 1 9 := by
    intro l hl
    unfold digs
    have : 1 ≤ l.length := by cases l with
      | nil => exact absurd rfl hl
      | cons _ _ => simp
    rw [decide_eq_true this, decide_eq_true (Nat.zero_le _)]
  by_cases hx0 : x = []
  · subst hx0
    refine Ev.pos (by kernel_rfl) ?_
    cases b with
    | true =>
      refine Ev.succ ?_
      simp only [fleuronref01_Decimal.j0]
      refine Ev.neg (by decide) (Ev.to (tail 0 (by omega) (by omega)) ?_)
      rw [if_neg (by omega), if_pos rfl, if_pos trivial]
      have d0 : digs [] 0 9 = true := by decide
      rw [d0, Bool.true_and]
      by_cases hy1 : digs y 1 5 = true
      · have : ¬ wholeV y 5 < 0 := fun h => (wneg y 5 (by omega)).mp h hy1
        rw [if_neg this, if_pos hy1, wpos y 5 hy1, Int.zero_mul, Int.zero_add, List.nil_append]
      · rw [if_pos ((wneg y 5 (by omega)).mpr hy1), if_neg hy1]
    | false =>
      refine Ev.to front ?_
      rw [if_pos ((wneg [] 9 (by omega)).mpr (by decide))]
      exact (if_neg (by rw [if_neg (by decide)]; decide)).symm
  · refine Ev.neg (by rw [tl_data]; exact hx0) (Ev.to front ?_)
    by_cases hd : digs x 1 9 = true
    · have hn : ¬ wholeV x 9 < 0 := fun h => (wneg x 9 (by omega)).mp h hd
      rw [if_neg hn, wpos x 9 hd]
      cases b with
      | true =>
        rw [if_pos rfl, if_pos rfl, d01 x hx0, hd, Bool.true_and]
        by_cases hy1 : digs y 1 5 = true
        · have : ¬ wholeV y 5 < 0 := fun h => (wneg y 5 (by omega)).mp h hy1
          rw [if_neg this, if_pos hy1, wpos y 5 hy1, digVal_app]
        · rw [if_pos ((wneg y 5 (by omega)).mpr hy1), if_neg hy1]
      | false =>
        rw [if_neg (by decide), htail rfl, List.append_nil]
        exact (if_pos (by rw [if_neg (by decide)]; exact hd)).symm
    · rw [if_pos ((wneg x 9 (by omega)).mpr hd)]
      cases b with
      | true => exact (if_neg (by rw [if_pos rfl, d01 x hx0, Bool.eq_false_iff.mpr hd, Bool.false_and]; decide)).symm
      | false => exact (if_neg (by rw [if_neg (by decide)]; exact hd)).symm
theorem NumTexts_pure (a b : Int) (s : ByteArray) (ha : (Lit.int .i64 a).wf = true) (hb : (Lit.int .i64 b).wf = true) (hs : s.size ≤ 140737488351232) : ∃ k, fleuronlaw01_NumTexts.f k a b s = some true := by
  have ia := I64_of ha
  have ib := I64_of hb
  refine Ev.here ?_
  unfold fleuronlaw01_NumTexts.f
  by_cases hl : (s.size : Int) > 10000
  · exact Ev.pos hl (Ev.bind awake_ev (Ev.const rfl))
  have hz : s.size ≤ 1000000 := by omega
  refine Ev.neg hl (Ev.bind (Text_ev ia ib) (Ev.bind (RText_ev ia ib) (Ev.bind (Parse_ev hz) (Ev.bind (RParse_ev hz) (Ev.bind (Decimal_ev hz) (Ev.bind (RDecimal_ev hz) ?_))))))
  exact Ev.pos rfl (Ev.pos rfl (Ev.pos (by simp) (Ev.pos rfl (Ev.pos (by simp) (Ev.pos rfl (Ev.bind awake_ev (Ev.const rfl)))))))
end Go.Proofs.YtndbdnkpnjibkaaDoor.P
