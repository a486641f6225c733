import Derived.Test.YtilamkcpbibnmaaGreatDoorZRef
import Derived.Test.YtilamkcpbibnmaaGreatDoorZPxfleuronref01Add
import Derived.Test.YtilamkcpbibnmaaGreatDoorZPxfleuronref01Near
import Derived.Test.YtilamkcpbibnmaaGreatDoorZPxfleuronref01exact
import Derived.Test.YtilamkcpbibnmaaGreatDoorZPxrationalNear
namespace Go.Proofs.YtilamkcpbibnmaaGreatDoor.P
open Go.RowKit Go.Proofs.YtilamkcpbibnmaaGreatDoorW.PrintWords Go.Proofs.YtilamkcpbibnmaaGreatDoorW.PrintLast Go.Proofs.YtilamkcpbibnmaaGreatDoorW.PrintMore
set_option linter.unusedVariables false
theorem I64_of {x : Int} (h : (Lit.int .i64 x).wf = true) : I64 x := by
  have e1 : IntKind.i64.min = -9223372036854775808 := rfl
  have e2 : IntKind.i64.max = 9223372036854775807 := rfl
  simp [Lit.wf, e1, e2] at h
  exact h
def outv (near : Bool) (r : Rat) : Int × Int × Int := if near = true then nearv r else exr r
def doV (op : ByteArray) (near : Bool) (a b c d : Int) : Int × Int × Int :=
  if (vB a b && vB c d) = true then
    if op.toList = [43] then outv near (Rat.divInt (a * d + c * b) (b * d))
    else if op.toList = [45] then outv near (Rat.divInt (a * d - c * b) (b * d))
    else if op.toList = [42] then outv near (Rat.divInt (a * c) (b * d))
    else if op.toList = [47] then (if c = 0 then (0, 0, 18) else outv near (Rat.divInt (a * d) (b * c)))
    else (0, 0, 2)
  else (0, 0, 2)
theorem mul_small {x y : Int} (hx : -2147483647 ≤ x ∧ x ≤ 2147483647) (hy : -2147483647 ≤ y ∧ y ≤ 2147483647) : -4611686014132420609 ≤ x * y ∧ x * y ≤ 4611686014132420609 := by
  have h : (x * y).natAbs ≤ 2147483647 * 2147483647 := by
    rw [Int.natAbs_mul]; exact Nat.mul_le_mul (by omega) (by omega)
  omega
theorem vB_b {a b : Int} (h : vB a b = true) : (-2147483647 ≤ a ∧ a ≤ 2147483647) ∧ (-2147483647 ≤ b ∧ b ≤ 2147483647) ∧ 1 ≤ b := by
  obtain ⟨h1, h2, h3, h4, h5⟩ := of_decide_eq_true h
  omega
theorem out_ev {near : Bool} {p q : Int} (hp : -9223372036854775807 ≤ p ∧ p ≤ 9223372036854775807) (hq : -4611686014132420609 ≤ q ∧ q ≤ 4611686014132420609) (h0 : q ≠ 0) :
    Ev (fun k => (if near = true then ((rational_Near.f k p q).bind fun bt158 => (some (bt158.1, bt158.2.1, bt158.2.2))) else ((rational_Exact.f k p q).bind fun bt161 => (some (bt161.1, bt161.2.1, bt161.2.2))))) (outv near (Rat.divInt p q)) := by
  unfold outv
  by_cases hn : near = true
  · rw [if_pos hn]; exact Ev.pos hn (Ev.bind (Near_ev hp (by omega) h0) (Ev.const rfl))
  · rw [if_neg hn]; exact Ev.neg hn (Ev.bind (Exact_ev (by unfold I64; omega) (by unfold I64; omega) h0) (Ev.const rfl))
theorem do_ev {op : ByteArray} {near : Bool} {a b c d : Int} (ha : I64 a) (hb : I64 b) (hc : I64 c) (hd : I64 d) : Ev (fun k => num_do.f k op a b c d near) (doV op near a b c d) := by
  unfold num_do.f doV
  refine Ev.bind (valid2_ev ha hb hc hd) ?_
  by_cases hv : (vB a b && vB c d) = true
  rotate_left
  · rw [if_neg hv]; exact Ev.neg hv (Ev.const rfl)
  rw [if_pos hv]
  refine Ev.pos hv ?_
  simp only [Bool.and_eq_true] at hv
  obtain ⟨a1, b1, b2⟩ := vB_b hv.1
  obtain ⟨c1, d1, d2⟩ := vB_b hv.2
  have m1 := mul_small a1 d1
  have m2 := mul_small c1 b1
  have m3 := mul_small b1 d1
  have m4 := mul_small a1 c1
  have m5 := mul_small b1 c1
  have z3 : b * d ≠ 0 := Int.mul_ne_zero (by omega) (by omega)
  have w : ∀ x : Int, -4611686014132420609 ≤ x ∧ x ≤ 4611686014132420609 → wrap64 x = x := fun x h => w64_id (by omega) (by omega)
  by_cases h1 : op.toList = [43]
  · rw [if_pos h1]
    have e : num_quotient.f op a b c d = some (a * d + c * b, b * d, true) := by
      unfold num_quotient.f; rw [if_pos h1, w _ m1, w _ m2, w _ m3, w64_id (by omega) (by omega)]
    refine Ev.bind (Ev.const e) (Ev.pos rfl (Ev.neg z3 ?_))
    exact out_ev (by omega) m3 z3
  rw [if_neg h1]
  by_cases h2 : op.toList = [45]
  · rw [if_pos h2]
    have e : num_quotient.f op a b c d = some (a * d - c * b, b * d, true) := by
      unfold num_quotient.f; rw [if_neg h1, if_pos h2, w _ m1, w _ m2, w _ m3, w64_id (by omega) (by omega)]
    refine Ev.bind (Ev.const e) (Ev.pos rfl (Ev.neg z3 ?_))
    exact out_ev (by omega) m3 z3
  rw [if_neg h2]
  by_cases h3 : op.toList = [42]
  · rw [if_pos h3]
    have e : num_quotient.f op a b c d = some (a * c, b * d, true) := by
      unfold num_quotient.f; rw [if_neg h1, if_neg h2, if_pos h3, w _ m4, w _ m3]
    refine Ev.bind (Ev.const e) (Ev.pos rfl (Ev.neg z3 ?_))
    exact out_ev (by omega) m3 z3
  rw [if_neg h3]
  by_cases h4 : op.toList = [47]
  · rw [if_pos h4]
    have e : num_quotient.f op a b c d = some (a * d, b * c, true) := by
      unfold num_quotient.f; rw [if_neg h1, if_neg h2, if_neg h3, if_pos h4, w _ m1, w _ m5]
    refine Ev.bind (Ev.const e) (Ev.pos rfl ?_)
    by_cases z : c = 0
    · rw [if_pos z]; exact Ev.pos (by rw [z, Int.mul_zero]) (Ev.const rfl)
    · have z5 : b * c ≠ 0 := Int.mul_ne_zero (by omega) z
      rw [if_neg z]; exact Ev.neg z5 (out_ev (by omega) m5 z5)
  · rw [if_neg h4]
    have e : num_quotient.f op a b c d = some (0, 0, false) := by
      unfold num_quotient.f; rw [if_neg h1, if_neg h2, if_neg h3, if_neg h4]
    exact Ev.bind (Ev.const e) (Ev.neg (by decide) (Ev.const rfl))
theorem down_eq {p q : Int} (hp : I64 p) (hq0 : 0 < q) (hq : q ≤ 9223372036854775807) : fleuronref01_down.f p q = some (p / q, p % q) := by
  have h := r_Floor p q hq0 hp.1 hp.2 hq
  exact h
theorem fixed_loop {q : Int} (hq0 : 0 < q) (hq1 : q < 4611686018427387904) : ∀ (m : Nat) (a r : Int), m ≤ 16 → 0 ≤ r → r < q → a.natAbs + 1 ≤ 2 ^ (49 - m) →
    Ev (fun k => fleuronref01_fixed.l0 k q a r ((16 - m : Nat) : Int)) ((2 * (2 ^ m * (a * q + r)) + q) / (2 * q), true) := by
  intro m
  induction m with
  | zero =>
    intro a r _ h0 h1 hb
    have hb' : a.natAbs + 1 ≤ 562949953421312 := hb
    refine Ev.succ ?_
    simp only [fleuronref01_fixed.l0]
    refine Ev.neg (by omega) ?_
    rw [u64_id (x := 2 * r) (by omega) (by omega), u64_id (x := q) (by omega) (by omega)]
    have e : (2 * (2 ^ 0 * (a * q + r)) + q) / (2 * q) = a + (2 * r + q) / (2 * q) := by
      have : 2 * (2 ^ 0 * (a * q + r)) + q = (2 * r + q) + 2 * q * a := by
        rw [Int.pow_zero, Int.one_mul, Int.mul_assoc 2 q a, Int.mul_comm q a]; omega
      rw [this, Int.add_mul_ediv_left _ _ (by omega), Int.add_comm]
    rw [e]
    by_cases h : 2 * r ≥ q
    · refine Ev.pos h (Ev.const ?_)
      rw [w64_id (by omega) (by omega)]
      have : (2 * r + q) / (2 * q) = 1 := by
        have : 2 * r + q = (2 * r - q) + 2 * q * 1 := by omega
        rw [this, Int.add_mul_ediv_left _ _ (by omega), Int.ediv_eq_zero_of_lt (by omega) (by omega)]; rfl
      rw [this]
    · refine Ev.neg h (Ev.const ?_)
      rw [Int.ediv_eq_zero_of_lt (by omega) (by omega), Int.add_zero]
  | succ m ih =>
    intro a r hm h0 h1 hb
    have hpow : (2 : Nat) ^ (49 - m) = 2 * 2 ^ (49 - (m + 1)) := by
      rw [show 49 - m = (49 - (m + 1)) + 1 by omega, Nat.pow_succ, Nat.mul_comm]
    have hpow2 : (2 : Nat) ^ (49 - (m + 1)) ≤ 2 ^ 49 := Nat.pow_le_pow_right (by omega) (by omega)
    have e49 : (2 : Nat) ^ 49 = 562949953421312 := by decide
    rw [e49] at hpow2
    have hp : (2 : Int) ^ (m + 1) * (a * q + r) = 2 ^ m * (2 * (a * q + r)) := by rw [Int.pow_succ, Int.mul_assoc]
    rw [hp]
    refine Ev.succ ?_
    simp only [fleuronref01_fixed.l0]
    refine Ev.pos (by omega) ?_
    rw [u64_id (x := q) (by omega) (by omega), u64_id (x := r * 2) (by omega) (by omega), w64_id (x := ((16 - (m + 1) : Nat) : Int) + 1) (by omega) (by omega), show ((16 - (m + 1) : Nat) : Int) + 1 = ((16 - m : Nat) : Int) by omega]
    rw [w64_id (x := a * 2) (by omega) (by omega), w64_id (x := a * 2 + 1) (by omega) (by omega)]
    by_cases h : r * 2 ≥ q
    · refine Ev.pos h ?_
      rw [u64_id (x := r * 2 - q) (by omega) (by omega)]
      have := ih (a * 2 + 1) (r * 2 - q) (by omega) (by omega) (by omega) (by omega)
      rw [show (a * 2 + 1) * q + (r * 2 - q) = 2 * (a * q + r) by rw [Int.add_mul, Int.mul_right_comm]; omega] at this
      exact this
    · refine Ev.neg h ?_
      have := ih (a * 2) (r * 2) (by omega) (by omega) (by omega) (by omega)
      rw [show (a * 2) * q + (r * 2) = 2 * (a * q + r) by rw [Int.mul_right_comm]; omega] at this
      exact this
theorem fixed_ev {p q : Int} (hp : I64 p) (hq0 : 0 < q) (hq1 : q < 4611686018427387904) :
    Ev (fun k => fleuronref01_fixed.f k p q) (if p / q > 4294967294 ∨ p / q < -4294967294 then (0, false) else ((131072 * p + q) / (2 * q), true)) := by
  unfold fleuronref01_fixed.f
  refine Ev.bind (Ev.const (down_eq hp hq0 (by omega))) ?_
  show Ev (fun k => if p / q > 4294967294 then fleuronref01_fixed.j0 k q (p / q) (p % q) true else fleuronref01_fixed.j0 k q (p / q) (p % q) (decide (p / q < -4294967294))) _
  have m1 := Int.emod_nonneg p (show q ≠ 0 by omega)
  have m2 := Int.emod_lt_of_pos p hq0
  by_cases h1 : p / q > 4294967294
  · rw [if_pos (Or.inl h1)]
    refine Ev.pos h1 (Ev.succ ?_)
    simp only [fleuronref01_fixed.j0]
    exact Ev.pos trivial (Ev.const rfl)
  refine Ev.neg h1 (Ev.succ ?_)
  simp only [fleuronref01_fixed.j0]
  by_cases h2 : p / q < -4294967294
  · rw [if_pos (Or.inr h2)]
    exact Ev.pos (decide_eq_true h2) (Ev.const rfl)
  rw [if_neg (by omega)]
  refine Ev.neg (by simp only [decide_eq_true_eq]; exact h2) ?_
  rw [u64_id (x := p % q) (by omega) (by omega)]
  have := fixed_loop hq0 hq1 16 (p / q) (p % q) (by omega) m1 m2 (by show _ ≤ 2 ^ 33; rw [show (2 : Nat) ^ 33 = 8589934592 by decide]; omega)
  rw [Int.mul_comm (p / q) q, Int.mul_ediv_add_emod, show (2 : Int) * (2 ^ 16 * p) = 131072 * p by omega] at this
  exact this
theorem both_ev {a b c d : Int} (ha : I64 a) (hb : I64 b) (hc : I64 c) (hd : I64 d) : Ev (fun k => fleuronref01_both.f k a b c d) (vB a b && vB c d) := by
  unfold fleuronref01_both.f
  refine Ev.bind (RValid_ev ha hb) ?_
  cases h : vB a b with
  | true => exact Ev.pos rfl (Ev.bind (RValid_ev hc hd) (Ev.const (by simp)))
  | false => exact Ev.neg (by decide) (Ev.const rfl)
end Go.Proofs.YtilamkcpbibnmaaGreatDoor.P
