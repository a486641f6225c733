import Derived.Test.YtilamkcpbibnmaaGreatDoorZDo
namespace Go.Proofs.YtilamkcpbibnmaaGreatDoor.P
open Go.RowKit Go.Proofs.YtilamkcpbibnmaaGreatDoorW.PrintWords Go.Proofs.YtilamkcpbibnmaaGreatDoorW.PrintLast Go.Proofs.YtilamkcpbibnmaaGreatDoorW.PrintMore
set_option linter.unusedVariables false
theorem Near_near_ev {a b c d : Int} (ha : I64 a) (hb : I64 b) (hc : I64 c) (hd : I64 d) {op : ByteArray} : Ev (fun k => num_Near.f k op a b c d) (doV op true a b c d) := Ev.bind (do_ev ha hb hc hd) (Ev.const rfl)
theorem rexact_ev {a b c d : Int} {op : ByteArray} (ho : op.toList = [43] ∨ op.toList = [45] ∨ op.toList = [42] ∨ op.toList = [47]) (hv : (vB a b && vB c d) = true) (h0 : op.toList = [47] → c ≠ 0) :
    ∃ P Q : Int, fleuronref01_exact.f op a b c d = some (P, Q) ∧ (-9223372036854775807 ≤ P ∧ P ≤ 9223372036854775807) ∧ 0 < Q ∧ Q ≤ 4611686014132420609 ∧ ∀ near, doV op near a b c d = outv near (Rat.divInt P Q) := by
  simp only [Bool.and_eq_true] at hv
  obtain ⟨a1, b1, b2⟩ := vB_b hv.1
  obtain ⟨c1, d1, d2⟩ := vB_b hv.2
  have m1 := mul_small a1 d1
  have m2 := mul_small c1 b1
  have m3 := mul_small b1 d1
  have m4 := mul_small a1 c1
  have m5 := mul_small b1 c1
  have p3 : 0 < b * d := Int.mul_pos (by omega) (by omega)
  have w : ∀ x : Int, -4611686014132420609 ≤ x ∧ x ≤ 4611686014132420609 → wrap64 x = x := fun x h => w64_id (by omega) (by omega)
  have hv' : (vB a b && vB c d) = true := by rw [hv.1, hv.2]; rfl
  unfold fleuronref01_exact.f doV
  by_cases h1 : op.toList = [43]
  · refine ⟨a * d + c * b, b * d, ?_, by omega, p3, by omega, fun near => ?_⟩
    · rw [if_pos h1, w _ m1, w _ m2, w _ m3, w64_id (by omega) (by omega)]
    · rw [if_pos hv', if_pos h1]
  by_cases h2 : op.toList = [45]
  · refine ⟨a * d - c * b, b * d, ?_, by omega, p3, by omega, fun near => ?_⟩
    · rw [if_neg h1, if_pos h2, w _ m1, w _ m2, w _ m3, w64_id (by omega) (by omega)]
    · rw [if_pos hv', if_neg h1, if_pos h2]
  by_cases h3 : op.toList = [42]
  · refine ⟨a * c, b * d, ?_, by omega, p3, by omega, fun near => ?_⟩
    · rw [if_neg h1, if_neg h2, if_pos h3, w _ m4, w _ m3]
    · rw [if_pos hv', if_neg h1, if_neg h2, if_pos h3]
  have h4 : op.toList = [47] := by rcases ho with h | h | h | h <;> first | exact absurd h ‹_› | exact h
  have hc0 := h0 h4
  by_cases hneg : c < 0
  · have m6 := mul_small (x := -a) (by omega) d1
    have m7 := mul_small (x := -b) (by omega) c1
    refine ⟨-a * d, -b * c, ?_, by omega, ?_, by omega, fun near => ?_⟩
    · rw [if_neg h1, if_neg h2, if_neg h3, if_pos hneg, w64_id (x := -a) (by omega) (by omega), w64_id (x := -b) (by omega) (by omega), w _ m6, w _ m7]
    · rw [show -b * c = b * -c by rw [Int.neg_mul, Int.mul_neg]]; exact Int.mul_pos (by omega) (by omega)
    · rw [if_pos hv', if_neg h1, if_neg h2, if_neg h3, if_pos h4, if_neg hc0, Int.neg_mul, Int.neg_mul, Rat.neg_divInt_neg]
  · refine ⟨a * d, b * c, ?_, by omega, Int.mul_pos (by omega) (by omega), by omega, fun near => ?_⟩
    · rw [if_neg h1, if_neg h2, if_neg h3, if_neg hneg, w _ m1, w _ m5]
    · rw [if_pos hv', if_neg h1, if_neg h2, if_neg h3, if_pos h4, if_neg hc0]
theorem result_ev {a b c d : Int} (ha : I64 a) (hb : I64 b) (hc : I64 c) (hd : I64 d) {op : ByteArray} (ho : op.toList = [43] ∨ op.toList = [45] ∨ op.toList = [42] ∨ op.toList = [47]) : Ev (fun k => fleuronref01_result.f k op a b c d) (doV op false a b c d) := by
  unfold fleuronref01_result.f
  refine Ev.bind (both_ev ha hb hc hd) ?_
  by_cases hv : (vB a b && vB c d) = true
  rotate_left
  · unfold doV; rw [if_neg hv]; exact Ev.neg hv (Ev.const rfl)
  refine Ev.pos hv ?_
  have rest : (op.toList = [47] → c ≠ 0) → Ev (fun k => fleuronref01_result.j0 k op false a b c d) (doV op false a b c d) := by
    intro h0
    obtain ⟨P, Q, e, hP, hQ, hQ1, hr⟩ := rexact_ev ho hv h0
    refine Ev.succ ?_
    simp only [fleuronref01_result.j0]
    refine Ev.neg (by decide) (Ev.bind (Ev.const e) (Ev.bind (RMake_ev (p := P) (q := Q) (by unfold I64; omega) (by unfold I64; omega)) (Ev.const ?_)))
    rw [if_neg (by omega), hr false]
    rfl
  by_cases h4 : op.toList = [47]
  · refine Ev.pos h4 ?_
    by_cases hz : c = 0
    · rw [show (c == 0) = true from beq_iff_eq.mpr hz]
      refine Ev.succ ?_
      simp only [fleuronref01_result.j0]
      refine Ev.pos trivial (Ev.const ?_)
      unfold doV; rw [if_pos hv, h4, if_neg (by decide), if_neg (by decide), if_neg (by decide), if_pos rfl, if_pos hz]
    · rw [show (c == 0) = false from beq_eq_false_iff_ne.mpr hz]; exact rest (fun _ => hz)
  · exact Ev.neg h4 (rest (fun h => absurd h h4))
theorem RNear_ev {a b c d : Int} (ha : I64 a) (hb : I64 b) (hc : I64 c) (hd : I64 d) {op : ByteArray} : Ev (fun k => fleuronref01_Near.f k op a b c d) (doV op true a b c d) := by
  have rest : op.toList = [43] ∨ op.toList = [45] ∨ op.toList = [42] ∨ op.toList = [47] → Ev (fun k => fleuronref01_Near.j0 k op false a b c d) (doV op true a b c d) := by
    intro ho
    refine Ev.succ ?_
    simp only [fleuronref01_Near.j0]
    refine Ev.neg (by decide) (Ev.bind (result_ev ha hb hc hd ho) ?_)
    by_cases hv : (vB a b && vB c d) = true
    rotate_left
    · have e : ∀ near, doV op near a b c d = (0, 0, 2) := fun near => by unfold doV; rw [if_neg hv]
      rw [e false, e true]; exact Ev.neg (by decide) (Ev.const rfl)
    by_cases hz : op.toList = [47] ∧ c = 0
    · have e : ∀ near, doV op near a b c d = (0, 0, 18) := fun near => by
        unfold doV; rw [if_pos hv, hz.1, if_neg (by decide), if_neg (by decide), if_neg (by decide), if_pos rfl, if_pos hz.2]
      rw [e false, e true]; exact Ev.neg (by decide) (Ev.const rfl)
    obtain ⟨P, Q, e, hP, hQ, hQ1, hr⟩ := rexact_ev ho hv (fun h hc0 => hz ⟨h, hc0⟩)
    rw [hr false, hr true, show outv false (Rat.divInt P Q) = exr (Rat.divInt P Q) from rfl, show outv true (Rat.divInt P Q) = nearv (Rat.divInt P Q) from rfl]
    unfold nearv
    by_cases hs : small (Rat.divInt P Q)
    · rw [exr_pos hs, if_pos hs]; exact Ev.neg (by show ¬ (0 : Int) = 17; decide) (Ev.const rfl)
    rw [exr_neg hs, if_neg hs]
    refine Ev.pos rfl (Ev.bind (Ev.const e) (Ev.bind (fixed_ev (p := P) (q := Q) (by unfold I64; omega) hQ (by omega)) ?_))
    rw [← fix_scale hQ]
    obtain ⟨A, hA⟩ : ∃ A : Int, P / Q = A := ⟨_, rfl⟩
    obtain ⟨R, hR⟩ : ∃ R : Int, P % Q = R := ⟨_, rfl⟩
    have e' := Int.mul_ediv_add_emod P Q
    have m1 := Int.emod_nonneg P (show Q ≠ 0 by omega)
    have m2 := Int.emod_lt_of_pos P hQ
    rw [hA, hR] at e'
    rw [hR] at m1 m2
    rw [hA]
    have hdiv : (131072 * P + Q) / (2 * Q) = 65536 * A + (131072 * R + Q) / (2 * Q) := by
      have k1 : 2 * Q * (65536 * A) = 131072 * (Q * A) := by rw [Int.mul_assoc, Int.mul_left_comm Q]; omega
      have k2 : 131072 * P + Q = (131072 * R + Q) + 2 * Q * (65536 * A) := by rw [k1, ← e', Int.mul_add]; omega
      rw [k2, Int.add_mul_ediv_left _ _ (by omega), Int.add_comm]
    obtain ⟨n, hn⟩ : ∃ n : Int, (131072 * R + Q) / (2 * Q) = n := ⟨_, rfl⟩
    have hn0 : 0 ≤ n := by rw [← hn]; exact Int.ediv_nonneg (by omega) (by omega)
    have hn1 : n ≤ 65537 := by
      have : n < 65538 := by rw [← hn]; exact Int.ediv_lt_of_lt_mul (by omega) (by omega)
      omega
    rw [hn] at hdiv
    by_cases hbig : A > 4294967294 ∨ A < -4294967294
    · rw [if_pos hbig, hdiv, exr_neg (not_small_of (by omega))]
      exact Ev.neg (by decide) (Ev.const rfl)
    · rw [if_neg hbig, hdiv]
      refine Ev.pos rfl (Ev.bind (RMake_ev (p := 65536 * A + n) (q := 65536) (by unfold I64; omega) (by unfold I64; omega)) (Ev.const ?_))
      rw [if_neg (by decide)]
  unfold fleuronref01_Near.f
  by_cases h1 : op.toList = [43]
  · exact Ev.pos h1 (rest (Or.inl h1))
  by_cases h2 : op.toList = [45]
  · exact Ev.neg h1 (Ev.pos h2 (rest (Or.inr (Or.inl h2))))
  by_cases h3 : op.toList = [42]
  · exact Ev.neg h1 (Ev.neg h2 (Ev.pos h3 (rest (Or.inr (Or.inr (Or.inl h3))))))
  refine Ev.neg h1 (Ev.neg h2 (Ev.neg h3 ?_))
  by_cases h4 : op.toList = [47]
  · rw [show (op.toList != [47]) = false by rw [h4]; rfl]
    exact rest (Or.inr (Or.inr (Or.inr h4)))
  · rw [show (op.toList != [47]) = true from bne_iff_ne.mpr h4]
    refine Ev.succ ?_
    simp only [fleuronref01_Near.j0]
    refine Ev.pos trivial (Ev.const ?_)
    unfold doV
    rw [if_neg h1, if_neg h2, if_neg h3, if_neg h4, ite_self]
end Go.Proofs.YtilamkcpbibnmaaGreatDoor.P
