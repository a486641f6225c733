/- The plain law of NumOrder. -/
import Derived.Test.YtndbdnkpnjibkaaDoorOrd
import Derived.Test.YtndbdnkpnjibkaaDoorPxnumDecimal
import Derived.Test.YtndbdnkpnjibkaaDoorPxfleuronlaw01NumOrder
import Derived.Test.YtndbdnkpnjibkaaDoorPxfleuronlaw01sum
namespace Go.Proofs.YtndbdnkpnjibkaaDoor.P
open Go.RowKit Go.Proofs.YtndbdnkpnjibkaaDoorW.PrintWords Go.Proofs.YtndbdnkpnjibkaaDoorW.PrintLast Go.Proofs.YtndbdnkpnjibkaaDoorW.PrintMore
set_option linter.unusedVariables false
/-- The remainder that has the divisor's sign. -/
def fmodV (t u : Int) : Int := if u < 0 then -((-t) % (-u)) else t % u
def modV (a b c d : Int) : Int × Int × Int := if (vB a b && vB c d) = true then (if c = 0 then (0, 0, 18) else exr (Rat.divInt (fmodV (a * d) (c * b)) (b * d))) else (0, 0, 2)
theorem fmod_b {t u : Int} (hu : u ≠ 0) : -(u.natAbs : Int) ≤ fmodV t u ∧ fmodV t u ≤ u.natAbs := by
  unfold fmodV
  by_cases h : u < 0
  · rw [if_pos h]
    have m1 := Int.emod_nonneg (-t) (show -u ≠ 0 by omega)
    have m2 := Int.emod_lt_of_pos (-t) (show 0 < -u by omega)
    omega
  · rw [if_neg h]
    have m1 := Int.emod_nonneg t hu
    have m2 := Int.emod_lt_of_pos t (show 0 < u by omega)
    omega
/-- The program's way to it: the machine's remainder, turned where its sign is the other. -/
theorem left_fmod {t u : Int} (hu : u ≠ 0) : fmodV t u = if Int.tmod t u = 0 then Int.tmod t u else if (decide (Int.tmod t u < 0) != decide (u < 0)) = true then Int.tmod t u + u else Int.tmod t u := by
  have e := Int.mul_tdiv_add_tmod t u
  obtain ⟨D, hD⟩ : ∃ D : Int, Int.tdiv t u = D := ⟨_, rfl⟩
  obtain ⟨M, hM⟩ : ∃ M : Int, Int.tmod t u = M := ⟨_, rfl⟩
  have hlt : M.natAbs < u.natAbs := by rw [← hM, Int.natAbs_tmod]; exact Nat.mod_lt _ (by omega)
  rw [hD, hM] at e
  rw [hM]
  unfold fmodV
  have key : ∀ {x y m k : Int}, 0 ≤ m → m < y → x = y * k + m → x % y = m := by
    intro x y m k h0 h1 h2
    rw [h2, Int.add_comm, Int.add_mul_emod_self_left, Int.emod_eq_of_lt h0 h1]
  by_cases hn : u < 0
  · rw [if_pos hn]
    by_cases h0 : M = 0
    · rw [if_pos h0, key (m := 0) (k := D) (by omega) (by omega) (by rw [Int.neg_mul]; omega)]; omega
    rw [if_neg h0]
    by_cases hm : M < 0
    · rw [if_neg (by simp [hm, hn]), key (m := -M) (k := D) (by omega) (by omega) (by rw [Int.neg_mul]; omega)]; omega
    · rw [if_pos (by simp [hn]; omega), key (m := -(M + u)) (k := D - 1) (by omega) (by omega) (by rw [Int.neg_mul, Int.mul_sub]; omega)]; omega
  · rw [if_neg hn]
    by_cases h0 : M = 0
    · rw [if_pos h0, key (m := 0) (k := D) (by omega) (by omega) (by omega)]; omega
    rw [if_neg h0]
    by_cases hm : M < 0
    · rw [if_pos (by simp [hm]; omega), key (m := M + u) (k := D - 1) (by omega) (by omega) (by rw [Int.mul_sub]; omega)]
    · rw [if_neg (by simp; omega), key (m := M) (k := D) (by omega) (by omega) (by omega)]
theorem Mod_ev {a b c d : Int} (ha : I64 a) (hb : I64 b) (hc : I64 c) (hd : I64 d) : Ev (fun k => num_Mod.f k a b c d) (modV a b c d) := by
  unfold num_Mod.f modV
  by_cases hv : (vB a b && vB c d) = true
  rotate_left
  · have hL : Ev (fun k => num_Left.f k a b c d) (0, 0, 2) := by
      unfold num_Left.f
      exact Ev.bind (valid2_ev ha hb hc hd) (Ev.neg hv (Ev.const rfl))
    exact Ev.to (Ev.bind hL (Ev.neg (by show ¬ (2 : Int) = 0; decide) (Ev.const rfl))) (if_neg hv).symm
  refine Ev.to ?_ (if_pos hv).symm
  have hv' := hv
  simp only [Bool.and_eq_true] at hv
  obtain ⟨a1, b1, b2⟩ := vB_b hv.1
  obtain ⟨c1, d1, d2⟩ := vB_b hv.2
  have m1 := mul_small a1 d1
  have m2 := mul_small c1 b1
  have m3 := mul_small b1 d1
  have p3 : 0 < b * d := Int.mul_pos (by omega) (by omega)
  by_cases hz : c = 0
  · have hL : Ev (fun k => num_Left.f k a b c d) (0, 0, 18) := by
      unfold num_Left.f
      exact Ev.bind (valid2_ev ha hb hc hd) (Ev.pos hv' (Ev.pos hz (Ev.const rfl)))
    exact Ev.to (Ev.bind hL (Ev.neg (by show ¬ (18 : Int) = 0; decide) (Ev.const rfl))) (if_pos hz).symm
  refine Ev.to ?_ (if_neg hz).symm
  have hu : c * b ≠ 0 := Int.mul_ne_zero hz (by omega)
  have hb' := fmod_b (t := a * d) hu
  have hL : Ev (fun k => num_Left.f k a b c d) (fmodV (a * d) (c * b), b * d, 0) := by
    unfold num_Left.f
    refine Ev.bind (valid2_ev ha hb hc hd) (Ev.pos hv' (Ev.neg hz ?_))
    rw [w64_id (x := a * d) (by omega) (by omega), w64_id (x := c * b) (by omega) (by omega), w64_id (x := b * d) (by omega) (by omega)]
    refine Ev.neg hu ?_
    have hf := left_fmod (t := a * d) hu
    by_cases h0 : Int.tmod (a * d) (c * b) = 0
    · rw [if_pos h0] at hf; rw [hf]; exact Ev.pos h0 (Ev.const rfl)
    rw [if_neg h0] at hf
    refine Ev.neg h0 ?_
    by_cases hs : (decide (Int.tmod (a * d) (c * b) < 0) != decide (c * b < 0)) = true
    · rw [if_pos hs] at hf; rw [← hf, w64_id (by omega) (by omega)]; exact Ev.pos hs (Ev.const rfl)
    · rw [if_neg hs] at hf; rw [hf]; exact Ev.neg hs (Ev.const rfl)
  refine Ev.bind hL (Ev.pos rfl (Ev.bind (Exact_ev (p := fmodV (a * d) (c * b)) (q := b * d) (by unfold I64; omega) (by unfold I64; omega) (by omega)) (Ev.const rfl)))
theorem sum_ev {r s : Rat} (hr : small r) (hs : small s) : Ev (fun k => fleuronlaw01_sum.f k r.num r.den s.num s.den) ((exr (r + s)).1, (exr (r + s)).2.1, decide (small (r + s))) := by
  have ir := vB_I64 (small_vB hr)
  have is := vB_I64 (small_vB hs)
  unfold fleuronlaw01_sum.f
  refine Ev.bind (Ev.to (Add_ev ir.1 ir.2 is.1 is.2) (doV_add hr hs false)) (Ev.const ?_)
  show some ((exr (r + s)).1, (exr (r + s)).2.1, (exr (r + s)).2.2 == 0) = _
  by_cases h : small (r + s)
  · rw [exr_pos h, decide_eq_true h]; rfl
  · rw [exr_neg h, decide_eq_false h]; rfl
theorem cmp_ev {r s : Rat} (hr : small r) (hs : small s) : Ev (fun k => num_Cmp.f k r.num r.den s.num s.den) (cmpR r s, 0) := by
  have ir := vB_I64 (small_vB hr)
  have is := vB_I64 (small_vB hs)
  exact Ev.to (Cmp_ev ir.1 ir.2 is.1 is.2) (cmpV_R hr hs)
/-- A remainder of rationals, by its whole numbers. -/
theorem mod_in {r s : Rat} (hs : s ≠ 0) (m : Rat) (hm : m = Rat.divInt (fmodV (r.num * s.den) (s.num * r.den)) (r.den * s.den)) :
    (0 < s.num → ¬ cmpR m 0 < 0 ∧ ¬ cmpR m s ≥ 0) ∧ (s.num < 0 → ¬ cmpR m 0 > 0 ∧ ¬ cmpR m s ≤ 0) := by
  have hd : 0 < (r.den : Int) * s.den := Int.mul_pos (den_gt r) (den_gt s)
  have e0 : (0 : Rat) = Rat.divInt 0 (r.den * s.den) := by rw [Rat.zero_divInt]
  have es : s = Rat.divInt (s.num * r.den) (r.den * s.den) := by
    rw [Int.mul_comm (r.den : Int) s.den, Rat.divInt_mul_right (den_ne r), rat_divInt]
  have le : ∀ a b : Int, Rat.divInt a (r.den * s.den) ≤ Rat.divInt b (r.den * s.den) ↔ a ≤ b := by
    intro a b
    have hd0 : (r.den : Int) * s.den ≠ 0 := by omega
    rw [Rat.le_iff_sub_nonneg, Rat.divInt_sub_divInt _ _ hd0 hd0, Rat.divInt_nonneg_iff_of_pos_right (Int.mul_pos hd hd), ← Int.sub_mul]
    constructor
    · intro h
      by_cases h2 : b < a
      · have := Int.mul_neg_of_neg_of_pos (show b - a < 0 by omega) hd; omega
      · omega
    · intro h; exact Int.mul_nonneg (by omega) (by omega)
  have lt : ∀ a b : Int, Rat.divInt a (r.den * s.den) < Rat.divInt b (r.den * s.den) ↔ a < b := by
    intro a b
    rw [← Rat.not_le, le]; omega
  have hu : s.num ≠ 0 := fun e => hs (Rat.num_eq_zero.mp e)
  constructor
  · intro h
    have hU : 0 < s.num * (r.den : Int) := Int.mul_pos h (den_gt r)
    have m1 := Int.emod_nonneg (r.num * (s.den : Int)) (show s.num * (r.den : Int) ≠ 0 by omega)
    have m2 := Int.emod_lt_of_pos (r.num * (s.den : Int)) hU
    have ef : fmodV (r.num * s.den) (s.num * r.den) = (r.num * s.den) % (s.num * r.den) := by unfold fmodV; rw [if_neg (by omega)]
    rw [ef] at hm
    refine ⟨fun hc => ?_, fun hc => ?_⟩
    · rw [cmpR_lt, hm, e0, lt] at hc; omega
    · have hc2 : ¬ cmpR m s < 0 := by omega
      rw [cmpR_lt, hm] at hc2
      apply hc2
      conv => rhs; rw [es]
      rw [lt]; exact m2
  · intro h
    have hU : s.num * (r.den : Int) < 0 := Int.mul_neg_of_neg_of_pos h (den_gt r)
    have m1 := Int.emod_nonneg (-(r.num * (s.den : Int))) (show -(s.num * (r.den : Int)) ≠ 0 by omega)
    have m2 := Int.emod_lt_of_pos (-(r.num * (s.den : Int))) (show 0 < -(s.num * (r.den : Int)) by omega)
    have ef : fmodV (r.num * s.den) (s.num * r.den) = -(-(r.num * s.den) % -(s.num * r.den)) := by unfold fmodV; rw [if_pos hU]
    rw [ef] at hm
    refine ⟨fun hc => ?_, fun hc => ?_⟩
    · rw [cmpR_gt, hm, e0, lt] at hc; omega
    · have hc2 : ¬ cmpR m s > 0 := by omega
      rw [cmpR_gt, hm] at hc2
      apply hc2
      conv => lhs; rw [es]
      rw [lt]; omega
theorem NumOrder_pure (a b c d e f : Int) (ha : (Lit.int .i64 a).wf = true) (hb : (Lit.int .i64 b).wf = true) (hc : (Lit.int .i64 c).wf = true) (hd : (Lit.int .i64 d).wf = true) (he : (Lit.int .i64 e).wf = true) (hf : (Lit.int .i64 f).wf = true) : ∃ k, fleuronlaw01_NumOrder.f k a b c d e f = some true := by
  have ia := I64_of ha
  have ib := I64_of hb
  have ic := I64_of hc
  have id := I64_of hd
  have ie := I64_of he
  have if_ := I64_of hf
  refine Ev.here ?_
  have out : Ev (fun k => fleuronlaw01_NumOrder.j0 k true a b c d e f) true := by
    refine Ev.succ ?_
    simp only [fleuronlaw01_NumOrder.j0]
    exact Ev.pos trivial (Ev.bind awake_ev (Ev.const rfl))
  unfold fleuronlaw01_NumOrder.f
  refine Ev.bind (RValid_ev ia ib) ?_
  by_cases h1 : vB a b = true
  rotate_left
  · exact Ev.neg h1 out
  refine Ev.pos h1 (Ev.bind (RValid_ev ic id) ?_)
  by_cases h2 : vB c d = true
  rotate_left
  · exact Ev.neg h2 out
  refine Ev.pos h2 (Ev.bind (RValid_ev ie if_) ?_)
  by_cases h3 : vB e f = true
  rotate_left
  · rw [Bool.eq_false_iff.mpr h3]; exact out
  rw [h3]
  obtain ⟨r, hr, rfl, rfl⟩ := vB_rat h1
  obtain ⟨s, hs, rfl, rfl⟩ := vB_rat h2
  obtain ⟨t, ht, rfl, rfl⟩ := vB_rat h3
  -- the end: awake
  have fin : ∀ x : Int, Ev (fun k => if (1 : Int) = 1 then ((fleuronlaw01_awake.f k).bind fun t570 => (some t570)) else (none : Option Bool)) true := fun _ => Ev.pos rfl (Ev.bind awake_ev (Ev.const rfl))
  have j5 : ∀ x : Int, Ev (fun k => fleuronlaw01_NumOrder.j5 k false r.num r.den s.num s.den x 1) true := by
    intro x
    refine Ev.succ ?_
    simp only [fleuronlaw01_NumOrder.j5]
    refine Ev.neg (by decide) (Ev.bind (Mod_ev ia ib ic id) ?_)
    unfold modV
    rw [if_pos (both_small hr hs)]
    by_cases hz : s.num = 0
    · rw [if_pos hz]; exact Ev.neg (by show ¬ (18 : Int) = 0; decide) (fin x)
    rw [if_neg hz]
    have hsz : s ≠ 0 := fun h => hz (Rat.num_eq_zero.mpr h)
    obtain ⟨m, hm⟩ : ∃ m, m = Rat.divInt (fmodV (r.num * s.den) (s.num * r.den)) (r.den * s.den) := ⟨_, rfl⟩
    obtain ⟨p1, p2⟩ := mod_in (r := r) hsz m hm
    rw [← hm]
    by_cases hsm : small m
    rotate_left
    · rw [exr_neg hsm]; exact Ev.neg (by show ¬ (17 : Int) = 0; decide) (fin x)
    rw [exr_pos hsm]
    have c0 := cmp_ev hsm (s := 0) (by decide)
    refine Ev.pos rfl (Ev.bind c0 (Ev.bind (cmp_ev hsm hs) ?_))
    by_cases hp : s.num > 0
    · obtain ⟨q1, q2⟩ := p1 hp
      exact Ev.pos hp (Ev.neg q1 (Ev.neg q2 (Ev.neg (by omega) (fin x))))
    · obtain ⟨q1, q2⟩ := p2 (by omega)
      exact Ev.neg hp (Ev.pos (by omega) (Ev.neg q1 (Ev.neg q2 (fin x))))
  have j4 : Ev (fun k => fleuronlaw01_NumOrder.j4 k r.num r.den s.num s.den) true := by
    refine Ev.succ ?_
    simp only [fleuronlaw01_NumOrder.j4]
    refine Ev.bind (Floor_ev ia ib) ?_
    rw [if_pos h1]
    refine Ev.pos rfl ?_
    show Ev (fun k => if wrap64 (r.num / r.den * r.den) > r.num then _ else fleuronlaw01_NumOrder.j5 k (decide (r.num ≥ wrap64 (wrap64 (r.num / r.den + 1) * r.den))) r.num r.den s.num s.den (r.num / r.den) 1) _
    obtain ⟨a1, b1, b2⟩ := vB_b h1
    have e' := Int.mul_ediv_add_emod r.num (r.den : Int)
    have m1 := Int.emod_nonneg r.num (den_ne r)
    have m2 := Int.emod_lt_of_pos r.num (den_gt r)
    have ds := ediv_small a1 b2
    obtain ⟨k0, hk0⟩ : ∃ k0 : Int, r.num / (r.den : Int) = k0 := ⟨_, rfl⟩
    rw [hk0] at e' ds ⊢
    have e3 : (r.den : Int) * k0 = k0 * r.den := Int.mul_comm _ _
    rw [e3] at e'
    have e4 : (k0 + 1) * (r.den : Int) = k0 * r.den + r.den := by rw [Int.add_mul, Int.one_mul]
    rw [w64_id (x := k0 + 1) (by omega) (by omega), e4, w64_id (x := k0 * r.den) (by omega) (by omega), w64_id (x := k0 * r.den + r.den) (by omega) (by omega)]
    refine Ev.neg (by omega) ?_
    rw [decide_eq_false (by omega)]
    exact j5 k0
  have j3 : ∀ x : Bool, (x = true → small (r + t) ∧ small (s + t)) → Ev (fun k => fleuronlaw01_NumOrder.j3 k (cmpR r s) x r.num r.den s.num s.den (exr (r + t)).1 (exr (r + t)).2.1 (exr (s + t)).1 (exr (s + t)).2.1) true := by
    intro x hx
    refine Ev.succ ?_
    simp only [fleuronlaw01_NumOrder.j3]
    by_cases hxx : x = true
    · obtain ⟨s1, s2⟩ := hx hxx
      rw [exr_pos s1, exr_pos s2]
      exact Ev.pos hxx (Ev.bind (cmp_ev s1 s2) (Ev.pos rfl (Ev.pos (cmpR_add r s t) j4)))
    · exact Ev.neg hxx j4
  have j2 : Ev (fun k => fleuronlaw01_NumOrder.j2 k (cmpR r s) false r.num r.den s.num s.den t.num t.den) true := by
    refine Ev.succ ?_
    simp only [fleuronlaw01_NumOrder.j2]
    refine Ev.neg (by decide) (Ev.bind (sum_ev hr ht) (Ev.bind (sum_ev hs ht) ?_))
    by_cases s1 : small (r + t)
    · exact Ev.pos (decide_eq_true s1) (j3 _ (fun h => ⟨s1, of_decide_eq_true h⟩))
    · exact Ev.neg (by simp only [decide_eq_true_eq]; exact s1) (j3 false (fun h => absurd h (by decide)))
  have j1 : Ev (fun k => fleuronlaw01_NumOrder.j1 k (cmpR r s) false r.num r.den s.num s.den t.num t.den) true := by
    refine Ev.succ ?_
    simp only [fleuronlaw01_NumOrder.j1]
    refine Ev.neg (by decide) (Ev.bind (cmp_ev hs ht) (Ev.bind (cmp_ev hr ht) ?_))
    by_cases c1 : cmpR r s ≤ 0
    · refine Ev.pos c1 ?_
      by_cases c2 : cmpR s t ≤ 0
      · refine Ev.pos c2 ?_
        have : cmpR r t ≤ 0 := cmpR_le.mpr (Rat.le_trans (cmpR_le.mp c1) (cmpR_le.mp c2))
        rw [decide_eq_false (by omega)]
        exact j2
      · exact Ev.neg c2 j2
    · exact Ev.neg c1 j2
  refine Ev.succ ?_
  simp only [fleuronlaw01_NumOrder.j0]
  refine Ev.neg (by decide) (Ev.bind (cmp_ev hr hs) (Ev.bind (cmp_ev hs hr) (Ev.pos rfl (Ev.pos rfl ?_))))
  have cb : -1 ≤ cmpR s r ∧ cmpR s r ≤ 1 := by unfold cmpR; split <;> (try split) <;> omega
  rw [w64_id (x := -cmpR s r) (by omega) (by omega)]
  refine Ev.pos (cmpR_neg r s) ?_
  have hsame : ((cmpR r s == 0) != (r.num == s.num && ((r.den : Int) == s.den))) = false := by
    by_cases hrs : r = s
    · subst hrs
      rw [cmpR_zero.mpr rfl]; simp
    · have h0 : cmpR r s ≠ 0 := fun h => hrs (cmpR_zero.mp h)
      have h5 : ¬ (r.num = s.num ∧ (r.den : Int) = s.den) := fun h => hrs (vB_same.mp h)
      rw [beq_eq_false_iff_ne.mpr h0]
      have : (r.num == s.num && ((r.den : Int) == s.den)) = false := by
        rw [Bool.eq_false_iff]; intro h
        rw [Bool.and_eq_true, beq_iff_eq, beq_iff_eq] at h
        exact h5 h
      rw [this]; rfl
  rw [hsame]
  exact j1
end Go.Proofs.YtndbdnkpnjibkaaDoor.P
