import Derived.Test.YtilamkcpbibnmaaGreatDoorZAid
import Derived.Test.YtilamkcpbibnmaaGreatDoorZPxlinearrising
import Derived.Test.YtilamkcpbibnmaaGreatDoorZPxrationalNear
namespace Go.Proofs.YtilamkcpbibnmaaGreatDoor.P
open Go.RowKit Go.Proofs.YtilamkcpbibnmaaGreatDoorW.PrintWords Go.Proofs.YtilamkcpbibnmaaGreatDoorW.PrintLast Go.Proofs.YtilamkcpbibnmaaGreatDoorW.PrintMore
set_option linter.unusedVariables false
def vB (P Q : Int) : Bool := decide (1 ≤ Q ∧ Q ≤ 2147483647 ∧ -2147483647 ≤ P ∧ P ≤ 2147483647 ∧ Nat.gcd P.natAbs Q.natAbs = 1)
theorem Valid_ev {P Q : Int} (hP : I64 P) (hQ : I64 Q) : Ev (fun k => num_Valid.f k P Q) (vB P Q) := by
  unfold num_Valid.f
  by_cases h1 : Q < 1
  · simp only [if_pos h1]
    exact Ev.const (congrArg some (decide_eq_false (by omega)).symm)
  simp only [if_neg h1]
  by_cases h2 : Q > 2147483647
  · simp only [if_pos h2]
    exact Ev.const (congrArg some (decide_eq_false (by omega)).symm)
  simp only [if_neg h2]
  by_cases h3 : P < -2147483647
  · simp only [if_pos h3]
    exact Ev.const (congrArg some (decide_eq_false (by omega)).symm)
  simp only [if_neg h3]
  by_cases h4 : P > 2147483647
  · simp only [if_pos h4]
    exact Ev.const (congrArg some (decide_eq_false (by omega)).symm)
  simp only [if_neg h4]
  obtain ⟨K, hK⟩ := Exact_ev hP hQ (by omega)
  refine ⟨K, fun k hk => ?_⟩
  show (rational_Exact.f k P Q).bind _ = _
  rw [show rational_Exact.f k P Q = _ from hK k hk]
  simp only [Option.bind_some, Option.some.injEq]
  obtain ⟨d1, d2, d3⟩ := divInt_parts P Q (by omega)
  have hg0 : 0 < Nat.gcd P.natAbs Q.natAbs := Nat.gcd_pos_of_pos_right _ (by omega)
  have b1 : (Rat.divInt P Q).num.natAbs ≤ P.natAbs := by rw [d1]; exact Nat.div_le_self _ _
  have b2 : (Rat.divInt P Q).den ≤ Q.natAbs := by rw [d2]; exact Nat.div_le_self _ _
  have hs : small (Rat.divInt P Q) := by unfold small; omega
  rw [exr_pos hs, Bool.eq_iff_iff]
  simp only [Bool.and_eq_true, beq_iff_eq]
  unfold vB
  rw [decide_eq_true_eq]
  constructor
  · rintro ⟨e1, e2⟩
    refine ⟨by omega, by omega, by omega, by omega, ?_⟩
    have : Q.natAbs / Nat.gcd P.natAbs Q.natAbs = Q.natAbs := by rw [← d2]; omega
    have hd := Nat.div_mul_cancel (Nat.gcd_dvd_right P.natAbs Q.natAbs)
    rw [this] at hd
    have hq : 0 < Q.natAbs := by omega
    exact Nat.eq_of_mul_eq_mul_left hq (by rw [hd, Nat.mul_one])
  · rintro ⟨_, _, _, _, h5⟩
    rw [h5, Nat.div_one] at d1 d2
    constructor <;> omega
theorem vB_gcd (P Q : Int) : vB P Q = (decide (1 ≤ Q) && (decide (Q ≤ 2147483647) && (decide (-2147483647 ≤ P) && (decide (P ≤ 2147483647) && decide (Nat.gcd P.natAbs Q.natAbs = 1))))) := by
  unfold vB
  rw [Bool.eq_iff_iff]
  simp only [decide_eq_true_eq, Bool.and_eq_true]
theorem valid2_ev {a b c d : Int} (ha : I64 a) (hb : I64 b) (hc : I64 c) (hd : I64 d) : Ev (fun k => num_valid.f k [(⟨a, b⟩ : S23), (⟨c, d⟩ : S23)]) (vB a b && vB c d) := by
  obtain ⟨K1, h1⟩ := Valid_ev ha hb
  obtain ⟨K2, h2⟩ := Valid_ev hc hd
  refine ⟨K1 + K2 + 3, fun k hk => ?_⟩
  obtain ⟨k, rfl⟩ : ∃ m, k = m + 3 := ⟨k - 3, by omega⟩
  show num_valid.f (k + 3) _ = _
  unfold num_valid.f
  have r0 : rd_T23 [(⟨a, b⟩ : S23), (⟨c, d⟩ : S23)] 0 = ⟨a, b⟩ := rfl
  have r1 : rd_T23 [(⟨a, b⟩ : S23), (⟨c, d⟩ : S23)] 1 = ⟨c, d⟩ := rfl
  simp only [num_valid.l0]
  rw [if_pos (by simp), if_pos (by simp), if_pos (by simp), r0]
  simp only
  rw [show num_Valid.f (k + 2) a b = _ from h1 _ (by omega)]
  simp only [Option.bind_some]
  cases hv : vB a b with
  | false => simp
  | true =>
    rw [if_pos rfl, show wrap64 (0 + 1) = 1 by unfold wrap64; omega, if_pos (by simp), if_pos (by simp), if_pos (by simp), r1]
    simp only
    rw [show num_Valid.f (k + 1) c d = _ from h2 _ (by omega)]
    simp only [Option.bind_some]
    cases hv2 : vB c d with
    | false => simp
    | true =>
      rw [if_pos rfl, show wrap64 (1 + 1) = 2 by unfold wrap64; omega, if_neg (by simp)]
      rfl
theorem Ev.bind {α β : Type} {f : Nat → Option α} {g : Nat → α → Option β} {a : α} {b : β} (h : Ev f a) (h2 : Ev (fun k => g k a) b) : Ev (fun k => (f k).bind (g k)) b := by
  obtain ⟨K1, h1⟩ := h
  obtain ⟨K2, h2⟩ := h2
  refine ⟨K1 + K2, fun k hk => ?_⟩
  show (f k).bind (g k) = _
  rw [h1 k (by omega), Option.bind_some]
  exact h2 k (by omega)
theorem Ev.pos {β : Type} {c : Prop} [Decidable c] {f g : Nat → Option β} {b : β} (h : c) (h2 : Ev f b) : Ev (fun k => if c then f k else g k) b := by
  obtain ⟨K, hK⟩ := h2
  exact ⟨K, fun k hk => by show (if c then _ else _) = _; rw [if_pos h]; exact hK k hk⟩
theorem Ev.neg {β : Type} {c : Prop} [Decidable c] {f g : Nat → Option β} {b : β} (h : ¬ c) (h2 : Ev g b) : Ev (fun k => if c then f k else g k) b := by
  obtain ⟨K, hK⟩ := h2
  exact ⟨K, fun k hk => by show (if c then _ else _) = _; rw [if_neg h]; exact hK k hk⟩
theorem Ev.succ {β : Type} {f : Nat → Option β} {b : β} (h : Ev (fun k => f (k + 1)) b) : Ev f b := by
  obtain ⟨K, hK⟩ := h
  refine ⟨K + 1, fun k hk => ?_⟩
  obtain ⟨k, rfl⟩ : ∃ m, k = m + 1 := ⟨k - 1, by omega⟩
  exact hK k (by omega)
theorem Ev.here {β : Type} {f : Nat → Option β} {b : β} (h : Ev f b) : ∃ k, f k = some b := let ⟨K, hK⟩ := h; ⟨K, hK K (Nat.le_refl K)⟩
def fixv (r : Rat) : Int := (131072 * r.num + r.den) / (2 * r.den)
def nearv (r : Rat) : Int × Int × Int := if small r then exr r else exr (Rat.divInt (fixv r) 65536)
theorem fix_scale {p q : Int} (hq : 0 < q) : (131072 * p + q) / (2 * q) = fixv (Rat.divInt p q) := by
  unfold fixv
  have hg0 : 0 < Nat.gcd p.natAbs q.natAbs := Nat.gcd_pos_of_pos_right _ (by omega)
  have hn : (Rat.divInt p q).num * (Nat.gcd p.natAbs q.natAbs : Nat) = p := by
    rw [Rat.num_divInt, Int.sign_eq_one_of_pos hq, Int.one_mul, Int.gcd_comm]
    exact Int.ediv_mul_cancel (Int.ofNat_dvd_left.mpr (Nat.gcd_dvd_left _ _))
  have hd : ((Rat.divInt p q).den : Int) * (Nat.gcd p.natAbs q.natAbs : Nat) = q := by
    obtain ⟨_, d2, _⟩ := divInt_parts p q (by omega)
    rw [d2, ← Int.natCast_mul, Nat.div_mul_cancel (Nat.gcd_dvd_right _ _)]; omega
  obtain ⟨g, hg⟩ : ∃ g : Nat, Nat.gcd p.natAbs q.natAbs = g := ⟨_, rfl⟩
  obtain ⟨n, hn'⟩ : ∃ n : Int, (Rat.divInt p q).num = n := ⟨_, rfl⟩
  obtain ⟨d, hd'⟩ : ∃ d : Int, ((Rat.divInt p q).den : Int) = d := ⟨_, rfl⟩
  rw [hn'] at hn
  rw [hd'] at hd
  rw [hn', hd']
  rw [hg] at hn hd hg0
  have e1 : 131072 * p + q = (131072 * n + d) * (g : Int) := by rw [Int.add_mul, Int.mul_assoc, hn, hd]
  have e2 : 2 * q = 2 * d * (g : Int) := by rw [Int.mul_assoc, hd]
  rw [e1, e2, Int.mul_ediv_mul_of_pos_left _ _ (by omega)]
theorem small_le {r : Rat} (h : small r) : r.num ≤ 2147483647 * r.den ∧ -2147483647 * (r.den : Int) ≤ r.num := by
  unfold small at h
  have := r.den_pos
  omega
theorem not_small_of {n : Int} (h : 2147483647 * 65536 < n ∨ n < -(2147483647 * 65536)) : ¬ small (Rat.divInt n 65536) := by
  intro hs
  obtain ⟨h1, h2⟩ := small_le hs
  have hn : (Rat.divInt n 65536).num * (Nat.gcd n.natAbs 65536 : Nat) = n := by
    rw [Rat.num_divInt, show Int.sign 65536 = 1 from rfl, Int.one_mul, Int.gcd_comm]
    exact Int.ediv_mul_cancel (Int.ofNat_dvd_left.mpr (Nat.gcd_dvd_left _ _))
  have hd : ((Rat.divInt n 65536).den : Int) * (Nat.gcd n.natAbs 65536 : Nat) = 65536 := by
    obtain ⟨_, d2, _⟩ := divInt_parts n 65536 (by omega)
    rw [d2, ← Int.natCast_mul]
    rw [show (65536 : Int).natAbs = 65536 from rfl, Nat.div_mul_cancel (Nat.gcd_dvd_right _ _)]; rfl
  have hg0 : 0 ≤ ((Nat.gcd n.natAbs 65536 : Nat) : Int) := by omega
  have k1 := Int.mul_le_mul_of_nonneg_right h1 hg0
  have k2 := Int.mul_le_mul_of_nonneg_right h2 hg0
  rw [hn, Int.mul_assoc, hd] at k1 k2
  omega
theorem Near_ev {p q : Int} (hp : -9223372036854775807 ≤ p ∧ p ≤ 9223372036854775807) (hq : -4611686018427387904 < q ∧ q < 4611686018427387904) (h0 : q ≠ 0) :
    Ev (fun k => rational_Near.f k p q) (nearv (Rat.divInt p q)) := by
  obtain ⟨K, hK⟩ := Exact_ev (p := p) (q := q) (by unfold I64; omega) (by unfold I64; omega) h0
  unfold nearv
  by_cases hs : small (Rat.divInt p q)
  · rw [if_pos hs]
    refine ⟨K, fun k hk => ?_⟩
    show (rational_Exact.f k p q).bind _ = _
    rw [show rational_Exact.f k p q = _ from hK k hk, exr_pos hs]
    simp
  · rw [if_neg hs]
    have key : ∀ {p q : Int}, -9223372036854775807 ≤ p ∧ p ≤ 9223372036854775807 → 0 < q → q < 4611686018427387904 → Ev (fun k => rational_Near.j0 k p q) (exr (Rat.divInt (fixv (Rat.divInt p q)) 65536)) := by
      intro p q hp hq0 hq1
      rw [← fix_scale hq0]
      obtain ⟨A, hA⟩ : ∃ A : Int, p / q = A := ⟨_, rfl⟩
      have hF := r_Floor p q hq0 (by omega) (by omega) (by omega)
      have e' := Int.mul_ediv_add_emod p q
      have m1 := Int.emod_nonneg p (show q ≠ 0 by omega)
      have m2 := Int.emod_lt_of_pos p hq0
      rw [hA] at hF e'
      obtain ⟨R, hR⟩ : ∃ R : Int, p % q = R := ⟨_, rfl⟩
      rw [hR] at m1 m2 e' hF
      have hdiv : (131072 * p + q) / (2 * q) = 65536 * A + (131072 * R + q) / (2 * q) := by
        have k1 : 2 * q * (65536 * A) = 131072 * (q * A) := by rw [Int.mul_assoc, Int.mul_left_comm q]; omega
        have k2 : 131072 * p + q = (131072 * R + q) + 2 * q * (65536 * A) := by rw [k1, ← e', Int.mul_add]; omega
        rw [k2, Int.add_mul_ediv_left _ _ (by omega), Int.add_comm]
      obtain ⟨n, hn⟩ : ∃ n : Int, (131072 * R + q) / (2 * q) = n := ⟨_, rfl⟩
      have hn0 : 0 ≤ n := by rw [← hn]; exact Int.ediv_nonneg (by omega) (by omega)
      have hn1 : n ≤ 65537 := by
        have : n < 65538 := by rw [← hn]; exact Int.ediv_lt_of_lt_mul (by omega) (by omega)
        omega
      rw [hn] at hdiv
      by_cases hbig : A > 8589934592 ∨ A < -8589934592
      · have hns : ¬ small (Rat.divInt ((131072 * p + q) / (2 * q)) 65536) := by
          rw [hdiv]
          apply not_small_of
          omega
        rw [exr_neg hns]
        refine ⟨2, fun k hk => ?_⟩
        obtain ⟨k, rfl⟩ : ∃ m, k = m + 2 := ⟨k - 2, by omega⟩
        simp only [rational_Near.j0]
        rw [hF]
        simp only [Option.bind_some]
        by_cases h1 : A > 8589934592
        · rw [if_pos h1]; simp only [rational_Near.j1]; rw [if_pos trivial]
        · rw [if_neg h1, decide_eq_true (by omega)]; simp only [rational_Near.j1]; rw [if_pos trivial]
      · have hI : I64 (65536 * A + n) := by unfold I64; omega
        obtain ⟨K, hK⟩ := Exact_ev (p := 65536 * A + n) (q := 65536) hI (by unfold I64; omega) (by omega)
        refine ⟨K + 2, fun k hk => ?_⟩
        obtain ⟨k, rfl⟩ : ∃ m, k = m + 2 := ⟨k - 2, by omega⟩
        simp only [rational_Near.j0]
        rw [hF]
        simp only [Option.bind_some]
        rw [if_neg (by omega), decide_eq_false (by omega)]
        simp only [rational_Near.j1]
        rw [if_neg (by decide)]
        have hRd : rational_Round.f p q = some (65536 * A + n) := by
          unfold rational_Round.f
          rw [if_pos ⟨hq0, hq1, by omega, by omega, by omega, by omega⟩, hdiv]
        rw [hRd, hdiv]
        simp only [Option.bind_some]
        rw [show rational_Exact.f k (65536 * A + n) 65536 = _ from hK k (by omega)]
        simp
    by_cases hneg : q < 0
    · obtain ⟨K2, hK2⟩ := key (p := -p) (q := -q) (by omega) (by omega) (by omega)
      refine ⟨K + K2, fun k hk => ?_⟩
      show (rational_Exact.f k p q).bind _ = _
      rw [show rational_Exact.f k p q = _ from hK k (by omega), exr_neg hs]
      simp only [Option.bind_some]
      rw [if_neg (by decide), if_pos hneg, w64_id (by omega) (by omega), w64_id (by omega) (by omega), show rational_Near.j0 k (-p) (-q) = _ from hK2 k (by omega), Rat.neg_divInt_neg]
    · obtain ⟨K2, hK2⟩ := key (p := p) (q := q) hp (by omega) (by omega)
      refine ⟨K + K2, fun k hk => ?_⟩
      show (rational_Exact.f k p q).bind _ = _
      rw [show rational_Exact.f k p q = _ from hK k (by omega), exr_neg hs]
      simp only [Option.bind_some]
      rw [if_neg (by decide), if_neg hneg, show rational_Near.j0 k p q = _ from hK2 k (by omega)]
end Go.Proofs.YtilamkcpbibnmaaGreatDoor.P
