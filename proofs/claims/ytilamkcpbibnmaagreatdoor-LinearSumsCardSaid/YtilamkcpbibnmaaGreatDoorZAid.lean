import Derived.Test.YtilamkcpbibnmaaGreatDoorZPxfleuronlaw08few
namespace Go.Proofs.YtilamkcpbibnmaaGreatDoor.P
open Go.RowKit Go.Proofs.YtilamkcpbibnmaaGreatDoorW.PrintWords Go.Proofs.YtilamkcpbibnmaaGreatDoorW.PrintLast Go.Proofs.YtilamkcpbibnmaaGreatDoorW.PrintMore
set_option linter.unusedVariables false
theorem u64_id {x : Int} (h0 : 0 ≤ x) (h1 : x < 18446744073709551616) : IntKind.u64.wrap x = x := by
  rw [show IntKind.u64.wrap x = x % 18446744073709551616 by simp [IntKind.wrap, IntKind.bits, IntKind.signed]]
  exact Int.emod_eq_of_lt h0 h1
theorem u64_mod (x : Int) : IntKind.u64.wrap x = x % 18446744073709551616 := by simp [IntKind.wrap, IntKind.bits, IntKind.signed]
theorem w64_id {x : Int} (h0 : -9223372036854775808 ≤ x) (h1 : x ≤ 9223372036854775807) : wrap64 x = x := by unfold wrap64; omega
def I64 (x : Int) : Prop := -9223372036854775808 ≤ x ∧ x ≤ 9223372036854775807
def small (r : Rat) : Prop := r.num.natAbs ≤ 2147483647 ∧ r.den ≤ 2147483647
instance (r : Rat) : Decidable (small r) := by unfold small; infer_instance
def exr (r : Rat) : Int × Int × Int := if small r then (r.num, (r.den : Int), 0) else (0, 0, 17)
theorem exr_pos {r : Rat} (h : small r) : exr r = (r.num, (r.den : Int), 0) := if_pos h
theorem exr_neg {r : Rat} (h : ¬ small r) : exr r = (0, 0, 17) := if_neg h
theorem Ev.pair {α : Type} {g : Nat → Option α} {a : α} (h : Ev g a) : ∃ K, ∀ k, K ≤ k → g k = some a := h
theorem Ev.const {α : Type} {x : Option α} {a : α} (h : x = some a) : Ev (fun _ => x) a := ⟨0, fun _ _ => h⟩
theorem gcd_ev : ∀ (b a : Nat), ∃ K, ∀ k, K ≤ k → rational_gcd.l0 k (a : Int) (b : Int) = some ((Nat.gcd a b : Nat) : Int) := by
  intro b
  induction b using Nat.strongRecOn with
  | _ b ih =>
    intro a
    by_cases hb : b = 0
    · subst hb
      refine ⟨1, fun k hk => ?_⟩
      obtain ⟨k, rfl⟩ : ∃ m, k = m + 1 := ⟨k - 1, by omega⟩
      simp only [rational_gcd.l0]
      rw [if_neg (by omega), Nat.gcd_zero_right]
    · obtain ⟨K, hK⟩ := ih (a % b) (Nat.mod_lt _ (by omega)) b
      refine ⟨K + 1, fun k hk => ?_⟩
      obtain ⟨k, rfl⟩ : ∃ m, k = m + 1 := ⟨k - 1, by omega⟩
      simp only [rational_gcd.l0]
      rw [if_pos (by omega), if_neg (by omega), Int.tmod_eq_emod_of_nonneg (by omega), ← Int.natCast_emod, hK k (by omega), Nat.gcd_comm b, ← Nat.gcd_rec, Nat.gcd_comm]
theorem size_eq_abs {p : Int} (h : I64 p) : rational_size.f p = some (p.natAbs : Int) := by
  unfold rational_size.f I64 at *
  by_cases hp : p < 0
  · rw [if_pos hp, u64_mod, u64_mod]; congr 1; omega
  · rw [if_neg hp, u64_mod]; congr 1; omega
theorem sgn_cases (q : Int) (hq : q ≠ 0) : (0 < q ∧ q.sign = 1 ∧ (q.natAbs : Int) = q) ∨ (q < 0 ∧ q.sign = -1 ∧ (q.natAbs : Int) = -q) := by
  rcases Int.lt_or_gt_of_ne hq with h | h
  · exact .inr ⟨h, Int.sign_eq_neg_one_of_neg h, by omega⟩
  · exact .inl ⟨h, Int.sign_eq_one_of_pos h, by omega⟩
theorem divInt_parts (p q : Int) (hq : q ≠ 0) : (Rat.divInt p q).num.natAbs = p.natAbs / Nat.gcd p.natAbs q.natAbs ∧ (Rat.divInt p q).den = q.natAbs / Nat.gcd p.natAbs q.natAbs ∧ ((Rat.divInt p q).num < 0 ↔ (p < 0 ∧ 0 < q ∨ 0 < p ∧ q < 0)) := by
  have hg : Int.gcd q p = Nat.gcd p.natAbs q.natAbs := by rw [Int.gcd_comm]; rfl
  have hg0 : 0 < Nat.gcd p.natAbs q.natAbs := Nat.gcd_pos_of_pos_right _ (by omega)
  have hdv : ((Nat.gcd p.natAbs q.natAbs : Nat) : Int) ∣ p := Int.ofNat_dvd_left.mpr (Nat.gcd_dvd_left _ _)
  obtain ⟨g, hgg⟩ : ∃ g, Nat.gcd p.natAbs q.natAbs = g := ⟨_, rfl⟩
  refine ⟨?_, ?_, ?_⟩
  · rw [Rat.num_divInt, hg, hgg]
    rw [hgg] at hdv hg0
    obtain ⟨c, rfl⟩ := hdv
    have e1 : ((g : Int) * c).natAbs / g = c.natAbs := by
      rw [Int.natAbs_mul, Int.natAbs_natCast, Nat.mul_div_cancel_left _ hg0]
    rw [e1]
    rcases sgn_cases q hq with ⟨_, hs, _⟩ | ⟨_, hs, _⟩
    · rw [hs, Int.one_mul, Int.mul_ediv_cancel_left _ (by omega)]
    · rw [hs, show (-1 : Int) * (g * c) = g * (-c) by rw [Int.mul_neg, Int.neg_mul, Int.one_mul], Int.mul_ediv_cancel_left _ (by omega), Int.natAbs_neg]
  · rw [Rat.den_divInt, if_neg hq, hg]
  · rw [Rat.num_divInt, hg, hgg]
    rw [hgg] at hdv hg0
    obtain ⟨c, rfl⟩ := hdv
    have e0 : (g : Int) * c < 0 ↔ c < 0 := by
      constructor
      · intro h
        rcases Int.lt_or_le c 0 with h1 | h1
        · exact h1
        · exact absurd (Int.mul_nonneg (show (0 : Int) ≤ g by omega) h1) (by omega)
      · intro h; exact Int.mul_neg_of_pos_of_neg (by omega) h
    have e1 : 0 < (g : Int) * c ↔ 0 < c := by
      constructor
      · intro h
        rcases Int.lt_or_le 0 c with h1 | h1
        · exact h1
        · exact absurd (Int.mul_nonpos_of_nonneg_of_nonpos (show (0 : Int) ≤ g by omega) h1) (by omega)
      · intro h; exact Int.mul_pos (by omega) h
    rcases sgn_cases q hq with ⟨h, hs, _⟩ | ⟨h, hs, _⟩
    · rw [hs, Int.one_mul, Int.mul_ediv_cancel_left _ (by omega)]
      omega
    · rw [hs, show (-1 : Int) * (g * c) = g * (-c) by rw [Int.mul_neg, Int.neg_mul, Int.one_mul], Int.mul_ediv_cancel_left _ (by omega)]
      omega
theorem Exact_ev {p q : Int} (hp : I64 p) (hq : I64 q) (h0 : q ≠ 0) : Ev (fun k => rational_Exact.f k p q) (exr (Rat.divInt p q)) := by
  obtain ⟨K, hK⟩ := gcd_ev q.natAbs p.natAbs
  obtain ⟨d1, d2, d3⟩ := divInt_parts p q h0
  have hg0 : 0 < Nat.gcd p.natAbs q.natAbs := Nat.gcd_pos_of_pos_right _ (by omega)
  refine ⟨K, fun k hk => ?_⟩
  unfold rational_Exact.f rational_gcd.f
  rw [size_eq_abs hp, size_eq_abs hq]
  simp only [Option.bind_some]
  rw [hK k hk]
  simp only [Option.bind_some]
  rw [if_neg (by omega), Int.tdiv_eq_ediv_of_nonneg (by omega), Int.tdiv_eq_ediv_of_nonneg (by omega), ← Int.natCast_ediv, ← Int.natCast_ediv, ← d1, ← d2]
  have b1 : (Rat.divInt p q).num.natAbs ≤ p.natAbs := by rw [d1]; exact Nat.div_le_self _ _
  have b2 : (Rat.divInt p q).den ≤ q.natAbs := by rw [d2]; exact Nat.div_le_self _ _
  unfold I64 at hp hq
  rw [u64_id (by omega) (by omega), u64_id (by omega) (by omega)]
  by_cases hs : small (Rat.divInt p q)
  · have hs' := hs
    unfold small at hs'
    rw [exr_pos hs, if_neg (by unfold mx; omega)]
    have hz : (Rat.divInt p q).num = 0 ↔ p = 0 := by
      constructor
      · intro h
        have : (Rat.divInt p q).num.natAbs = 0 := by omega
        rw [d1] at this
        rcases Nat.eq_zero_or_pos p.natAbs with h3 | h3
        · omega
        · exfalso
          rcases (Nat.div_eq_zero_iff).mp this with h' | h'
          · omega
          · have := Nat.gcd_le_left q.natAbs h3
            omega
      · intro h; subst h; simp
    rw [w64_id (x := ((Rat.divInt p q).num.natAbs : Int)) (by omega) (by omega), w64_id (x := ((Rat.divInt p q).den : Int)) (by omega) (by omega)]
    by_cases hp0 : p < 0 <;> by_cases hq0 : q < 0
    · rw [if_neg (by simp [hp0, hq0])]
      congr 2; omega
    · rw [if_pos (by simp [hp0, hq0]), w64_id (by omega) (by omega)]
      congr 2; omega
    · rw [if_pos (by simp [hp0, hq0]), w64_id (by omega) (by omega)]
      congr 2
      have : 0 < p ∨ p = 0 := by omega
      rcases this with h | h
      · omega
      · have := hz.mpr h; omega
    · rw [if_neg (by simp [hp0, hq0])]
      congr 2; omega
  · have hs' := hs
    unfold small at hs'
    rw [exr_neg hs, if_pos (by unfold mx; omega)]
end Go.Proofs.YtilamkcpbibnmaaGreatDoor.P
