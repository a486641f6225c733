import Derived.Test.YtilamkcpbibnmaaGreatDoorZNumA
import Derived.Test.YtilamkcpbibnmaaGreatDoorZPxfleuronref01exact
import Derived.Test.YtilamkcpbibnmaaGreatDoorZPxfleuronref01gcd
namespace Go.Proofs.YtilamkcpbibnmaaGreatDoor.P
open Go.RowKit Go.Proofs.YtilamkcpbibnmaaGreatDoorW.PrintWords Go.Proofs.YtilamkcpbibnmaaGreatDoorW.PrintLast Go.Proofs.YtilamkcpbibnmaaGreatDoorW.PrintMore
set_option linter.unusedVariables false
theorem rgcd_ev : ∀ (b a : Nat), ∃ K, ∀ k, K ≤ k → fleuronref01_gcd.l0 k (a : Int) (b : Int) = some ((Nat.gcd a b : Nat) : Int) := by
  intro b
  induction b using Nat.strongRecOn with
  | _ b ih =>
    intro a
    by_cases hb : b = 0
    · subst hb
      refine ⟨1, fun k hk => ?_⟩
      obtain ⟨k, rfl⟩ : ∃ m, k = m + 1 := ⟨k - 1, by omega⟩
      simp only [fleuronref01_gcd.l0]
      rw [if_neg (by omega), Nat.gcd_zero_right]
    · obtain ⟨K, hK⟩ := ih (a % b) (Nat.mod_lt _ (by omega)) b
      refine ⟨K + 1, fun k hk => ?_⟩
      obtain ⟨k, rfl⟩ : ∃ m, k = m + 1 := ⟨k - 1, by omega⟩
      simp only [fleuronref01_gcd.l0]
      rw [if_pos (by omega), if_neg (by omega), Int.tmod_eq_emod_of_nonneg (by omega), ← Int.natCast_emod, hK k (by omega), Nat.gcd_comm b, ← Nat.gcd_rec, Nat.gcd_comm]
theorem rsize_eq {p : Int} (h : I64 p) : fleuronref01_size.f p = some (p.natAbs : Int) := by
  unfold I64 at h
  unfold fleuronref01_size.f
  by_cases hp : p < 0
  · rw [if_pos hp, w64_id (x := p + 1) (by omega) (by omega), w64_id (by omega) (by omega), u64_id (x := -(p + 1)) (by omega) (by omega), u64_id (by omega) (by omega)]
    congr 1; omega
  · rw [if_neg hp, u64_id (by omega) (by omega)]; congr 1; omega
theorem lowest_ev {p q : Int} (neg : Bool) (hp : I64 p) (hq : I64 q) (h0 : q ≠ 0) (hneg : neg = true ↔ (Rat.divInt p q).num < 0) :
    Ev (fun k => fleuronref01_lowest.f k neg (p.natAbs : Int) (q.natAbs : Int)) (exr (Rat.divInt p q)) := by
  obtain ⟨d1, d2, _⟩ := divInt_parts p q h0
  obtain ⟨K, hK⟩ := rgcd_ev q.natAbs p.natAbs
  have hg0 : 0 < Nat.gcd p.natAbs q.natAbs := Nat.gcd_pos_of_pos_right _ (by omega)
  unfold I64 at hp hq
  have l1 : p.natAbs / Nat.gcd p.natAbs q.natAbs ≤ p.natAbs := Nat.div_le_self _ _
  have l2 : q.natAbs / Nat.gcd p.natAbs q.natAbs ≤ q.natAbs := Nat.div_le_self _ _
  refine ⟨K + 1, fun k hk => ?_⟩
  obtain ⟨k, rfl⟩ : ∃ m, k = m + 1 := ⟨k - 1, by omega⟩
  show Option.bind _ _ = _
  rw [show fleuronref01_gcd.f (k + 1) (p.natAbs : Int) (q.natAbs : Int) = _ from hK (k + 1) (by omega)]
  simp only [Option.bind_some]
  rw [if_neg (by omega)]
  rw [Int.tdiv_eq_ediv_of_nonneg (by omega), Int.tdiv_eq_ediv_of_nonneg (by omega), ← Int.natCast_ediv, ← Int.natCast_ediv, ← d1, ← d2]
  rw [← d1] at l1
  rw [← d2] at l2
  rw [u64_id (by omega) (by omega), u64_id (by omega) (by omega)]
  by_cases c1 : ((Rat.divInt p q).num.natAbs : Int) > 2147483647
  · rw [if_pos c1]
    simp only [fleuronref01_lowest.j0]
    rw [if_pos trivial, exr_neg (by unfold small; omega)]
  rw [if_neg c1]
  simp only [fleuronref01_lowest.j0]
  by_cases c2 : ((Rat.divInt p q).den : Int) > 2147483647
  · rw [if_pos (decide_eq_true c2), exr_neg (by unfold small; omega)]
  rw [decide_eq_false c2, if_neg (by decide), exr_pos (by unfold small; omega)]
  have n1 : ∀ x : Int, 0 ≤ x → x ≤ 2147483647 → wrap64 x = x := fun x h1 h2 => w64_id (by omega) (by omega)
  rw [n1 ((Rat.divInt p q).num.natAbs : Int) (by omega) (by omega), n1 ((Rat.divInt p q).den : Int) (by omega) (by omega)]
  by_cases hn : neg = true
  · rw [if_pos hn, w64_id (by omega) (by omega)]
    have := hneg.mp hn
    congr 2; omega
  · rw [if_neg hn]
    have : ¬ (Rat.divInt p q).num < 0 := fun h => hn (hneg.mpr h)
    congr 2; omega
theorem RMake_ev {p q : Int} (hp : I64 p) (hq : I64 q) : Ev (fun k => fleuronref01_Make.f k p q) (if q = 0 then (0, 0, 18) else exr (Rat.divInt p q)) := by
  by_cases h0 : q = 0
  · rw [if_pos h0]
    refine ⟨0, fun k _ => ?_⟩
    show (if q = 0 then _ else _) = _
    rw [if_pos h0]
  rw [if_neg h0]
  obtain ⟨d1, d2, d3⟩ := divInt_parts p q h0
  have fin : ∀ neg : Bool, (neg = true ↔ (Rat.divInt p q).num < 0) → Ev (fun k => (fleuronref01_size.f p).bind fun t112 => ((fleuronref01_size.f q).bind fun t113 => ((fleuronref01_lowest.f k neg t112 t113).bind fun bt114 => (some (bt114.1, bt114.2.1, bt114.2.2))))) (exr (Rat.divInt p q)) := by
    intro neg hneg
    obtain ⟨K, hK⟩ := lowest_ev neg hp hq h0 hneg
    refine ⟨K, fun k hk => ?_⟩
    show Option.bind _ _ = _
    rw [rsize_eq hp, rsize_eq hq]
    simp only [Option.bind_some]
    rw [show fleuronref01_lowest.f k neg _ _ = _ from hK k hk]
    simp
  by_cases hs : ((decide (p < 0)) != (decide (q < 0))) = true
  · obtain ⟨K, hK⟩ := fin (p != 0) (by rw [d3]; simp at hs ⊢; omega)
    refine ⟨K, fun k hk => ?_⟩
    show (if q = 0 then _ else _) = _
    rw [if_neg h0, if_pos hs]
    exact hK k hk
  · obtain ⟨K, hK⟩ := fin false (by rw [d3]; simp at hs ⊢; omega)
    refine ⟨K, fun k hk => ?_⟩
    show (if q = 0 then _ else _) = _
    rw [if_neg h0, if_neg hs]
    exact hK k hk
theorem RValid_ev {P Q : Int} (hP : I64 P) (hQ : I64 Q) : Ev (fun k => fleuronref01_Valid.f k P Q) (vB P Q) := by
  unfold fleuronref01_Valid.f
  by_cases h1 : Q ≥ 1
  rotate_left
  · simp only [if_neg h1]; exact Ev.const (congrArg some (decide_eq_false (by omega)).symm)
  simp only [if_pos h1]
  by_cases h2 : Q ≤ 2147483647
  rotate_left
  · simp only [if_neg h2]; exact Ev.const (congrArg some (decide_eq_false (by omega)).symm)
  simp only [if_pos h2]
  by_cases h3 : P ≥ -2147483647
  rotate_left
  · simp only [if_neg h3]; exact Ev.const (congrArg some (decide_eq_false (by omega)).symm)
  simp only [if_pos h3]
  by_cases h4 : P ≤ 2147483647
  rotate_left
  · simp only [if_neg h4]; exact Ev.const (congrArg some (decide_eq_false (by omega)).symm)
  simp only [if_pos h4]
  obtain ⟨K, hK⟩ := rgcd_ev Q.natAbs P.natAbs
  refine ⟨K, fun k hk => ?_⟩
  show Option.bind _ _ = _
  rw [rsize_eq hP, u64_id (by omega) (by omega)]
  simp only [Option.bind_some]
  rw [show Q = (Q.natAbs : Int) by omega, show fleuronref01_gcd.f k (P.natAbs : Int) (Q.natAbs : Int) = _ from hK k hk]
  simp only [Option.bind_some, Option.some.injEq]
  rw [vB_gcd, decide_eq_true (show (1 : Int) ≤ (Q.natAbs : Int) by omega), decide_eq_true (show ((Q.natAbs : Int)) ≤ 2147483647 by omega), decide_eq_true (show -2147483647 ≤ P from h3), decide_eq_true (show P ≤ 2147483647 from h4)]
  simp only [Bool.true_and, Int.natAbs_natCast]
  rw [Bool.eq_iff_iff]; simp only [beq_iff_eq, decide_eq_true_eq]; omega
end Go.Proofs.YtilamkcpbibnmaaGreatDoor.P
