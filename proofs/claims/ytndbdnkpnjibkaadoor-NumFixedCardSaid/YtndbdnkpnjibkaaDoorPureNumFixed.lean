/- The plain law of NumFixed. -/
import Derived.Test.YtndbdnkpnjibkaaDoorFix
import Derived.Test.YtndbdnkpnjibkaaDoorPxfleuronlaw01NumFixed
namespace Go.Proofs.YtndbdnkpnjibkaaDoor.P
open Go.RowKit Go.Proofs.YtndbdnkpnjibkaaDoorW.PrintWords Go.Proofs.YtndbdnkpnjibkaaDoorW.PrintLast Go.Proofs.YtndbdnkpnjibkaaDoorW.PrintMore
set_option linter.unusedVariables false
theorem NumFixed_pure (a b n : Int) (ha : (Lit.int .i64 a).wf = true) (hb : (Lit.int .i64 b).wf = true) (hn : (Lit.int .i64 n).wf = true) : ∃ k, fleuronlaw01_NumFixed.f k a b n = some true := by
  have ia := I64_of ha
  have ib := I64_of hb
  have im := I64_of hn
  refine Ev.here ?_
  have rest : Ev (fun k => fleuronlaw01_NumFixed.j0 k a b) true := by
    refine Ev.succ ?_
    simp only [fleuronlaw01_NumFixed.j0]
    refine Ev.bind (RValid_ev ia ib) ?_
    by_cases hv : vB a b = true
    · refine Ev.pos hv (Ev.bind (Fixed_ev ia ib) ?_)
      rw [if_pos hv]
      refine Ev.pos rfl ?_
      show Ev (fun k => if wrap64 (2 * wrap64 (wrap64 ((131072 * a + b) / (2 * b) * b) - wrap64 (65536 * a))) ≤ b then (if wrap64 (2 * wrap64 (wrap64 ((131072 * a + b) / (2 * b) * b) - wrap64 (65536 * a))) > wrap64 (wrap64 (-b) - 1) then _ else _) else _) _
      obtain ⟨a1, b1, b2⟩ := vB_b hv
      have e := Int.mul_ediv_add_emod (131072 * a + b) (2 * b)
      have m1 := Int.emod_nonneg (131072 * a + b) (show 2 * b ≠ 0 by omega)
      have m2 := Int.emod_lt_of_pos (131072 * a + b) (show 0 < 2 * b by omega)
      obtain ⟨t, ht⟩ : ∃ t : Int, (131072 * a + b) / (2 * b) = t := ⟨_, rfl⟩
      rw [ht] at e ⊢
      have e2 : 2 * b * t = 2 * (t * b) := by rw [Int.mul_assoc, Int.mul_comm b t]
      rw [e2] at e
      rw [w64_id (x := t * b) (by omega) (by omega), w64_id (x := 65536 * a) (by omega) (by omega), w64_id (x := t * b - 65536 * a) (by omega) (by omega), w64_id (x := 2 * (t * b - 65536 * a)) (by omega) (by omega), w64_id (x := -b) (by omega) (by omega), w64_id (x := -b - 1) (by omega) (by omega)]
      exact Ev.pos (by omega) (Ev.pos (by omega) (Ev.bind awake_ev (Ev.const rfl)))
    · exact Ev.neg hv (Ev.bind awake_ev (Ev.const rfl))
  unfold fleuronlaw01_NumFixed.f
  refine Ev.bind (FromFixed_ev im) ?_
  by_cases hs : small (Rat.divInt n 65536)
  · rw [exr_pos hs]
    refine Ev.pos rfl ?_
    have hv := small_vB hs
    have hi := vB_I64 hv
    refine Ev.bind (Fixed_ev hi.1 hi.2) ?_
    rw [if_pos hv]
    refine Ev.pos rfl (Ev.pos ?_ rest)
    show fixv (Rat.divInt n 65536) = n
    rw [← fix_scale (by decide)]
    omega
  · rw [exr_neg hs]
    exact Ev.neg (by show ¬ (17 : Int) = 0; decide) rest
end Go.Proofs.YtndbdnkpnjibkaaDoor.P
