/- The plain law of NumBack. -/
import Derived.Test.YtndbdnkpnjibkaaDoorTxt2
import Derived.Test.YtndbdnkpnjibkaaDoorPxfleuronlaw01NumBack
namespace Go.Proofs.YtndbdnkpnjibkaaDoor.P
open Go.RowKit Go.Proofs.YtndbdnkpnjibkaaDoorW.PrintWords Go.Proofs.YtndbdnkpnjibkaaDoorW.PrintLast Go.Proofs.YtndbdnkpnjibkaaDoorW.PrintMore
set_option linter.unusedVariables false
theorem textL_short {p q : Int} (h : vB p q = true) : (textL p q).length ≤ 100 := by
  obtain ⟨p1, q1, q2⟩ := vB_b h
  have l1 := itoa_len p1
  have l2 := itoa_len q1
  unfold textL
  split
  · simp; omega
  · simp; omega
theorem NumBack_pure (a b c d : Int) (s : ByteArray) (ha : (Lit.int .i64 a).wf = true) (hb : (Lit.int .i64 b).wf = true) (hc : (Lit.int .i64 c).wf = true) (hd : (Lit.int .i64 d).wf = true) (hs : s.size ≤ 140737488351232) : ∃ k, fleuronlaw01_NumBack.f k a b c d s = some true := by
  have ia := I64_of ha
  have ib := I64_of hb
  have ic := I64_of hc
  have id := I64_of hd
  refine Ev.here ?_
  unfold fleuronlaw01_NumBack.f
  by_cases hl : (s.size : Int) > 10000
  · exact Ev.pos hl (Ev.bind awake_ev (Ev.const rfl))
  have hz : s.size ≤ 1000000 := by omega
  refine Ev.neg hl ?_
  have j1 : Ev (fun k => fleuronlaw01_NumBack.j1 k s) true := by
    refine Ev.succ ?_
    simp only [fleuronlaw01_NumBack.j1]
    refine Ev.bind (Parse_ev hz) ?_
    by_cases hg : ∃ p q, good s.data.toList p q
    · obtain ⟨p, q, hg⟩ := hg
      rw [parseV_good hg]
      have hi := vB_I64 hg.1
      refine Ev.pos rfl (Ev.bind (Text_ev hi.1 hi.2) ?_)
      unfold textV
      rw [if_pos hg.1]
      refine Ev.pos rfl (Ev.pos (by rw [tl_data, tl_data]; exact hg.2) (Ev.bind (RValid_ev hi.1 hi.2) (Ev.pos hg.1 (Ev.bind awake_ev (Ev.const rfl)))))
    · rw [parseV_bad (fun p q h => hg ⟨p, q, h⟩)]
      exact Ev.neg (by show ¬ (30 : Int) = 0; decide) (Ev.bind awake_ev (Ev.const rfl))
  have no : Ev (fun k => fleuronlaw01_NumBack.j0 k s false a b c d) true := by
    refine Ev.succ ?_
    simp only [fleuronlaw01_NumBack.j0]
    exact Ev.neg (by decide) j1
  refine Ev.bind (RValid_ev ia ib) ?_
  by_cases hv : vB a b = true
  rotate_left
  · exact Ev.neg hv no
  refine Ev.pos hv (Ev.bind (RValid_ev ic id) ?_)
  by_cases hw : vB c d = true
  rotate_left
  · rw [Bool.eq_false_iff.mpr hw]; exact no
  rw [hw]
  refine Ev.succ ?_
  simp only [fleuronlaw01_NumBack.j0]
  refine Ev.pos trivial (Ev.bind (Text_ev ia ib) (Ev.bind (Text_ev ic id) ?_))
  unfold textV
  rw [if_pos hv, if_pos hw]
  have ga : good (textL a b) a b := ⟨hv, rfl⟩
  have gc : good (textL c d) c d := ⟨hw, rfl⟩
  have hp := Parse_ev (s := ⟨(textL a b).toArray⟩) (by rw [ba_size]; have := textL_short hv; omega)
  rw [show ((⟨(textL a b).toArray⟩ : ByteArray).data.toList) = textL a b from rfl, parseV_good ga] at hp
  refine Ev.bind hp (Ev.pos rfl (Ev.pos rfl (Ev.pos rfl (Ev.neg (by simp) (Ev.neg ?_ j1)))))
  rw [tl_data, tl_data]
  show ¬ ((textL a b == textL c d) != (a == c && (b == d))) = true
  by_cases e : textL a b = textL c d
  · have h1 := good_is ga
    have h2 := good_is gc
    rw [e] at h1
    have e1 : a = c := h1.1.trans h2.1.symm
    have e2 : b = d := h1.2.trans h2.2.symm
    subst e1 e2
    simp
  · have : ¬ (a = c ∧ b = d) := fun h => e (by rw [h.1, h.2])
    rw [beq_eq_false_iff_ne.mpr e]
    simp
    intro h1 h2; exact this ⟨h1, h2⟩
end Go.Proofs.YtndbdnkpnjibkaaDoor.P
