-- PRINTED by print.py (a twelfth state) out of the translation. Not trusted: Lean checks it.
import Derived.Test.YtndbdnkpnjibkaaDoorPx0
import Derived.Test.YtndbdnkpnjibkaaDoorPxEq1
import Derived.Test.YtndbdnkpnjibkaaDoorPxrationalsize
import Derived.Test.YtndbdnkpnjibkaaDoorPxnumdo
import Derived.Test.YtndbdnkpnjibkaaDoorPxfleuronlaw01awake
import Derived.Test.YtndbdnkpnjibkaaDoorPxnumParse
namespace Go.Proofs.YtndbdnkpnjibkaaDoor.P
open Go.RowKit Go.Proofs.YtndbdnkpnjibkaaDoorW.PrintWords Go.Proofs.YtndbdnkpnjibkaaDoorW.PrintLast Go.Proofs.YtndbdnkpnjibkaaDoorW.PrintMore
attribute [local go_sem] max2_int min2_int max_two min_two max_three min_three max_four min_four   -- for this text's walks alone
set_option linter.unusedVariables false
set_option linter.unusedSimpArgs false

attribute [local go_sem high] eqA23
/-! ### fleuronlaw01_NumBack: function 10 -/
mutual
def fleuronlaw01_NumBack.j0 : Nat → ByteArray → Bool → Int → Int → Int → Int → Option (Bool)
  | 0, _, _, _, _, _, _ => none
  | k + 1, x2, x26, x576000, x576001, x577000, x577001 => if x26 = true then ((num_Text.f k x576000 x576001).bind fun bt580 => ((num_Text.f k x577000 x577001).bind fun bt582 => ((num_Parse.f k bt580.1).bind fun bt584 => (if bt580.2 = 0 then (if bt582.2 = 0 then (if bt584.2.2 = 0 then (if (!(bt584.1 == x576000) || (!(bt584.2.1 == x576001))) = true then (none) else (if ((bt580.1.toList == bt582.1.toList) != (x576000 == x577000 && (x576001 == x577001))) = true then (none) else (fleuronlaw01_NumBack.j1 k x2))) else (none)) else (none)) else (none))))) else (fleuronlaw01_NumBack.j1 k x2)
def fleuronlaw01_NumBack.j1 : Nat → ByteArray → Option (Bool)
  | 0, _ => none
  | k + 1, x2 => (num_Parse.f k x2).bind fun bt588 => (if bt588.2.2 = 0 then ((num_Text.f k bt588.1 bt588.2.1).bind fun bt592 => (if bt592.2 = 0 then (if bt592.1.toList = x2.toList then ((fleuronref01_Valid.f k bt588.1 bt588.2.1).bind fun t594 => (if t594 = true then ((fleuronlaw01_awake.f k).bind fun t595 => (some t595)) else (none))) else (none)) else (none))) else ((fleuronlaw01_awake.f k).bind fun t596 => (some t596)))
end
def fleuronlaw01_NumBack.f (k : Nat) (a0_0 : Int) (a0_1 : Int) (a1_0 : Int) (a1_1 : Int) (a2 : ByteArray) : Option (Bool) := if (a2.size : Int) > 10000 then ((fleuronlaw01_awake.f k).bind fun t577 => (some t577)) else ((fleuronref01_Valid.f k a0_0 a0_1).bind fun t578 => (if t578 = true then ((fleuronref01_Valid.f k a1_0 a1_1).bind fun t579 => (fleuronlaw01_NumBack.j0 k a2 t579 a0_0 a0_1 a1_0 a1_1)) else (fleuronlaw01_NumBack.j0 k a2 false a0_0 a0_1 a1_0 a1_1)))
theorem fleuronlaw01_NumBack.mono_l : ∀ k, (∀ y0 y1 y2 y3 y4 y5, LeO (fleuronlaw01_NumBack.j0 k y0 y1 y2 y3 y4 y5) (fleuronlaw01_NumBack.j0 (k + 1) y0 y1 y2 y3 y4 y5)) ∧ (∀ y0, LeO (fleuronlaw01_NumBack.j1 k y0) (fleuronlaw01_NumBack.j1 (k + 1) y0))
  | 0 => ⟨fun _ _ _ _ _ _ r h => by simp [fleuronlaw01_NumBack.j0] at h, fun _ r h => by simp [fleuronlaw01_NumBack.j1] at h⟩
  | k + 1 => by
    obtain ⟨ih0, ih1⟩ := fleuronlaw01_NumBack.mono_l k
    refine ⟨?_, ?_⟩
    · intro y0 y1 y2 y3 y4 y5
      unfold fleuronlaw01_NumBack.j0
      repeat' first
      | (with_reducible exact ih0 _ _ _ _ _ _)
      | (with_reducible exact ih1 _)
      | (with_reducible exact fleuronlaw01_awake.mono _)
      | (with_reducible exact fleuronref01_Valid.mono _ _ _)
      | (with_reducible exact num_Parse.mono _ _)
      | (with_reducible exact num_Text.mono _ _ _)
      | (with_reducible exact LeO.refl _)
      | (with_reducible exact LeO.none _)
      | (with_reducible refine LeO.ite ?_ ?_)
      | (with_reducible refine LeO.bind ?_ (fun _ => ?_))
      | exact ih0 _ _ _ _ _ _
      | exact ih1 _
      | exact fleuronlaw01_awake.mono _
      | exact fleuronref01_Valid.mono _ _ _
      | exact num_Parse.mono _ _
      | exact num_Text.mono _ _ _
      | exact LeO.none _
      | refine LeO.ite ?_ ?_
      | refine LeO.bind ?_ (fun _ => ?_)
    · intro y0
      unfold fleuronlaw01_NumBack.j1
      repeat' first
      | (with_reducible exact ih0 _ _ _ _ _ _)
      | (with_reducible exact ih1 _)
      | (with_reducible exact fleuronlaw01_awake.mono _)
      | (with_reducible exact fleuronref01_Valid.mono _ _ _)
      | (with_reducible exact num_Parse.mono _ _)
      | (with_reducible exact num_Text.mono _ _ _)
      | (with_reducible exact LeO.refl _)
      | (with_reducible exact LeO.none _)
      | (with_reducible refine LeO.ite ?_ ?_)
      | (with_reducible refine LeO.bind ?_ (fun _ => ?_))
      | exact ih0 _ _ _ _ _ _
      | exact ih1 _
      | exact fleuronlaw01_awake.mono _
      | exact fleuronref01_Valid.mono _ _ _
      | exact num_Parse.mono _ _
      | exact num_Text.mono _ _ _
      | exact LeO.none _
      | refine LeO.ite ?_ ?_
      | refine LeO.bind ?_ (fun _ => ?_)
theorem fleuronlaw01_NumBack.mono : ∀ a0 a1 a2 a3 a4 k, LeO (fleuronlaw01_NumBack.f k a0 a1 a2 a3 a4) (fleuronlaw01_NumBack.f (k + 1) a0 a1 a2 a3 a4) := by
  intro a0 a1 a2 a3 a4 k
  obtain ⟨ih0, ih1⟩ := fleuronlaw01_NumBack.mono_l k
  unfold fleuronlaw01_NumBack.f
  repeat' first
      | (with_reducible exact ih0 _ _ _ _ _ _)
      | (with_reducible exact ih1 _)
      | (with_reducible exact fleuronlaw01_awake.mono _)
      | (with_reducible exact fleuronref01_Valid.mono _ _ _)
      | (with_reducible exact num_Parse.mono _ _)
      | (with_reducible exact num_Text.mono _ _ _)
      | (with_reducible exact LeO.refl _)
      | (with_reducible exact LeO.none _)
      | (with_reducible refine LeO.ite ?_ ?_)
      | (with_reducible refine LeO.bind ?_ (fun _ => ?_))
      | exact ih0 _ _ _ _ _ _
      | exact ih1 _
      | exact fleuronlaw01_awake.mono _
      | exact fleuronref01_Valid.mono _ _ _
      | exact num_Parse.mono _ _
      | exact num_Text.mono _ _ _
      | exact LeO.none _
      | refine LeO.ite ?_ ?_
      | refine LeO.bind ?_ (fun _ => ?_)
set_option maxHeartbeats 8000000 in
set_option maxRecDepth 100000 in
theorem fleuronlaw01_NumBack.calls (k : Nat) (a0_0 : Int) (a0_1 : Int) (a1_0 : Int) (a1_1 : Int) (a2 : ByteArray) (r : Bool) (w : World) (h : fleuronlaw01_NumBack.f k a0_0 a0_1 a1_0 a1_1 a2 = some r) (hG : Glob w) :
    Calls Tryd.prog 10 #[.agg #[.int .i64 a0_0, .int .i64 a0_1], .agg #[.int .i64 a1_0, .int .i64 a1_1], .string a2] w fun e w' => e = .returned (.bool r) ∧ Below w.heap.size w w' := by
  have HG := Fa.mk hG
  clear hG
  have hu23 := Tryd.underlying23
  have HB := Fa.mk (Below.refl w.heap.size w)
  have H : (if (a2.size : Int) > 10000 then ((fleuronlaw01_awake.f k).bind fun t577 => (some t577)) else ((fleuronref01_Valid.f k a0_0 a0_1).bind fun t578 => (if t578 = true then ((fleuronref01_Valid.f k a1_0 a1_1).bind fun t579 => (fleuronlaw01_NumBack.j0 k a2 t579 a0_0 a0_1 a1_0 a1_1)) else (fleuronlaw01_NumBack.j0 k a2 false a0_0 a0_1 a1_0 a1_1)))) = some r := h
  clear h
  by_cases c4 : (a2.size : Int) > 10000
  · rw [if_pos c4] at H
    have c4b0 : decide (10000 < (a2.size : Int)) = true := decide_eq_true c4
    have c4b1 : decide (10000 < a2.size) = true := decide_eq_true (by omega)
    clear c4
    replace H := Option.bind_eq_some_iff.mp H
    obtain ⟨t577, A50, H⟩ := H
    replace H : (some t577) = some r := H
    have A5 := Fa.mk A50
    clear A50
    obtain rfl := Option.some.inj H
    go_enter Tryd.func10, Tryd.ntmps10
    go_wp2_with (first | ((with_reducible refine gate_dst (N := 3) rfl ?_); refine boxF (N := 3) (cs := #[.int .i64 a0_0, .int .i64 a0_1]) (t := 23) ?_; intro gb575 hg w6 hbox hb; have n0_ := Fa.mk (bst w hb); have n1_ := Fa.mk (hbox); have n2_ := Fa.mk (gle hg : w.heap.size ≤ gb575); have n3_ := n2_; clear HB; have HB := n0_; have BK575 := n1_; have GW575 := n2_; have GE575 := n3_; clear n0_ n1_ n2_ n3_; clear hb hbox hg) | ((with_reducible refine gate_dst (N := 4) rfl ?_); refine boxF (N := 4) (cs := #[.int .i64 a1_0, .int .i64 a1_1]) (t := 23) ?_; intro gb576 hg w7 hbox hb; have n0_ := Fa.mk (blk_below (g := gb575) (o := .cells #[.int .i64 a0_0, .int .i64 a0_1] 23 (0, 0)) fa hb); have n1_ := Fa.mk (bst w hb); have n2_ := Fa.mk (hbox); have n3_ := Fa.mk (gle hg : w.heap.size ≤ gb576); have n4_ := n3_; have n5_ := Fa.mk (gne (o := .cells #[.int .i64 a0_0, .int .i64 a0_1] 23 (0, 0)) hg : gb575 ≠ gb576); have n6_ := Fa.mk n5_.out.symm; clear BK575; clear HB; have BK575 := n0_; have HB := n1_; have BK576 := n2_; have GW576 := n3_; have GE576 := n4_; have NB575_576 := n5_; have NB576_575 := n6_; clear n0_ n1_ n2_ n3_ n4_ n5_ n6_; clear hb hbox hg) | ((with_reducible refine gate_callee (f := 17) rfl ?_); refine goesA (some 20) rfl rfl Tryd.func17 (by kernel_rfl) rfl #[] rfl ?_; (with_reducible refine (fleuronlaw01_awake.calls k  t577 _ A5.out (HG.out.below fa)).mono ?_); rintro e w8 ⟨rfl, hb⟩; refine ⟨_, rfl, ?_⟩; have n0_ := Fa.mk (blk_below (g := gb575) (o := .cells #[.int .i64 a0_0, .int .i64 a0_1] 23 (0, 0)) fa hb); have n1_ := Fa.mk (blk_below (g := gb576) (o := .cells #[.int .i64 a1_0, .int .i64 a1_1] 23 (0, 0)) fa hb); have n2_ := Fa.mk (bst w hb); clear BK575; clear BK576; clear HB; have BK575 := n0_; have BK576 := n1_; have HB := n2_; clear n0_ n1_ n2_; (try clear hb); (try clear hb2); (try clear hk); (try clear hi)))
    go_ret
    exact ⟨by first | rfl | (simp [errW_none, errW_some] <;> rfl) | (simp [*, errW_none, errW_some] <;> rfl), fa⟩
  · rw [if_neg c4] at H
    have c4b0 : decide (10000 < (a2.size : Int)) = false := decide_eq_false c4
    have c4b1 : decide (10000 < a2.size) = false := decide_eq_false (by omega)
    clear c4
    have HC9 := Fa.mk H
    clear H
    go_enter Tryd.func10, Tryd.ntmps10
    go_upto_region 3 with (first | ((with_reducible refine gate_dst (N := 3) rfl ?_); refine boxF (N := 3) (cs := #[.int .i64 a0_0, .int .i64 a0_1]) (t := 23) ?_; intro gb575 hg w10 hbox hb; have n0_ := Fa.mk (bst w hb); have n1_ := Fa.mk (hbox); have n2_ := Fa.mk (gle hg : w.heap.size ≤ gb575); have n3_ := n2_; clear HB; have HB := n0_; have BK575 := n1_; have GW575 := n2_; have GE575 := n3_; clear n0_ n1_ n2_ n3_; clear hb hbox hg) | ((with_reducible refine gate_dst (N := 4) rfl ?_); refine boxF (N := 4) (cs := #[.int .i64 a1_0, .int .i64 a1_1]) (t := 23) ?_; intro gb576 hg w11 hbox hb; have n0_ := Fa.mk (blk_below (g := gb575) (o := .cells #[.int .i64 a0_0, .int .i64 a0_1] 23 (0, 0)) fa hb); have n1_ := Fa.mk (bst w hb); have n2_ := Fa.mk (hbox); have n3_ := Fa.mk (gle hg : w.heap.size ≤ gb576); have n4_ := n3_; have n5_ := Fa.mk (gne (o := .cells #[.int .i64 a0_0, .int .i64 a0_1] 23 (0, 0)) hg : gb575 ≠ gb576); have n6_ := Fa.mk n5_.out.symm; clear BK575; clear HB; have BK575 := n0_; have HB := n1_; have BK576 := n2_; have GW576 := n3_; have GE576 := n4_; have NB575_576 := n5_; have NB576_575 := n6_; clear n0_ n1_ n2_ n3_ n4_ n5_ n6_; clear hb hbox hg))
    (try simp only [Act.put, List.setIfInBounds_toArray, List.set_cons_zero, List.set_cons_succ])
    go_cut [26] (fun v26 wc => ∃ (kq : Nat) (x26_8 : Bool), v26 = .bool x26_8 ∧ Fa (fleuronlaw01_NumBack.j0 kq a2 x26_8 a0_0 a0_1 a1_0 a1_1 = some r) ∧ Fa (kq ≤ k) ∧ Fa (wc.heap[gb575]? = some (.cells #[.int .i64 a0_0, .int .i64 a0_1] 23 (0, 0))) ∧ Fa (wc.heap[gb576]? = some (.cells #[.int .i64 a1_0, .int .i64 a1_1] 23 (0, 0))) ∧ Fa (Below w.heap.size w wc))
    case first =>
      have H := HC9.out
      clear HC9
      replace H := Option.bind_eq_some_iff.mp H
      obtain ⟨t578, A120, H⟩ := H
      replace H : (if t578 = true then ((fleuronref01_Valid.f k a1_0 a1_1).bind fun t579 => (fleuronlaw01_NumBack.j0 k a2 t579 a0_0 a0_1 a1_0 a1_1)) else (fleuronlaw01_NumBack.j0 k a2 false a0_0 a0_1 a1_0 a1_1)) = some r := H
      have A12 := Fa.mk A120
      clear A120
      by_cases c13 : t578 = true
      · subst c13
        have H1 : ((fleuronref01_Valid.f k a1_0 a1_1).bind fun t579 => (fleuronlaw01_NumBack.j0 k a2 t579 a0_0 a0_1 a1_0 a1_1)) = some r := by rw [if_pos rfl] at H; exact H
        clear H
        have H := H1
        clear H1
        replace H := Option.bind_eq_some_iff.mp H
        obtain ⟨t579, A140, H⟩ := H
        replace H : (fleuronlaw01_NumBack.j0 k a2 t579 a0_0 a0_1 a1_0 a1_1) = some r := H
        have A14 := Fa.mk A140
        clear A140
        have H' := Fa.mk H
        clear H
        have hnb15 := NB575_576.out
        have hnc15 := NB576_575.out
        have hcz16_0 : w11.cell? ⟨gb575, 0, none⟩ = some (.int .i64 a0_0) := (blk_cell BK575.out 0).trans rfl
        have hcz16_1 : w11.cell? ⟨gb575, 1, none⟩ = some (.int .i64 a0_1) := (blk_cell BK575.out 1).trans rfl
        have hfz16_0 := blk_frozen BK575.out 0
        have hfz16_1 := blk_frozen BK575.out 1
        go_wp2_with (first | ((with_reducible refine gate_callee (f := 16) rfl ?_); refine goesA (some 22) rfl rfl Tryd.func16 (by kernel_rfl) rfl #[.agg #[.int .i64 a0_0, .int .i64 a0_1]] rfl ?_; (with_reducible refine (fleuronref01_Valid.calls k a0_0 a0_1 true _ A12.out).mono ?_); rintro e w17 ⟨rfl, hb⟩; refine ⟨_, rfl, ?_⟩; have n0_ := Fa.mk (blk_below (g := gb575) (o := .cells #[.int .i64 a0_0, .int .i64 a0_1] 23 (0, 0)) fa hb); have n1_ := Fa.mk (blk_below (g := gb576) (o := .cells #[.int .i64 a1_0, .int .i64 a1_1] 23 (0, 0)) fa hb); have n2_ := Fa.mk (bst w hb); clear BK575; clear BK576; clear HB; have BK575 := n0_; have BK576 := n1_; have HB := n2_; clear n0_ n1_ n2_; (try clear hb); (try clear hb2); (try clear hk); (try clear hi); have hcz18_0 : w17.cell? ⟨gb576, 0, none⟩ = some (.int .i64 a1_0) := (blk_cell BK576.out 0).trans rfl; have hcz18_1 : w17.cell? ⟨gb576, 1, none⟩ = some (.int .i64 a1_1) := (blk_cell BK576.out 1).trans rfl; have hfz18_0 := blk_frozen BK576.out 0; have hfz18_1 := blk_frozen BK576.out 1) | (go_at_call 16; (with_reducible refine (fleuronref01_Valid.calls k a1_0 a1_1 t579 _ A14.out).mono ?_); rintro e w19 ⟨rfl, hb⟩; have n0_ := Fa.mk (blk_below (g := gb575) (o := .cells #[.int .i64 a0_0, .int .i64 a0_1] 23 (0, 0)) fa hb); have n1_ := Fa.mk (blk_below (g := gb576) (o := .cells #[.int .i64 a1_0, .int .i64 a1_1] 23 (0, 0)) fa hb); have n2_ := Fa.mk (bst w hb); clear BK575; clear BK576; clear HB; have BK575 := n0_; have BK576 := n1_; have HB := n2_; clear n0_ n1_ n2_; (try clear hb); (try clear hb2); (try clear hk); (try clear hi)))
        go_meet
        case rel => exact ⟨_, (t579), (by first | rfl | (simp; done) | (simp [*]; done)), H', ⟨by first | omega | exact Nat.le_refl _⟩, ⟨by (with_reducible repeat (first | refine blk_drewN ?_ _ | refine blk_drew ?_ | refine blk_alloc ?_ _)); exact BK575.out⟩, ⟨by (with_reducible repeat (first | refine blk_drewN ?_ _ | refine blk_drew ?_ | refine blk_alloc ?_ _)); exact BK576.out⟩, ⟨fa⟩⟩
      · replace c13 := Bool.eq_false_iff.mpr c13
        subst c13
        have H1 : (fleuronlaw01_NumBack.j0 k a2 false a0_0 a0_1 a1_0 a1_1) = some r := by rw [if_neg (show ¬ (false = true) by decide)] at H; exact H
        clear H
        have H := H1
        clear H1
        have H' := Fa.mk H
        clear H
        have hnb20 := NB575_576.out
        have hnc20 := NB576_575.out
        have hcz21_0 : w11.cell? ⟨gb575, 0, none⟩ = some (.int .i64 a0_0) := (blk_cell BK575.out 0).trans rfl
        have hcz21_1 : w11.cell? ⟨gb575, 1, none⟩ = some (.int .i64 a0_1) := (blk_cell BK575.out 1).trans rfl
        have hfz21_0 := blk_frozen BK575.out 0
        have hfz21_1 := blk_frozen BK575.out 1
        go_wp2_with (first | ((with_reducible refine gate_callee (f := 16) rfl ?_); refine goesA (some 22) rfl rfl Tryd.func16 (by kernel_rfl) rfl #[.agg #[.int .i64 a0_0, .int .i64 a0_1]] rfl ?_; (with_reducible refine (fleuronref01_Valid.calls k a0_0 a0_1 false _ A12.out).mono ?_); rintro e w22 ⟨rfl, hb⟩; refine ⟨_, rfl, ?_⟩; have n0_ := Fa.mk (blk_below (g := gb575) (o := .cells #[.int .i64 a0_0, .int .i64 a0_1] 23 (0, 0)) fa hb); have n1_ := Fa.mk (blk_below (g := gb576) (o := .cells #[.int .i64 a1_0, .int .i64 a1_1] 23 (0, 0)) fa hb); have n2_ := Fa.mk (bst w hb); clear BK575; clear BK576; clear HB; have BK575 := n0_; have BK576 := n1_; have HB := n2_; clear n0_ n1_ n2_; (try clear hb); (try clear hb2); (try clear hk); (try clear hi)))
        go_meet
        case rel => exact ⟨_, (false), (by first | rfl | (simp; done) | (simp [*]; done)), H', ⟨by first | omega | exact Nat.le_refl _⟩, ⟨by (with_reducible repeat (first | refine blk_drewN ?_ _ | refine blk_drew ?_ | refine blk_alloc ?_ _)); exact BK575.out⟩, ⟨by (with_reducible repeat (first | refine blk_drewN ?_ _ | refine blk_drew ?_ | refine blk_alloc ?_ _)); exact BK576.out⟩, ⟨fa⟩⟩
    case rest =>
      clear HC9
      try clear c1
      try clear c2
      try clear p2
      try clear c4
      try clear c4b0
      try clear c4b1
      try clear c10
      try clear c13
      try clear c15
      try clear c16
      try clear c17
      try clear c20
      try clear hcz16_0
      try clear hcz16_1
      try clear hcz18_0
      try clear hcz18_1
      try clear hcz21_0
      try clear hcz21_1
      try clear hfz16_0
      try clear hfz16_1
      try clear hfz18_0
      try clear hfz18_1
      try clear hfz21_0
      try clear hfz21_1
      obtain ⟨kq, x26_8, rfl, HA, HJ8, BK575, BK576, HB⟩ := hcut
      cases kq with
      | zero => exact absurd HA.out (by simp [fleuronlaw01_NumBack.j0])
      | succ kj8 =>
        have H := HA.out
        clear HA
        simp only [fleuronlaw01_NumBack.j0] at H
        have HC23 := Fa.mk H
        clear H
        go_upto_if 26 with (fail)
        go_cut [] (fun wc => ∃ (kq : Nat), Fa (fleuronlaw01_NumBack.j1 kq a2 = some r) ∧ Fa (kq ≤ kj8) ∧ Fa (wc.heap[gb575]? = some (.cells #[.int .i64 a0_0, .int .i64 a0_1] 23 (0, 0))) ∧ Fa (wc.heap[gb576]? = some (.cells #[.int .i64 a1_0, .int .i64 a1_1] 23 (0, 0))) ∧ Fa (Below w.heap.size w wc))
        case first =>
          have H := HC23.out
          clear HC23
          by_cases c24 : x26_8 = true
          · subst c24
            have H1 : ((num_Text.f kj8 a0_0 a0_1).bind fun bt580 => ((num_Text.f kj8 a1_0 a1_1).bind fun bt582 => ((num_Parse.f kj8 bt580.1).bind fun bt584 => (if bt580.2 = 0 then (if bt582.2 = 0 then (if bt584.2.2 = 0 then (if (!(bt584.1 == a0_0) || (!(bt584.2.1 == a0_1))) = true then (none) else (if ((bt580.1.toList == bt582.1.toList) != (a0_0 == a1_0 && (a0_1 == a1_1))) = true then (none) else (fleuronlaw01_NumBack.j1 kj8 a2))) else (none)) else (none)) else (none))))) = some r := by rw [if_pos rfl] at H; exact H
            clear H
            have H := H1
            clear H1
            replace H := Option.bind_eq_some_iff.mp H
            obtain ⟨⟨t580, t581⟩, A250, H⟩ := H
            replace H : ((num_Text.f kj8 a1_0 a1_1).bind fun bt582 => ((num_Parse.f kj8 t580).bind fun bt584 => (if t581 = 0 then (if bt582.2 = 0 then (if bt584.2.2 = 0 then (if (!(bt584.1 == a0_0) || (!(bt584.2.1 == a0_1))) = true then (none) else (if ((t580.toList == bt582.1.toList) != (a0_0 == a1_0 && (a0_1 == a1_1))) = true then (none) else (fleuronlaw01_NumBack.j1 kj8 a2))) else (none)) else (none)) else (none)))) = some r := H
            have A25 := Fa.mk A250
            clear A250
            replace H := Option.bind_eq_some_iff.mp H
            obtain ⟨⟨t582, t583⟩, A260, H⟩ := H
            replace H : ((num_Parse.f kj8 t580).bind fun bt584 => (if t581 = 0 then (if t583 = 0 then (if bt584.2.2 = 0 then (if (!(bt584.1 == a0_0) || (!(bt584.2.1 == a0_1))) = true then (none) else (if ((t580.toList == t582.toList) != (a0_0 == a1_0 && (a0_1 == a1_1))) = true then (none) else (fleuronlaw01_NumBack.j1 kj8 a2))) else (none)) else (none)) else (none))) = some r := H
            have A26 := Fa.mk A260
            clear A260
            replace H := Option.bind_eq_some_iff.mp H
            obtain ⟨⟨t584, t585, t586⟩, A270, H⟩ := H
            replace H : (if t581 = 0 then (if t583 = 0 then (if t586 = 0 then (if (!(t584 == a0_0) || (!(t585 == a0_1))) = true then (none) else (if ((t580.toList == t582.toList) != (a0_0 == a1_0 && (a0_1 == a1_1))) = true then (none) else (fleuronlaw01_NumBack.j1 kj8 a2))) else (none)) else (none)) else (none)) = some r := H
            have A27 := Fa.mk A270
            clear A270
            by_cases c28 : t581 = 0
            · rw [if_pos c28] at H
              have c28b0 : (t581 == 0) = true := beq_iff_eq.mpr c28
              have c28b1 : (t581 != 0) = false := bne_eq_false_iff_eq.mpr c28
              clear c28
              (first | rw [c28b0] | (simp only [i64_w, i32_w]; rw [c28b0]) | skip)
              by_cases c29 : t583 = 0
              · rw [if_pos c29] at H
                have c29b0 : (t583 == 0) = true := beq_iff_eq.mpr c29
                have c29b1 : (t583 != 0) = false := bne_eq_false_iff_eq.mpr c29
                clear c29
                by_cases c30 : t586 = 0
                · rw [if_pos c30] at H
                  have c30b0 : (t586 == 0) = true := beq_iff_eq.mpr c30
                  have c30b1 : (t586 != 0) = false := bne_eq_false_iff_eq.mpr c30
                  clear c30
                  by_cases c31 : (!(t584 == a0_0) || (!(t585 == a0_1))) = true
                  · rw [if_pos c31] at H
                    exact absurd H (by simp)
                  · rw [if_neg c31] at H
                    have c31b0 : (!(t584 == a0_0) || (!(t585 == a0_1))) = false := by simpa using c31
                    clear c31
                    by_cases c32 : ((t580.toList == t582.toList) != (a0_0 == a1_0 && (a0_1 == a1_1))) = true
                    · rw [if_pos c32] at H
                      exact absurd H (by simp)
                    · rw [if_neg c32] at H
                      have c32b0 : ((t580.toList == t582.toList) != (a0_0 == a1_0 && (a0_1 == a1_1))) = false := by simpa using c32
                      (try (have c32b1 : decide ((t580.toList == t582.toList) = (a0_0 == a1_0 && (a0_1 == a1_1))) = true := by simpa using c32))
                      (try (have c32b2 : ((t580.toList == t582.toList) == (a0_0 == a1_0 && (a0_1 == a1_1))) = true := by simpa using c32))
                      clear c32
                      have H' := Fa.mk H
                      clear H
                      have hnb33 := NB575_576.out
                      have hnc33 := NB576_575.out
                      have hcz34_0 : wc.cell? ⟨gb575, 0, none⟩ = some (.int .i64 a0_0) := (blk_cell BK575.out 0).trans rfl
                      have hcz34_1 : wc.cell? ⟨gb575, 1, none⟩ = some (.int .i64 a0_1) := (blk_cell BK575.out 1).trans rfl
                      have hfz34_0 := blk_frozen BK575.out 0
                      have hfz34_1 := blk_frozen BK575.out 1
                      go_wp2_with (first | ((with_reducible refine gate_callee (f := 32) rfl ?_); refine goesA (some 29) rfl rfl Tryd.func32 (by kernel_rfl) rfl #[.agg #[.int .i64 a0_0, .int .i64 a0_1]] rfl ?_; (with_reducible refine (num_Text.calls kj8 a0_0 a0_1 t580 t581 _ A25.out (HG.out.below fa)).mono ?_); rintro e w35 ⟨rfl, hb⟩; refine ⟨_, rfl, ?_⟩; have n0_ := Fa.mk (blk_below (g := gb575) (o := .cells #[.int .i64 a0_0, .int .i64 a0_1] 23 (0, 0)) fa hb); have n1_ := Fa.mk (blk_below (g := gb576) (o := .cells #[.int .i64 a1_0, .int .i64 a1_1] 23 (0, 0)) fa hb); have n2_ := Fa.mk (bst w hb); clear BK575; clear BK576; clear HB; have BK575 := n0_; have BK576 := n1_; have HB := n2_; clear n0_ n1_ n2_; (try clear hb); (try clear hb2); (try clear hk); (try clear hi); have hcz36_0 : w35.cell? ⟨gb576, 0, none⟩ = some (.int .i64 a1_0) := (blk_cell BK576.out 0).trans rfl; have hcz36_1 : w35.cell? ⟨gb576, 1, none⟩ = some (.int .i64 a1_1) := (blk_cell BK576.out 1).trans rfl; have hfz36_0 := blk_frozen BK576.out 0; have hfz36_1 := blk_frozen BK576.out 1) | ((with_reducible refine gate_callee (f := 32) rfl ?_); refine goesA (some 34) rfl rfl Tryd.func32 (by kernel_rfl) rfl #[.agg #[.int .i64 a1_0, .int .i64 a1_1]] rfl ?_; (with_reducible refine (num_Text.calls kj8 a1_0 a1_1 t582 t583 _ A26.out (HG.out.below fa)).mono ?_); rintro e w37 ⟨rfl, hb⟩; refine ⟨_, rfl, ?_⟩; have n0_ := Fa.mk (blk_below (g := gb575) (o := .cells #[.int .i64 a0_0, .int .i64 a0_1] 23 (0, 0)) fa hb); have n1_ := Fa.mk (blk_below (g := gb576) (o := .cells #[.int .i64 a1_0, .int .i64 a1_1] 23 (0, 0)) fa hb); have n2_ := Fa.mk (bst w hb); clear BK575; clear BK576; clear HB; have BK575 := n0_; have BK576 := n1_; have HB := n2_; clear n0_ n1_ n2_; (try clear hb); (try clear hb2); (try clear hk); (try clear hi)) | ((with_reducible refine gate_callee (f := 34) rfl ?_); refine goesA (some 39) rfl rfl Tryd.func34 (by kernel_rfl) rfl #[.string t580] rfl ?_; (with_reducible refine (num_Parse.calls kj8 t580 t584 t585 t586 _ A27.out (HG.out.below fa)).mono ?_); rintro e w38 ⟨rfl, hb⟩; refine ⟨_, rfl, ?_⟩; have n0_ := Fa.mk (blk_below (g := gb575) (o := .cells #[.int .i64 a0_0, .int .i64 a0_1] 23 (0, 0)) fa hb); have n1_ := Fa.mk (blk_below (g := gb576) (o := .cells #[.int .i64 a1_0, .int .i64 a1_1] 23 (0, 0)) fa hb); have n2_ := Fa.mk (bst w hb); clear BK575; clear BK576; clear HB; have BK575 := n0_; have BK576 := n1_; have HB := n2_; clear n0_ n1_ n2_; (try clear hb); (try clear hb2); (try clear hk); (try clear hi)) | ((with_reducible refine gate_dst (N := 11) rfl ?_); refine boxF (N := 11) (cs := #[.int .i64 0, .int .i64 0]) (t := 23) ?_; intro gb587 hg w39 hbox hb; have n0_ := Fa.mk (blk_below (g := gb575) (o := .cells #[.int .i64 a0_0, .int .i64 a0_1] 23 (0, 0)) fa hb); have n1_ := Fa.mk (blk_below (g := gb576) (o := .cells #[.int .i64 a1_0, .int .i64 a1_1] 23 (0, 0)) fa hb); have n2_ := Fa.mk (bst w hb); have n3_ := Fa.mk (hbox); have n4_ := Fa.mk (gle hg : w.heap.size ≤ gb587); have n5_ := n4_; have n6_ := Fa.mk (gne (o := .cells #[.int .i64 a0_0, .int .i64 a0_1] 23 (0, 0)) hg : gb575 ≠ gb587); have n7_ := Fa.mk n6_.out.symm; have n8_ := Fa.mk (gne (o := .cells #[.int .i64 a1_0, .int .i64 a1_1] 23 (0, 0)) hg : gb576 ≠ gb587); have n9_ := Fa.mk n8_.out.symm; clear BK575; clear BK576; clear HB; have BK575 := n0_; have BK576 := n1_; have HB := n2_; have BK587 := n3_; have GW587 := n4_; have GE587 := n5_; have NB575_587 := n6_; have NB587_575 := n7_; have NB576_587 := n8_; have NB587_576 := n9_; clear n0_ n1_ n2_ n3_ n4_ n5_ n6_ n7_ n8_ n9_; clear hb hbox hg; have hnb40 := NB587_575.out; have hnc40 := NB575_587.out; have hnb41 := NB587_576.out; have hnc41 := NB576_587.out; have hcz42_0 : w39.cell? ⟨gb587, 0, none⟩ = some (.int .i64 0) := (blk_cell BK587.out 0).trans rfl; have hcz42_1 : w39.cell? ⟨gb587, 1, none⟩ = some (.int .i64 0) := (blk_cell BK587.out 1).trans rfl; have hfz42_0 := blk_frozen BK587.out 0; have hfz42_1 := blk_frozen BK587.out 1; have hcz43_0 : w39.cell? ⟨gb575, 0, none⟩ = some (.int .i64 a0_0) := (blk_cell BK575.out 0).trans rfl; have hcz43_1 : w39.cell? ⟨gb575, 1, none⟩ = some (.int .i64 a0_1) := (blk_cell BK575.out 1).trans rfl; have hfz43_0 := blk_frozen BK575.out 0; have hfz43_1 := blk_frozen BK575.out 1; have hcz44_0 : w39.cell? ⟨gb576, 0, none⟩ = some (.int .i64 a1_0) := (blk_cell BK576.out 0).trans rfl; have hcz44_1 : w39.cell? ⟨gb576, 1, none⟩ = some (.int .i64 a1_1) := (blk_cell BK576.out 1).trans rfl; have hfz44_0 := blk_frozen BK576.out 0; have hfz44_1 := blk_frozen BK576.out 1))
                      go_meet
                      case rel => exact ⟨_, H', ⟨by have := HJ8.out; first | omega | exact Nat.le_refl _⟩, ⟨by (with_reducible repeat (first | refine blk_drewN ?_ _ | refine blk_drew ?_ | refine blk_alloc ?_ _)); refine blk_far ?_ NB575_587.out _; (with_reducible repeat (first | refine blk_drewN ?_ _ | refine blk_drew ?_ | refine blk_alloc ?_ _)); refine blk_far ?_ NB575_587.out _; (with_reducible repeat (first | refine blk_drewN ?_ _ | refine blk_drew ?_ | refine blk_alloc ?_ _)); exact BK575.out⟩, ⟨by (with_reducible repeat (first | refine blk_drewN ?_ _ | refine blk_drew ?_ | refine blk_alloc ?_ _)); refine blk_far ?_ NB576_587.out _; (with_reducible repeat (first | refine blk_drewN ?_ _ | refine blk_drew ?_ | refine blk_alloc ?_ _)); refine blk_far ?_ NB576_587.out _; (with_reducible repeat (first | refine blk_drewN ?_ _ | refine blk_drew ?_ | refine blk_alloc ?_ _)); exact BK576.out⟩, ⟨fa⟩⟩
                · rw [if_neg c30] at H
                  exact absurd H (by simp)
              · rw [if_neg c29] at H
                exact absurd H (by simp)
            · rw [if_neg c28] at H
              exact absurd H (by simp)
          · replace c24 := Bool.eq_false_iff.mpr c24
            subst c24
            have H1 : (fleuronlaw01_NumBack.j1 kj8 a2) = some r := by rw [if_neg (show ¬ (false = true) by decide)] at H; exact H
            clear H
            have H := H1
            clear H1
            have H' := Fa.mk H
            clear H
            go_wp2
            go_meet
            case rel => exact ⟨_, H', ⟨by have := HJ8.out; first | omega | exact Nat.le_refl _⟩, ⟨by (with_reducible repeat (first | refine blk_drewN ?_ _ | refine blk_drew ?_ | refine blk_alloc ?_ _)); exact BK575.out⟩, ⟨by (with_reducible repeat (first | refine blk_drewN ?_ _ | refine blk_drew ?_ | refine blk_alloc ?_ _)); exact BK576.out⟩, ⟨fa⟩⟩
        case rest =>
          clear HC23
          try clear c1
          try clear c2
          try clear p2
          try clear c3
          try clear c4
          try clear c4b0
          try clear c4b1
          try clear c10
          try clear c13
          try clear c15
          try clear c16
          try clear c17
          try clear c20
          try clear c24
          try clear c28
          try clear c28b0
          try clear c28b1
          try clear c29
          try clear c29b0
          try clear c29b1
          try clear c30
          try clear c30b0
          try clear c30b1
          try clear c31
          try clear c31b0
          try clear c32
          try clear c32b0
          try clear c32b1
          try clear c32b2
          try clear c33
          try clear c34
          try clear c40
          try clear c41
          try clear hcz16_0
          try clear hcz16_1
          try clear hcz18_0
          try clear hcz18_1
          try clear hcz21_0
          try clear hcz21_1
          try clear hcz34_0
          try clear hcz34_1
          try clear hcz36_0
          try clear hcz36_1
          try clear hcz42_0
          try clear hcz42_1
          try clear hcz43_0
          try clear hcz43_1
          try clear hcz44_0
          try clear hcz44_1
          try clear hfz16_0
          try clear hfz16_1
          try clear hfz18_0
          try clear hfz18_1
          try clear hfz21_0
          try clear hfz21_1
          try clear hfz34_0
          try clear hfz34_1
          try clear hfz36_0
          try clear hfz36_1
          try clear hfz42_0
          try clear hfz42_1
          try clear hfz43_0
          try clear hfz43_1
          try clear hfz44_0
          try clear hfz44_1
          try clear p2
          obtain ⟨kq, HA, HJ22, BK575, BK576, HB⟩ := hcut
          cases kq with
          | zero => exact absurd HA.out (by simp [fleuronlaw01_NumBack.j1])
          | succ kj22 =>
            have H := HA.out
            clear HA
            simp only [fleuronlaw01_NumBack.j1] at H
            replace H := Option.bind_eq_some_iff.mp H
            obtain ⟨⟨t588, t589, t590⟩, A450, H⟩ := H
            replace H : (if t590 = 0 then ((num_Text.f kj22 t588 t589).bind fun bt592 => (if bt592.2 = 0 then (if bt592.1.toList = a2.toList then ((fleuronref01_Valid.f kj22 t588 t589).bind fun t594 => (if t594 = true then ((fleuronlaw01_awake.f kj22).bind fun t595 => (some t595)) else (none))) else (none)) else (none))) else ((fleuronlaw01_awake.f kj22).bind fun t596 => (some t596))) = some r := H
            have A45 := Fa.mk A450
            clear A450
            by_cases c46 : t590 = 0
            · rw [if_pos c46] at H
              have c46b0 : (t590 == 0) = true := beq_iff_eq.mpr c46
              have c46b1 : (t590 != 0) = false := bne_eq_false_iff_eq.mpr c46
              clear c46
              replace H := Option.bind_eq_some_iff.mp H
              obtain ⟨⟨t592, t593⟩, A470, H⟩ := H
              replace H : (if t593 = 0 then (if t592.toList = a2.toList then ((fleuronref01_Valid.f kj22 t588 t589).bind fun t594 => (if t594 = true then ((fleuronlaw01_awake.f kj22).bind fun t595 => (some t595)) else (none))) else (none)) else (none)) = some r := H
              have A47 := Fa.mk A470
              clear A470
              by_cases c48 : t593 = 0
              · rw [if_pos c48] at H
                have c48b0 : (t593 == 0) = true := beq_iff_eq.mpr c48
                have c48b1 : (t593 != 0) = false := bne_eq_false_iff_eq.mpr c48
                clear c48
                by_cases c49 : t592.toList = a2.toList
                · rw [if_pos c49] at H
                  have c49b0 : (t592.toList == a2.toList) = true := beq_iff_eq.mpr c49
                  have c49b1 : (t592.toList != a2.toList) = false := bne_eq_false_iff_eq.mpr c49
                  clear c49
                  replace H := Option.bind_eq_some_iff.mp H
                  obtain ⟨t594, A500, H⟩ := H
                  replace H : (if t594 = true then ((fleuronlaw01_awake.f kj22).bind fun t595 => (some t595)) else (none)) = some r := H
                  have A50 := Fa.mk A500
                  clear A500
                  by_cases c51 : t594 = true
                  · subst c51
                    have H1 : ((fleuronlaw01_awake.f kj22).bind fun t595 => (some t595)) = some r := by rw [if_pos rfl] at H; exact H
                    clear H
                    have H := H1
                    clear H1
                    replace H := Option.bind_eq_some_iff.mp H
                    obtain ⟨t595, A520, H⟩ := H
                    replace H : (some t595) = some r := H
                    have A52 := Fa.mk A520
                    clear A520
                    obtain rfl := Option.some.inj H
                    go_wp2_with (first | ((with_reducible refine gate_callee (f := 34) rfl ?_); refine goesA (some 68) rfl rfl Tryd.func34 (by kernel_rfl) rfl #[.string a2] rfl ?_; (with_reducible refine (num_Parse.calls kj22 a2 t588 t589 t590 _ A45.out (HG.out.below fa)).mono ?_); rintro e w53 ⟨rfl, hb⟩; refine ⟨_, rfl, ?_⟩; have n0_ := Fa.mk (blk_below (g := gb575) (o := .cells #[.int .i64 a0_0, .int .i64 a0_1] 23 (0, 0)) fa hb); have n1_ := Fa.mk (blk_below (g := gb576) (o := .cells #[.int .i64 a1_0, .int .i64 a1_1] 23 (0, 0)) fa hb); have n2_ := Fa.mk (bst w hb); clear BK575; clear BK576; clear HB; have BK575 := n0_; have BK576 := n1_; have HB := n2_; clear n0_ n1_ n2_; (try clear hb); (try clear hb2); (try clear hk); (try clear hi)) | ((with_reducible refine gate_dst (N := 13) rfl ?_); refine boxF (N := 13) (cs := #[.int .i64 0, .int .i64 0]) (t := 23) ?_; intro gb591 hg w54 hbox hb; have n0_ := Fa.mk (blk_below (g := gb575) (o := .cells #[.int .i64 a0_0, .int .i64 a0_1] 23 (0, 0)) fa hb); have n1_ := Fa.mk (blk_below (g := gb576) (o := .cells #[.int .i64 a1_0, .int .i64 a1_1] 23 (0, 0)) fa hb); have n2_ := Fa.mk (bst w hb); have n3_ := Fa.mk (hbox); have n4_ := Fa.mk (gle hg : w.heap.size ≤ gb591); have n5_ := n4_; have n6_ := Fa.mk (gne (o := .cells #[.int .i64 a0_0, .int .i64 a0_1] 23 (0, 0)) hg : gb575 ≠ gb591); have n7_ := Fa.mk n6_.out.symm; have n8_ := Fa.mk (gne (o := .cells #[.int .i64 a1_0, .int .i64 a1_1] 23 (0, 0)) hg : gb576 ≠ gb591); have n9_ := Fa.mk n8_.out.symm; clear BK575; clear BK576; clear HB; have BK575 := n0_; have BK576 := n1_; have HB := n2_; have BK591 := n3_; have GW591 := n4_; have GE591 := n5_; have NB575_591 := n6_; have NB591_575 := n7_; have NB576_591 := n8_; have NB591_576 := n9_; clear n0_ n1_ n2_ n3_ n4_ n5_ n6_ n7_ n8_ n9_; clear hb hbox hg; have hnb55 := NB591_575.out; have hnc55 := NB575_591.out; have hnb56 := NB591_576.out; have hnc56 := NB576_591.out; have hcz57_0 : w54.cell? ⟨gb591, 0, none⟩ = some (.int .i64 0) := (blk_cell BK591.out 0).trans rfl; have hcz57_1 : w54.cell? ⟨gb591, 1, none⟩ = some (.int .i64 0) := (blk_cell BK591.out 1).trans rfl; have hfz57_0 := blk_frozen BK591.out 0; have hfz57_1 := blk_frozen BK591.out 1) | ((with_reducible refine gate_callee (f := 32) rfl ?_); refine goesA (some 75) rfl rfl Tryd.func32 (by kernel_rfl) rfl #[.agg #[.int .i64 t588, .int .i64 t589]] rfl ?_; (with_reducible refine (num_Text.calls kj22 t588 t589 t592 t593 _ A47.out (HG.out.below fa)).mono ?_); rintro e w58 ⟨rfl, hb⟩; refine ⟨_, rfl, ?_⟩; have n0_ := Fa.mk (blk_below (g := gb575) (o := .cells #[.int .i64 a0_0, .int .i64 a0_1] 23 (0, 0)) (by (with_reducible repeat (first | refine blk_drewN ?_ _ | refine blk_drew ?_ | refine blk_alloc ?_ _)); refine blk_far ?_ NB575_591.out _; (with_reducible repeat (first | refine blk_drewN ?_ _ | refine blk_drew ?_ | refine blk_alloc ?_ _)); refine blk_far ?_ NB575_591.out _; (with_reducible repeat (first | refine blk_drewN ?_ _ | refine blk_drew ?_ | refine blk_alloc ?_ _)); exact BK575.out) hb); have n1_ := Fa.mk (blk_below (g := gb576) (o := .cells #[.int .i64 a1_0, .int .i64 a1_1] 23 (0, 0)) (by (with_reducible repeat (first | refine blk_drewN ?_ _ | refine blk_drew ?_ | refine blk_alloc ?_ _)); refine blk_far ?_ NB576_591.out _; (with_reducible repeat (first | refine blk_drewN ?_ _ | refine blk_drew ?_ | refine blk_alloc ?_ _)); refine blk_far ?_ NB576_591.out _; (with_reducible repeat (first | refine blk_drewN ?_ _ | refine blk_drew ?_ | refine blk_alloc ?_ _)); exact BK576.out) hb); have n2_ := Fa.mk (blk_below (g := gb591) (o := .cells #[.int .i64 t588, .int .i64 t589] 23 (0, 0)) (by (with_reducible repeat (first | refine blk_drewN ?_ _ | refine blk_drew ?_ | refine blk_alloc ?_ _)); refine blk_put (cs := #[.int .i64 t588, .int .i64 0]) ?_ 1 _ rfl; (with_reducible repeat (first | refine blk_drewN ?_ _ | refine blk_drew ?_ | refine blk_alloc ?_ _)); refine blk_put (cs := #[.int .i64 0, .int .i64 0]) ?_ 0 _ rfl; (with_reducible repeat (first | refine blk_drewN ?_ _ | refine blk_drew ?_ | refine blk_alloc ?_ _)); exact BK591.out) hb); have n3_ := Fa.mk (bst w hb); clear BK575; clear BK576; clear BK591; clear HB; have BK575 := n0_; have BK576 := n1_; have BK591 := n2_; have HB := n3_; clear n0_ n1_ n2_ n3_; (try clear hb); (try clear hb2); (try clear hk); (try clear hi); have hcz59_0 : w58.cell? ⟨gb591, 0, none⟩ = some (.int .i64 t588) := (blk_cell BK591.out 0).trans rfl; have hcz59_1 : w58.cell? ⟨gb591, 1, none⟩ = some (.int .i64 t589) := (blk_cell BK591.out 1).trans rfl; have hfz59_0 := blk_frozen BK591.out 0; have hfz59_1 := blk_frozen BK591.out 1) | (go_at_call 16; (with_reducible refine (fleuronref01_Valid.calls kj22 t588 t589 true _ A50.out).mono ?_); rintro e w60 ⟨rfl, hb⟩; have n0_ := Fa.mk (blk_below (g := gb575) (o := .cells #[.int .i64 a0_0, .int .i64 a0_1] 23 (0, 0)) fa hb); have n1_ := Fa.mk (blk_below (g := gb576) (o := .cells #[.int .i64 a1_0, .int .i64 a1_1] 23 (0, 0)) fa hb); have n2_ := Fa.mk (blk_below (g := gb591) (o := .cells #[.int .i64 t588, .int .i64 t589] 23 (0, 0)) fa hb); have n3_ := Fa.mk (bst w hb); clear BK575; clear BK576; clear BK591; clear HB; have BK575 := n0_; have BK576 := n1_; have BK591 := n2_; have HB := n3_; clear n0_ n1_ n2_ n3_; (try clear hb); (try clear hb2); (try clear hk); (try clear hi)) | (go_at_call 17; (with_reducible refine (fleuronlaw01_awake.calls kj22  t595 _ A52.out (HG.out.below fa)).mono ?_); rintro e w61 ⟨rfl, hb⟩; have n0_ := Fa.mk (blk_below (g := gb575) (o := .cells #[.int .i64 a0_0, .int .i64 a0_1] 23 (0, 0)) fa hb); have n1_ := Fa.mk (blk_below (g := gb576) (o := .cells #[.int .i64 a1_0, .int .i64 a1_1] 23 (0, 0)) fa hb); have n2_ := Fa.mk (blk_below (g := gb591) (o := .cells #[.int .i64 t588, .int .i64 t589] 23 (0, 0)) fa hb); have n3_ := Fa.mk (bst w hb); clear BK575; clear BK576; clear BK591; clear HB; have BK575 := n0_; have BK576 := n1_; have BK591 := n2_; have HB := n3_; clear n0_ n1_ n2_ n3_; (try clear hb); (try clear hb2); (try clear hk); (try clear hi)))
                    go_ret
                    exact ⟨by first | rfl | (simp [errW_none, errW_some] <;> rfl) | (simp [*, errW_none, errW_some] <;> rfl), fa⟩
                  · replace c51 := Bool.eq_false_iff.mpr c51
                    subst c51
                    have H1 : (none) = some r := by rw [if_neg (show ¬ (false = true) by decide)] at H; exact H
                    clear H
                    have H := H1
                    clear H1
                    exact absurd H (by simp)
                · rw [if_neg c49] at H
                  exact absurd H (by simp)
              · rw [if_neg c48] at H
                exact absurd H (by simp)
            · rw [if_neg c46] at H
              have c46b0 : (t590 == 0) = false := beq_eq_false_iff_ne.mpr c46
              have c46b1 : (t590 != 0) = true := bne_iff_ne.mpr c46
              replace H := Option.bind_eq_some_iff.mp H
              obtain ⟨t596, A620, H⟩ := H
              replace H : (some t596) = some r := H
              have A62 := Fa.mk A620
              clear A620
              obtain rfl := Option.some.inj H
              go_wp2_with (first | ((with_reducible refine gate_callee (f := 34) rfl ?_); refine goesA (some 68) rfl rfl Tryd.func34 (by kernel_rfl) rfl #[.string a2] rfl ?_; (with_reducible refine (num_Parse.calls kj22 a2 t588 t589 t590 _ A45.out (HG.out.below fa)).mono ?_); rintro e w63 ⟨rfl, hb⟩; refine ⟨_, rfl, ?_⟩; have n0_ := Fa.mk (blk_below (g := gb575) (o := .cells #[.int .i64 a0_0, .int .i64 a0_1] 23 (0, 0)) fa hb); have n1_ := Fa.mk (blk_below (g := gb576) (o := .cells #[.int .i64 a1_0, .int .i64 a1_1] 23 (0, 0)) fa hb); have n2_ := Fa.mk (bst w hb); clear BK575; clear BK576; clear HB; have BK575 := n0_; have BK576 := n1_; have HB := n2_; clear n0_ n1_ n2_; (try clear hb); (try clear hb2); (try clear hk); (try clear hi)) | ((with_reducible refine gate_dst (N := 13) rfl ?_); refine boxF (N := 13) (cs := #[.int .i64 0, .int .i64 0]) (t := 23) ?_; intro gb591 hg w64 hbox hb; have n0_ := Fa.mk (blk_below (g := gb575) (o := .cells #[.int .i64 a0_0, .int .i64 a0_1] 23 (0, 0)) fa hb); have n1_ := Fa.mk (blk_below (g := gb576) (o := .cells #[.int .i64 a1_0, .int .i64 a1_1] 23 (0, 0)) fa hb); have n2_ := Fa.mk (bst w hb); have n3_ := Fa.mk (hbox); have n4_ := Fa.mk (gle hg : w.heap.size ≤ gb591); have n5_ := n4_; have n6_ := Fa.mk (gne (o := .cells #[.int .i64 a0_0, .int .i64 a0_1] 23 (0, 0)) hg : gb575 ≠ gb591); have n7_ := Fa.mk n6_.out.symm; have n8_ := Fa.mk (gne (o := .cells #[.int .i64 a1_0, .int .i64 a1_1] 23 (0, 0)) hg : gb576 ≠ gb591); have n9_ := Fa.mk n8_.out.symm; clear BK575; clear BK576; clear HB; have BK575 := n0_; have BK576 := n1_; have HB := n2_; have BK591 := n3_; have GW591 := n4_; have GE591 := n5_; have NB575_591 := n6_; have NB591_575 := n7_; have NB576_591 := n8_; have NB591_576 := n9_; clear n0_ n1_ n2_ n3_ n4_ n5_ n6_ n7_ n8_ n9_; clear hb hbox hg; have hnb65 := NB591_575.out; have hnc65 := NB575_591.out; have hnb66 := NB591_576.out; have hnc66 := NB576_591.out; have hcz67_0 : w64.cell? ⟨gb591, 0, none⟩ = some (.int .i64 0) := (blk_cell BK591.out 0).trans rfl; have hcz67_1 : w64.cell? ⟨gb591, 1, none⟩ = some (.int .i64 0) := (blk_cell BK591.out 1).trans rfl; have hfz67_0 := blk_frozen BK591.out 0; have hfz67_1 := blk_frozen BK591.out 1) | ((with_reducible refine gate_callee (f := 17) rfl ?_); refine goesA (some 92) rfl rfl Tryd.func17 (by kernel_rfl) rfl #[] rfl ?_; (with_reducible refine (fleuronlaw01_awake.calls kj22  t596 _ A62.out (HG.out.below fa)).mono ?_); rintro e w68 ⟨rfl, hb⟩; refine ⟨_, rfl, ?_⟩; have n0_ := Fa.mk (blk_below (g := gb575) (o := .cells #[.int .i64 a0_0, .int .i64 a0_1] 23 (0, 0)) (by (with_reducible repeat (first | refine blk_drewN ?_ _ | refine blk_drew ?_ | refine blk_alloc ?_ _)); refine blk_far ?_ NB575_591.out _; (with_reducible repeat (first | refine blk_drewN ?_ _ | refine blk_drew ?_ | refine blk_alloc ?_ _)); refine blk_far ?_ NB575_591.out _; (with_reducible repeat (first | refine blk_drewN ?_ _ | refine blk_drew ?_ | refine blk_alloc ?_ _)); exact BK575.out) hb); have n1_ := Fa.mk (blk_below (g := gb576) (o := .cells #[.int .i64 a1_0, .int .i64 a1_1] 23 (0, 0)) (by (with_reducible repeat (first | refine blk_drewN ?_ _ | refine blk_drew ?_ | refine blk_alloc ?_ _)); refine blk_far ?_ NB576_591.out _; (with_reducible repeat (first | refine blk_drewN ?_ _ | refine blk_drew ?_ | refine blk_alloc ?_ _)); refine blk_far ?_ NB576_591.out _; (with_reducible repeat (first | refine blk_drewN ?_ _ | refine blk_drew ?_ | refine blk_alloc ?_ _)); exact BK576.out) hb); have n2_ := Fa.mk (blk_below (g := gb591) (o := .cells #[.int .i64 t588, .int .i64 t589] 23 (0, 0)) (by (with_reducible repeat (first | refine blk_drewN ?_ _ | refine blk_drew ?_ | refine blk_alloc ?_ _)); refine blk_put (cs := #[.int .i64 t588, .int .i64 0]) ?_ 1 _ rfl; (with_reducible repeat (first | refine blk_drewN ?_ _ | refine blk_drew ?_ | refine blk_alloc ?_ _)); refine blk_put (cs := #[.int .i64 0, .int .i64 0]) ?_ 0 _ rfl; (with_reducible repeat (first | refine blk_drewN ?_ _ | refine blk_drew ?_ | refine blk_alloc ?_ _)); exact BK591.out) hb); have n3_ := Fa.mk (bst w hb); clear BK575; clear BK576; clear BK591; clear HB; have BK575 := n0_; have BK576 := n1_; have BK591 := n2_; have HB := n3_; clear n0_ n1_ n2_ n3_; (try clear hb); (try clear hb2); (try clear hk); (try clear hi)))
              go_ret
              exact ⟨by first | rfl | (simp [errW_none, errW_some] <;> rfl) | (simp [*, errW_none, errW_some] <;> rfl), fa⟩

end Go.Proofs.YtndbdnkpnjibkaaDoor.P
