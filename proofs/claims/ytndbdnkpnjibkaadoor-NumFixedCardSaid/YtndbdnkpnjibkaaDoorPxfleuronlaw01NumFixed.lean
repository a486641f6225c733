-- PRINTED by print.py (a twelfth state) out of the translation. Not trusted: Lean checks it.
import Derived.Test.YtndbdnkpnjibkaaDoorPx0
import Derived.Test.YtndbdnkpnjibkaaDoorPxrationalsize
import Derived.Test.YtndbdnkpnjibkaaDoorPxnumdo
import Derived.Test.YtndbdnkpnjibkaaDoorPxfleuronlaw01awake
import Derived.Test.YtndbdnkpnjibkaaDoorPxnumFromFixed
namespace Go.Proofs.YtndbdnkpnjibkaaDoor.P
open Go.RowKit Go.Proofs.YtndbdnkpnjibkaaDoorW.PrintWords Go.Proofs.YtndbdnkpnjibkaaDoorW.PrintLast Go.Proofs.YtndbdnkpnjibkaaDoorW.PrintMore
attribute [local go_sem] max2_int min2_int max_two min_two max_three min_three max_four min_four   -- for this text's walks alone
set_option linter.unusedVariables false
set_option linter.unusedSimpArgs false

/-! ### fleuronlaw01_NumFixed: function 5 -/
def fleuronlaw01_NumFixed.j0 : Nat → Int → Int → Option (Bool)
  | 0, _, _ => none
  | k + 1, x299000, x299001 => (fleuronref01_Valid.f k x299000 x299001).bind fun t305 => (if t305 = true then ((num_Fixed.f k x299000 x299001).bind fun bt306 => (if bt306.2 = 0 then (if (wrap64 (2 * (wrap64 ((wrap64 (bt306.1 * x299001)) - (wrap64 (65536 * x299000)))))) ≤ x299001 then (if (wrap64 (2 * (wrap64 ((wrap64 (bt306.1 * x299001)) - (wrap64 (65536 * x299000)))))) > (wrap64 ((wrap64 (-x299001)) - 1)) then ((fleuronlaw01_awake.f k).bind fun t308 => (some t308)) else (none)) else (none)) else (none))) else ((fleuronlaw01_awake.f k).bind fun t309 => (some t309)))
def fleuronlaw01_NumFixed.f (k : Nat) (a0_0 : Int) (a0_1 : Int) (a1 : Int) : Option (Bool) := (num_FromFixed.f k a1).bind fun bt299 => (if bt299.2.2 = 0 then ((num_Fixed.f k bt299.1 bt299.2.1).bind fun bt303 => (if bt303.2 = 0 then (if bt303.1 = a1 then (fleuronlaw01_NumFixed.j0 k a0_0 a0_1) else (none)) else (none))) else (fleuronlaw01_NumFixed.j0 k a0_0 a0_1))
theorem fleuronlaw01_NumFixed.mono_l : ∀ k, (∀ y0 y1, LeO (fleuronlaw01_NumFixed.j0 k y0 y1) (fleuronlaw01_NumFixed.j0 (k + 1) y0 y1))
  | 0 => fun _ _ r h => by simp [fleuronlaw01_NumFixed.j0] at h
  | k + 1 => by
    have ih0 := fleuronlaw01_NumFixed.mono_l k
    · intro y0 y1
      unfold fleuronlaw01_NumFixed.j0
      repeat' first
      | (with_reducible exact ih0 _ _)
      | (with_reducible exact fleuronlaw01_awake.mono _)
      | (with_reducible exact fleuronref01_Valid.mono _ _ _)
      | (with_reducible exact num_Fixed.mono _ _ _)
      | (with_reducible exact num_FromFixed.mono _ _)
      | (with_reducible exact LeO.refl _)
      | (with_reducible exact LeO.none _)
      | (with_reducible refine LeO.ite ?_ ?_)
      | (with_reducible refine LeO.bind ?_ (fun _ => ?_))
      | exact ih0 _ _
      | exact fleuronlaw01_awake.mono _
      | exact fleuronref01_Valid.mono _ _ _
      | exact num_Fixed.mono _ _ _
      | exact num_FromFixed.mono _ _
      | exact LeO.none _
      | refine LeO.ite ?_ ?_
      | refine LeO.bind ?_ (fun _ => ?_)
theorem fleuronlaw01_NumFixed.mono : ∀ a0 a1 a2 k, LeO (fleuronlaw01_NumFixed.f k a0 a1 a2) (fleuronlaw01_NumFixed.f (k + 1) a0 a1 a2) := by
  intro a0 a1 a2 k
  have ih0 := fleuronlaw01_NumFixed.mono_l k
  unfold fleuronlaw01_NumFixed.f
  repeat' first
      | (with_reducible exact ih0 _ _)
      | (with_reducible exact fleuronlaw01_awake.mono _)
      | (with_reducible exact fleuronref01_Valid.mono _ _ _)
      | (with_reducible exact num_Fixed.mono _ _ _)
      | (with_reducible exact num_FromFixed.mono _ _)
      | (with_reducible exact LeO.refl _)
      | (with_reducible exact LeO.none _)
      | (with_reducible refine LeO.ite ?_ ?_)
      | (with_reducible refine LeO.bind ?_ (fun _ => ?_))
      | exact ih0 _ _
      | exact fleuronlaw01_awake.mono _
      | exact fleuronref01_Valid.mono _ _ _
      | exact num_Fixed.mono _ _ _
      | exact num_FromFixed.mono _ _
      | exact LeO.none _
      | refine LeO.ite ?_ ?_
      | refine LeO.bind ?_ (fun _ => ?_)
set_option maxHeartbeats 8000000 in
set_option maxRecDepth 100000 in
theorem fleuronlaw01_NumFixed.calls (k : Nat) (a0_0 : Int) (a0_1 : Int) (a1 : Int) (r : Bool) (w : World) (h : fleuronlaw01_NumFixed.f k a0_0 a0_1 a1 = some r) (hG : Glob w) :
    Calls Tryd.prog 5 #[.agg #[.int .i64 a0_0, .int .i64 a0_1], .int .i64 a1] w fun e w' => e = .returned (.bool r) ∧ Below w.heap.size w w' := by
  have HG := Fa.mk hG
  clear hG
  have hu23 := Tryd.underlying23
  have HB := Fa.mk (Below.refl w.heap.size w)
  have H : ((num_FromFixed.f k a1).bind fun bt299 => (if bt299.2.2 = 0 then ((num_Fixed.f k bt299.1 bt299.2.1).bind fun bt303 => (if bt303.2 = 0 then (if bt303.1 = a1 then (fleuronlaw01_NumFixed.j0 k a0_0 a0_1) else (none)) else (none))) else (fleuronlaw01_NumFixed.j0 k a0_0 a0_1))) = some r := h
  clear h
  replace H := Option.bind_eq_some_iff.mp H
  obtain ⟨⟨t299, t300, t301⟩, A30, H⟩ := H
  replace H : (if t301 = 0 then ((num_Fixed.f k t299 t300).bind fun bt303 => (if bt303.2 = 0 then (if bt303.1 = a1 then (fleuronlaw01_NumFixed.j0 k a0_0 a0_1) else (none)) else (none))) else (fleuronlaw01_NumFixed.j0 k a0_0 a0_1)) = some r := H
  have A3 := Fa.mk A30
  clear A30
  have HC4 := Fa.mk H
  clear H
  go_enter Tryd.func5, Tryd.ntmps5
  go_upto_if 18 with (first | ((with_reducible refine gate_dst (N := 2) rfl ?_); refine boxF (N := 2) (cs := #[.int .i64 a0_0, .int .i64 a0_1]) (t := 23) ?_; intro gb298 hg w5 hbox hb; have n0_ := Fa.mk (bst w hb); have n1_ := Fa.mk (hbox); have n2_ := Fa.mk (gle hg : w.heap.size ≤ gb298); have n3_ := n2_; clear HB; have HB := n0_; have BK298 := n1_; have GW298 := n2_; have GE298 := n3_; clear n0_ n1_ n2_ n3_; clear hb hbox hg) | ((with_reducible refine gate_callee (f := 20) rfl ?_); refine goesA (some 14) rfl rfl Tryd.func20 (by kernel_rfl) rfl #[.int .i64 a1] rfl ?_; (with_reducible refine (num_FromFixed.calls k a1 t299 t300 t301 _ A3.out).mono ?_); rintro e w6 ⟨rfl, hb⟩; refine ⟨_, rfl, ?_⟩; have n0_ := Fa.mk (blk_below (g := gb298) (o := .cells #[.int .i64 a0_0, .int .i64 a0_1] 23 (0, 0)) fa hb); have n1_ := Fa.mk (bst w hb); clear BK298; clear HB; have BK298 := n0_; have HB := n1_; clear n0_ n1_; (try clear hb); (try clear hb2); (try clear hk); (try clear hi)) | ((with_reducible refine gate_dst (N := 5) rfl ?_); refine boxF (N := 5) (cs := #[.int .i64 0, .int .i64 0]) (t := 23) ?_; intro gb302 hg w7 hbox hb; have n0_ := Fa.mk (blk_below (g := gb298) (o := .cells #[.int .i64 a0_0, .int .i64 a0_1] 23 (0, 0)) fa hb); have n1_ := Fa.mk (bst w hb); have n2_ := Fa.mk (hbox); have n3_ := Fa.mk (gle hg : w.heap.size ≤ gb302); have n4_ := n3_; have n5_ := Fa.mk (gne (o := .cells #[.int .i64 a0_0, .int .i64 a0_1] 23 (0, 0)) hg : gb298 ≠ gb302); have n6_ := Fa.mk n5_.out.symm; clear BK298; clear HB; have BK298 := n0_; have HB := n1_; have BK302 := n2_; have GW302 := n3_; have GE302 := n4_; have NB298_302 := n5_; have NB302_298 := n6_; clear n0_ n1_ n2_ n3_ n4_ n5_ n6_; clear hb hbox hg; have hnb8 := NB302_298.out; have hnc8 := NB298_302.out; have hcz9_0 : w7.cell? ⟨gb302, 0, none⟩ = some (.int .i64 0) := (blk_cell BK302.out 0).trans rfl; have hcz9_1 : w7.cell? ⟨gb302, 1, none⟩ = some (.int .i64 0) := (blk_cell BK302.out 1).trans rfl; have hfz9_0 := blk_frozen BK302.out 0; have hfz9_1 := blk_frozen BK302.out 1))
  (try simp only [Act.put, List.setIfInBounds_toArray, List.set_cons_zero, List.set_cons_succ])
  go_cut [] (fun wc => ∃ (kq : Nat), Fa (fleuronlaw01_NumFixed.j0 kq a0_0 a0_1 = some r) ∧ Fa (kq ≤ k) ∧ Fa (wc.heap[gb298]? = some (.cells #[.int .i64 a0_0, .int .i64 a0_1] 23 (0, 0))) ∧ Fa (wc.heap[gb302]? = some (.cells #[.int .i64 t299, .int .i64 t300] 23 (0, 0))) ∧ Fa (Below w.heap.size w wc))
  case first =>
    have H := HC4.out
    clear HC4
    by_cases c10 : t301 = 0
    · rw [if_pos c10] at H
      have c10b0 : (t301 == 0) = true := beq_iff_eq.mpr c10
      have c10b1 : (t301 != 0) = false := bne_eq_false_iff_eq.mpr c10
      clear c10
      (first | rw [c10b0] | (simp only [i64_w, i32_w]; rw [c10b0]) | skip)
      replace H := Option.bind_eq_some_iff.mp H
      obtain ⟨⟨t303, t304⟩, A110, H⟩ := H
      replace H : (if t304 = 0 then (if t303 = a1 then (fleuronlaw01_NumFixed.j0 k a0_0 a0_1) else (none)) else (none)) = some r := H
      have A11 := Fa.mk A110
      clear A110
      by_cases c12 : t304 = 0
      · rw [if_pos c12] at H
        have c12b0 : (t304 == 0) = true := beq_iff_eq.mpr c12
        have c12b1 : (t304 != 0) = false := bne_eq_false_iff_eq.mpr c12
        clear c12
        by_cases c13 : t303 = a1
        · rw [if_pos c13] at H
          have c13b0 : (t303 == a1) = true := beq_iff_eq.mpr c13
          have c13b1 : (t303 != a1) = false := bne_eq_false_iff_eq.mpr c13
          clear c13
          have H' := Fa.mk H
          clear H
          have hnb14 := NB302_298.out
          have hnc14 := NB298_302.out
          have hcz15_0 : w7.cell? ⟨gb302, 0, none⟩ = some (.int .i64 0) := (blk_cell BK302.out 0).trans rfl
          have hcz15_1 : w7.cell? ⟨gb302, 1, none⟩ = some (.int .i64 0) := (blk_cell BK302.out 1).trans rfl
          have hfz15_0 := blk_frozen BK302.out 0
          have hfz15_1 := blk_frozen BK302.out 1
          go_wp2_with (first | ((with_reducible refine gate_callee (f := 21) rfl ?_); refine goesA (some 21) rfl rfl Tryd.func21 (by kernel_rfl) rfl #[.agg #[.int .i64 t299, .int .i64 t300]] rfl ?_; (with_reducible refine (num_Fixed.calls k t299 t300 t303 t304 _ A11.out).mono ?_); rintro e w16 ⟨rfl, hb⟩; refine ⟨_, rfl, ?_⟩; have n0_ := Fa.mk (blk_below (g := gb298) (o := .cells #[.int .i64 a0_0, .int .i64 a0_1] 23 (0, 0)) (by (with_reducible repeat (first | refine blk_drewN ?_ _ | refine blk_drew ?_ | refine blk_alloc ?_ _)); refine blk_far ?_ NB298_302.out _; (with_reducible repeat (first | refine blk_drewN ?_ _ | refine blk_drew ?_ | refine blk_alloc ?_ _)); refine blk_far ?_ NB298_302.out _; (with_reducible repeat (first | refine blk_drewN ?_ _ | refine blk_drew ?_ | refine blk_alloc ?_ _)); exact BK298.out) hb); have n1_ := Fa.mk (blk_below (g := gb302) (o := .cells #[.int .i64 t299, .int .i64 t300] 23 (0, 0)) (by (with_reducible repeat (first | refine blk_drewN ?_ _ | refine blk_drew ?_ | refine blk_alloc ?_ _)); refine blk_put (cs := #[.int .i64 t299, .int .i64 0]) ?_ 1 _ rfl; (with_reducible repeat (first | refine blk_drewN ?_ _ | refine blk_drew ?_ | refine blk_alloc ?_ _)); refine blk_put (cs := #[.int .i64 0, .int .i64 0]) ?_ 0 _ rfl; (with_reducible repeat (first | refine blk_drewN ?_ _ | refine blk_drew ?_ | refine blk_alloc ?_ _)); exact BK302.out) hb); have n2_ := Fa.mk (bst w hb); clear BK298; clear BK302; clear HB; have BK298 := n0_; have BK302 := n1_; have HB := n2_; clear n0_ n1_ n2_; (try clear hb); (try clear hb2); (try clear hk); (try clear hi)))
          go_meet
          case rel => exact ⟨_, H', ⟨by first | omega | exact Nat.le_refl _⟩, ⟨by (with_reducible repeat (first | refine blk_drewN ?_ _ | refine blk_drew ?_ | refine blk_alloc ?_ _)); exact BK298.out⟩, ⟨by (with_reducible repeat (first | refine blk_drewN ?_ _ | refine blk_drew ?_ | refine blk_alloc ?_ _)); exact BK302.out⟩, ⟨fa⟩⟩
        · rw [if_neg c13] at H
          exact absurd H (by simp)
      · rw [if_neg c12] at H
        exact absurd H (by simp)
    · rw [if_neg c10] at H
      have c10b0 : (t301 == 0) = false := beq_eq_false_iff_ne.mpr c10
      have c10b1 : (t301 != 0) = true := bne_iff_ne.mpr c10
      (first | rw [c10b0] | (simp only [i64_w, i32_w]; rw [c10b0]) | skip)
      have H' := Fa.mk H
      clear H
      go_wp2
      go_meet
      case rel => exact ⟨_, H', ⟨by first | omega | exact Nat.le_refl _⟩, ⟨by (with_reducible repeat (first | refine blk_drewN ?_ _ | refine blk_drew ?_ | refine blk_alloc ?_ _)); refine blk_far ?_ NB298_302.out _; (with_reducible repeat (first | refine blk_drewN ?_ _ | refine blk_drew ?_ | refine blk_alloc ?_ _)); refine blk_far ?_ NB298_302.out _; (with_reducible repeat (first | refine blk_drewN ?_ _ | refine blk_drew ?_ | refine blk_alloc ?_ _)); exact BK298.out⟩, ⟨by (with_reducible repeat (first | refine blk_drewN ?_ _ | refine blk_drew ?_ | refine blk_alloc ?_ _)); refine blk_put (cs := #[.int .i64 t299, .int .i64 0]) ?_ 1 _ rfl; (with_reducible repeat (first | refine blk_drewN ?_ _ | refine blk_drew ?_ | refine blk_alloc ?_ _)); refine blk_put (cs := #[.int .i64 0, .int .i64 0]) ?_ 0 _ rfl; (with_reducible repeat (first | refine blk_drewN ?_ _ | refine blk_drew ?_ | refine blk_alloc ?_ _)); exact BK302.out⟩, ⟨fa⟩⟩
  case rest =>
    clear HC4
    try clear c1
    try clear c2
    try clear p2
    try clear c5
    try clear c8
    try clear c10
    try clear c10b0
    try clear c10b1
    try clear c12
    try clear c12b0
    try clear c12b1
    try clear c13
    try clear c13b0
    try clear c13b1
    try clear c14
    try clear hcz15_0
    try clear hcz15_1
    try clear hcz9_0
    try clear hcz9_1
    try clear hfz15_0
    try clear hfz15_1
    try clear hfz9_0
    try clear hfz9_1
    obtain ⟨kq, HA, HJ3, BK298, BK302, HB⟩ := hcut
    cases kq with
    | zero => exact absurd HA.out (by simp [fleuronlaw01_NumFixed.j0])
    | succ kj3 =>
      have H := HA.out
      clear HA
      simp only [fleuronlaw01_NumFixed.j0] at H
      replace H := Option.bind_eq_some_iff.mp H
      obtain ⟨t305, A170, H⟩ := H
      replace H : (if t305 = true then ((num_Fixed.f kj3 a0_0 a0_1).bind fun bt306 => (if bt306.2 = 0 then (if (wrap64 (2 * (wrap64 ((wrap64 (bt306.1 * a0_1)) - (wrap64 (65536 * a0_0)))))) ≤ a0_1 then (if (wrap64 (2 * (wrap64 ((wrap64 (bt306.1 * a0_1)) - (wrap64 (65536 * a0_0)))))) > (wrap64 ((wrap64 (-a0_1)) - 1)) then ((fleuronlaw01_awake.f kj3).bind fun t308 => (some t308)) else (none)) else (none)) else (none))) else ((fleuronlaw01_awake.f kj3).bind fun t309 => (some t309))) = some r := H
      have A17 := Fa.mk A170
      clear A170
      by_cases c18 : t305 = true
      · subst c18
        have H1 : ((num_Fixed.f kj3 a0_0 a0_1).bind fun bt306 => (if bt306.2 = 0 then (if (wrap64 (2 * (wrap64 ((wrap64 (bt306.1 * a0_1)) - (wrap64 (65536 * a0_0)))))) ≤ a0_1 then (if (wrap64 (2 * (wrap64 ((wrap64 (bt306.1 * a0_1)) - (wrap64 (65536 * a0_0)))))) > (wrap64 ((wrap64 (-a0_1)) - 1)) then ((fleuronlaw01_awake.f kj3).bind fun t308 => (some t308)) else (none)) else (none)) else (none))) = some r := by rw [if_pos rfl] at H; exact H
        clear H
        have H := H1
        clear H1
        replace H := Option.bind_eq_some_iff.mp H
        obtain ⟨⟨t306, t307⟩, A190, H⟩ := H
        replace H : (if t307 = 0 then (if (wrap64 (2 * (wrap64 ((wrap64 (t306 * a0_1)) - (wrap64 (65536 * a0_0)))))) ≤ a0_1 then (if (wrap64 (2 * (wrap64 ((wrap64 (t306 * a0_1)) - (wrap64 (65536 * a0_0)))))) > (wrap64 ((wrap64 (-a0_1)) - 1)) then ((fleuronlaw01_awake.f kj3).bind fun t308 => (some t308)) else (none)) else (none)) else (none)) = some r := H
        have A19 := Fa.mk A190
        clear A190
        by_cases c20 : t307 = 0
        · rw [if_pos c20] at H
          have c20b0 : (t307 == 0) = true := beq_iff_eq.mpr c20
          have c20b1 : (t307 != 0) = false := bne_eq_false_iff_eq.mpr c20
          clear c20
          by_cases c21 : (wrap64 (2 * (wrap64 ((wrap64 (t306 * a0_1)) - (wrap64 (65536 * a0_0)))))) ≤ a0_1
          · rw [if_pos c21] at H
            have c21b0 : decide ((wrap64 (2 * (wrap64 ((wrap64 (t306 * a0_1)) - (wrap64 (65536 * a0_0)))))) ≤ a0_1) = true := decide_eq_true c21
            clear c21
            by_cases c22 : (wrap64 (2 * (wrap64 ((wrap64 (t306 * a0_1)) - (wrap64 (65536 * a0_0)))))) > (wrap64 ((wrap64 (-a0_1)) - 1))
            · rw [if_pos c22] at H
              have c22b0 : decide ((wrap64 ((wrap64 (-a0_1)) - 1)) < (wrap64 (2 * (wrap64 ((wrap64 (t306 * a0_1)) - (wrap64 (65536 * a0_0))))))) = true := decide_eq_true c22
              clear c22
              replace H := Option.bind_eq_some_iff.mp H
              obtain ⟨t308, A230, H⟩ := H
              replace H : (some t308) = some r := H
              have A23 := Fa.mk A230
              clear A230
              obtain rfl := Option.some.inj H
              have hnb24 := NB298_302.out
              have hnc24 := NB302_298.out
              have hcz25_0 : wc.cell? ⟨gb298, 0, none⟩ = some (.int .i64 a0_0) := (blk_cell BK298.out 0).trans rfl
              have hcz25_1 : wc.cell? ⟨gb298, 1, none⟩ = some (.int .i64 a0_1) := (blk_cell BK298.out 1).trans rfl
              have hfz25_0 := blk_frozen BK298.out 0
              have hfz25_1 := blk_frozen BK298.out 1
              go_wp2_with (first | ((with_reducible refine gate_callee (f := 16) rfl ?_); refine goesA (some 32) rfl rfl Tryd.func16 (by kernel_rfl) rfl #[.agg #[.int .i64 a0_0, .int .i64 a0_1]] rfl ?_; (with_reducible refine (fleuronref01_Valid.calls kj3 a0_0 a0_1 true _ A17.out).mono ?_); rintro e w26 ⟨rfl, hb⟩; refine ⟨_, rfl, ?_⟩; have n0_ := Fa.mk (blk_below (g := gb298) (o := .cells #[.int .i64 a0_0, .int .i64 a0_1] 23 (0, 0)) fa hb); have n1_ := Fa.mk (blk_below (g := gb302) (o := .cells #[.int .i64 t299, .int .i64 t300] 23 (0, 0)) fa hb); have n2_ := Fa.mk (bst w hb); clear BK298; clear BK302; clear HB; have BK298 := n0_; have BK302 := n1_; have HB := n2_; clear n0_ n1_ n2_; (try clear hb); (try clear hb2); (try clear hk); (try clear hi); have hcz27_0 : w26.cell? ⟨gb298, 0, none⟩ = some (.int .i64 a0_0) := (blk_cell BK298.out 0).trans rfl; have hcz27_1 : w26.cell? ⟨gb298, 1, none⟩ = some (.int .i64 a0_1) := (blk_cell BK298.out 1).trans rfl; have hfz27_0 := blk_frozen BK298.out 0; have hfz27_1 := blk_frozen BK298.out 1) | ((with_reducible refine gate_callee (f := 21) rfl ?_); refine goesA (some 37) rfl rfl Tryd.func21 (by kernel_rfl) rfl #[.agg #[.int .i64 a0_0, .int .i64 a0_1]] rfl ?_; (with_reducible refine (num_Fixed.calls kj3 a0_0 a0_1 t306 t307 _ A19.out).mono ?_); rintro e w28 ⟨rfl, hb⟩; refine ⟨_, rfl, ?_⟩; have n0_ := Fa.mk (blk_below (g := gb298) (o := .cells #[.int .i64 a0_0, .int .i64 a0_1] 23 (0, 0)) fa hb); have n1_ := Fa.mk (blk_below (g := gb302) (o := .cells #[.int .i64 t299, .int .i64 t300] 23 (0, 0)) fa hb); have n2_ := Fa.mk (bst w hb); clear BK298; clear BK302; clear HB; have BK298 := n0_; have BK302 := n1_; have HB := n2_; clear n0_ n1_ n2_; (try clear hb); (try clear hb2); (try clear hk); (try clear hi); have hcz29_0 : w28.cell? ⟨gb298, 0, none⟩ = some (.int .i64 a0_0) := (blk_cell BK298.out 0).trans rfl; have hcz29_1 : w28.cell? ⟨gb298, 1, none⟩ = some (.int .i64 a0_1) := (blk_cell BK298.out 1).trans rfl; have hfz29_0 := blk_frozen BK298.out 0; have hfz29_1 := blk_frozen BK298.out 1) | (go_at_call 17; (with_reducible refine (fleuronlaw01_awake.calls kj3  t308 _ A23.out (HG.out.below fa)).mono ?_); rintro e w30 ⟨rfl, hb⟩; have n0_ := Fa.mk (blk_below (g := gb298) (o := .cells #[.int .i64 a0_0, .int .i64 a0_1] 23 (0, 0)) fa hb); have n1_ := Fa.mk (blk_below (g := gb302) (o := .cells #[.int .i64 t299, .int .i64 t300] 23 (0, 0)) fa hb); have n2_ := Fa.mk (bst w hb); clear BK298; clear BK302; clear HB; have BK298 := n0_; have BK302 := n1_; have HB := n2_; clear n0_ n1_ n2_; (try clear hb); (try clear hb2); (try clear hk); (try clear hi)))
              go_ret
              exact ⟨by first | rfl | (simp [errW_none, errW_some] <;> rfl) | (simp [*, errW_none, errW_some] <;> rfl), fa⟩
            · rw [if_neg c22] at H
              exact absurd H (by simp)
          · rw [if_neg c21] at H
            exact absurd H (by simp)
        · rw [if_neg c20] at H
          exact absurd H (by simp)
      · replace c18 := Bool.eq_false_iff.mpr c18
        subst c18
        have H1 : ((fleuronlaw01_awake.f kj3).bind fun t309 => (some t309)) = some r := by rw [if_neg (show ¬ (false = true) by decide)] at H; exact H
        clear H
        have H := H1
        clear H1
        replace H := Option.bind_eq_some_iff.mp H
        obtain ⟨t309, A310, H⟩ := H
        replace H : (some t309) = some r := H
        have A31 := Fa.mk A310
        clear A310
        obtain rfl := Option.some.inj H
        have hnb32 := NB298_302.out
        have hnc32 := NB302_298.out
        have hcz33_0 : wc.cell? ⟨gb298, 0, none⟩ = some (.int .i64 a0_0) := (blk_cell BK298.out 0).trans rfl
        have hcz33_1 : wc.cell? ⟨gb298, 1, none⟩ = some (.int .i64 a0_1) := (blk_cell BK298.out 1).trans rfl
        have hfz33_0 := blk_frozen BK298.out 0
        have hfz33_1 := blk_frozen BK298.out 1
        go_wp2_with (first | ((with_reducible refine gate_callee (f := 16) rfl ?_); refine goesA (some 32) rfl rfl Tryd.func16 (by kernel_rfl) rfl #[.agg #[.int .i64 a0_0, .int .i64 a0_1]] rfl ?_; (with_reducible refine (fleuronref01_Valid.calls kj3 a0_0 a0_1 false _ A17.out).mono ?_); rintro e w34 ⟨rfl, hb⟩; refine ⟨_, rfl, ?_⟩; have n0_ := Fa.mk (blk_below (g := gb298) (o := .cells #[.int .i64 a0_0, .int .i64 a0_1] 23 (0, 0)) fa hb); have n1_ := Fa.mk (blk_below (g := gb302) (o := .cells #[.int .i64 t299, .int .i64 t300] 23 (0, 0)) fa hb); have n2_ := Fa.mk (bst w hb); clear BK298; clear BK302; clear HB; have BK298 := n0_; have BK302 := n1_; have HB := n2_; clear n0_ n1_ n2_; (try clear hb); (try clear hb2); (try clear hk); (try clear hi)) | ((with_reducible refine gate_callee (f := 17) rfl ?_); refine goesA (some 34) rfl rfl Tryd.func17 (by kernel_rfl) rfl #[] rfl ?_; (with_reducible refine (fleuronlaw01_awake.calls kj3  t309 _ A31.out (HG.out.below fa)).mono ?_); rintro e w35 ⟨rfl, hb⟩; refine ⟨_, rfl, ?_⟩; have n0_ := Fa.mk (blk_below (g := gb298) (o := .cells #[.int .i64 a0_0, .int .i64 a0_1] 23 (0, 0)) fa hb); have n1_ := Fa.mk (blk_below (g := gb302) (o := .cells #[.int .i64 t299, .int .i64 t300] 23 (0, 0)) fa hb); have n2_ := Fa.mk (bst w hb); clear BK298; clear BK302; clear HB; have BK298 := n0_; have BK302 := n1_; have HB := n2_; clear n0_ n1_ n2_; (try clear hb); (try clear hb2); (try clear hk); (try clear hi)))
        go_ret
        exact ⟨by first | rfl | (simp [errW_none, errW_some] <;> rfl) | (simp [*, errW_none, errW_some] <;> rfl), fa⟩

end Go.Proofs.YtndbdnkpnjibkaaDoor.P
