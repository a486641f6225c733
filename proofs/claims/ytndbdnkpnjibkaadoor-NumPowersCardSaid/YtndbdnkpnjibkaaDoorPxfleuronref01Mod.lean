-- PRINTED by print.py (a twelfth state) out of the translation. Not trusted: Lean checks it.
import Derived.Test.YtndbdnkpnjibkaaDoorPx0
import Derived.Test.YtndbdnkpnjibkaaDoorPxrationalsize
import Derived.Test.YtndbdnkpnjibkaaDoorPxnumdo
import Derived.Test.YtndbdnkpnjibkaaDoorPxfleuronref01lowest
import Derived.Test.YtndbdnkpnjibkaaDoorPxfleuronref01both
import Derived.Test.YtndbdnkpnjibkaaDoorPxfleuronref01down
namespace Go.Proofs.YtndbdnkpnjibkaaDoor.P
open Go.RowKit Go.Proofs.YtndbdnkpnjibkaaDoorW.PrintWords Go.Proofs.YtndbdnkpnjibkaaDoorW.PrintLast Go.Proofs.YtndbdnkpnjibkaaDoorW.PrintMore
attribute [local go_sem] max2_int min2_int max_two min_two max_three min_three max_four min_four   -- for this text's walks alone
set_option linter.unusedVariables false
set_option linter.unusedSimpArgs false

/-! ### fleuronref01_Mod: function 45 -/
def fleuronref01_Mod.f (k : Nat) (a0_0 : Int) (a0_1 : Int) (a1_0 : Int) (a1_1 : Int) : Option (Int × Int × Int) := (fleuronref01_both.f k a0_0 a0_1 a1_0 a1_1).bind fun t638 => (if t638 = true then (if a1_0 = 0 then (some (0, 0, 18)) else (if (wrap64 (a1_0 * a0_1)) < 0 then ((fleuronref01_down.f (wrap64 (-(wrap64 (a0_0 * a1_1)))) (wrap64 (-(wrap64 (a1_0 * a0_1))))).bind fun bt639 => ((fleuronref01_Make.f k (wrap64 (-bt639.2)) (wrap64 (a0_1 * a1_1))).bind fun bt641 => (some (bt641.1, bt641.2.1, bt641.2.2)))) else ((fleuronref01_down.f (wrap64 (a0_0 * a1_1)) (wrap64 (a1_0 * a0_1))).bind fun bt644 => ((fleuronref01_Make.f k bt644.2 (wrap64 (a0_1 * a1_1))).bind fun bt646 => (some (bt646.1, bt646.2.1, bt646.2.2)))))) else (some (0, 0, 2)))
theorem fleuronref01_Mod.mono : ∀ a0 a1 a2 a3 k, LeO (fleuronref01_Mod.f k a0 a1 a2 a3) (fleuronref01_Mod.f (k + 1) a0 a1 a2 a3) := by
  intro a0 a1 a2 a3 k
  unfold fleuronref01_Mod.f
  repeat' first
      | (with_reducible exact fleuronref01_Make.mono _ _ _)
      | (with_reducible exact fleuronref01_both.mono _ _ _ _ _)
      | (with_reducible exact LeO.refl _)
      | (with_reducible exact LeO.none _)
      | (with_reducible refine LeO.ite ?_ ?_)
      | (with_reducible refine LeO.bind ?_ (fun _ => ?_))
      | exact fleuronref01_Make.mono _ _ _
      | exact fleuronref01_both.mono _ _ _ _ _
      | exact LeO.none _
      | refine LeO.ite ?_ ?_
      | refine LeO.bind ?_ (fun _ => ?_)
set_option maxHeartbeats 8000000 in
set_option maxRecDepth 100000 in
theorem fleuronref01_Mod.calls (k : Nat) (a0_0 : Int) (a0_1 : Int) (a1_0 : Int) (a1_1 : Int) (r1 : Int) (r2 : Int) (r3 : Int) (w : World) (h : fleuronref01_Mod.f k a0_0 a0_1 a1_0 a1_1 = some (r1, r2, r3)) :
    Calls Tryd.prog 45 #[.agg #[.int .i64 a0_0, .int .i64 a0_1], .agg #[.int .i64 a1_0, .int .i64 a1_1]] w fun e w' => e = .returned (.tuple #[.agg #[.int .i64 r1, .int .i64 r2], .int .i64 r3]) ∧ Below w.heap.size w w' := by
  have hu23 := Tryd.underlying23
  have HB := Fa.mk (Below.refl w.heap.size w)
  have H : ((fleuronref01_both.f k a0_0 a0_1 a1_0 a1_1).bind fun t638 => (if t638 = true then (if a1_0 = 0 then (some (0, 0, 18)) else (if (wrap64 (a1_0 * a0_1)) < 0 then ((fleuronref01_down.f (wrap64 (-(wrap64 (a0_0 * a1_1)))) (wrap64 (-(wrap64 (a1_0 * a0_1))))).bind fun bt639 => ((fleuronref01_Make.f k (wrap64 (-bt639.2)) (wrap64 (a0_1 * a1_1))).bind fun bt641 => (some (bt641.1, bt641.2.1, bt641.2.2)))) else ((fleuronref01_down.f (wrap64 (a0_0 * a1_1)) (wrap64 (a1_0 * a0_1))).bind fun bt644 => ((fleuronref01_Make.f k bt644.2 (wrap64 (a0_1 * a1_1))).bind fun bt646 => (some (bt646.1, bt646.2.1, bt646.2.2)))))) else (some (0, 0, 2)))) = some (r1, r2, r3) := h
  clear h
  replace H := Option.bind_eq_some_iff.mp H
  obtain ⟨t638, A30, H⟩ := H
  replace H : (if t638 = true then (if a1_0 = 0 then (some (0, 0, 18)) else (if (wrap64 (a1_0 * a0_1)) < 0 then ((fleuronref01_down.f (wrap64 (-(wrap64 (a0_0 * a1_1)))) (wrap64 (-(wrap64 (a1_0 * a0_1))))).bind fun bt639 => ((fleuronref01_Make.f k (wrap64 (-bt639.2)) (wrap64 (a0_1 * a1_1))).bind fun bt641 => (some (bt641.1, bt641.2.1, bt641.2.2)))) else ((fleuronref01_down.f (wrap64 (a0_0 * a1_1)) (wrap64 (a1_0 * a0_1))).bind fun bt644 => ((fleuronref01_Make.f k bt644.2 (wrap64 (a0_1 * a1_1))).bind fun bt646 => (some (bt646.1, bt646.2.1, bt646.2.2)))))) else (some (0, 0, 2))) = some (r1, r2, r3) := H
  have A3 := Fa.mk A30
  clear A30
  by_cases c4 : t638 = true
  · subst c4
    have H1 : (if a1_0 = 0 then (some (0, 0, 18)) else (if (wrap64 (a1_0 * a0_1)) < 0 then ((fleuronref01_down.f (wrap64 (-(wrap64 (a0_0 * a1_1)))) (wrap64 (-(wrap64 (a1_0 * a0_1))))).bind fun bt639 => ((fleuronref01_Make.f k (wrap64 (-bt639.2)) (wrap64 (a0_1 * a1_1))).bind fun bt641 => (some (bt641.1, bt641.2.1, bt641.2.2)))) else ((fleuronref01_down.f (wrap64 (a0_0 * a1_1)) (wrap64 (a1_0 * a0_1))).bind fun bt644 => ((fleuronref01_Make.f k bt644.2 (wrap64 (a0_1 * a1_1))).bind fun bt646 => (some (bt646.1, bt646.2.1, bt646.2.2)))))) = some (r1, r2, r3) := by rw [if_pos rfl] at H; exact H
    clear H
    have H := H1
    clear H1
    by_cases c5 : a1_0 = 0
    · rw [if_pos c5] at H
      have c5b0 : (a1_0 == 0) = true := beq_iff_eq.mpr c5
      have c5b1 : (a1_0 != 0) = false := bne_eq_false_iff_eq.mpr c5
      clear c5
      simp only [Option.some.injEq, Prod.mk.injEq] at H
      obtain ⟨rfl, rfl, rfl⟩ := H
      go_enter Tryd.func45, Tryd.ntmps45
      iterate 4 (go_wp2_with (first | ((with_reducible refine gate_dst (N := 2) rfl ?_); refine boxF (N := 2) (cs := #[.int .i64 a0_0, .int .i64 a0_1]) (t := 23) ?_; intro gb635 hg w6 hbox hb; have n0_ := Fa.mk (bst w hb); have n1_ := Fa.mk (hbox); have n2_ := Fa.mk (gle hg : w.heap.size ≤ gb635); have n3_ := n2_; clear HB; have HB := n0_; have BK635 := n1_; have GW635 := n2_; have GE635 := n3_; clear n0_ n1_ n2_ n3_; clear hb hbox hg) | ((with_reducible refine gate_dst (N := 3) rfl ?_); refine boxF (N := 3) (cs := #[.int .i64 a1_0, .int .i64 a1_1]) (t := 23) ?_; intro gb636 hg w7 hbox hb; have n0_ := Fa.mk (blk_below (g := gb635) (o := .cells #[.int .i64 a0_0, .int .i64 a0_1] 23 (0, 0)) fa hb); have n1_ := Fa.mk (bst w hb); have n2_ := Fa.mk (hbox); have n3_ := Fa.mk (gle hg : w.heap.size ≤ gb636); have n4_ := n3_; have n5_ := Fa.mk (gne (o := .cells #[.int .i64 a0_0, .int .i64 a0_1] 23 (0, 0)) hg : gb635 ≠ gb636); have n6_ := Fa.mk n5_.out.symm; clear BK635; clear HB; have BK635 := n0_; have HB := n1_; have BK636 := n2_; have GW636 := n3_; have GE636 := n4_; have NB635_636 := n5_; have NB636_635 := n6_; clear n0_ n1_ n2_ n3_ n4_ n5_ n6_; clear hb hbox hg) | ((with_reducible refine gate_dst (N := 4) rfl ?_); refine boxF (N := 4) (cs := #[.int .i64 0, .int .i64 0]) (t := 23) ?_; intro gb637 hg w8 hbox hb; have n0_ := Fa.mk (blk_below (g := gb635) (o := .cells #[.int .i64 a0_0, .int .i64 a0_1] 23 (0, 0)) fa hb); have n1_ := Fa.mk (blk_below (g := gb636) (o := .cells #[.int .i64 a1_0, .int .i64 a1_1] 23 (0, 0)) fa hb); have n2_ := Fa.mk (bst w hb); have n3_ := Fa.mk (hbox); have n4_ := Fa.mk (gle hg : w.heap.size ≤ gb637); have n5_ := n4_; have n6_ := Fa.mk (gne (o := .cells #[.int .i64 a0_0, .int .i64 a0_1] 23 (0, 0)) hg : gb635 ≠ gb637); have n7_ := Fa.mk n6_.out.symm; have n8_ := Fa.mk (gne (o := .cells #[.int .i64 a1_0, .int .i64 a1_1] 23 (0, 0)) hg : gb636 ≠ gb637); have n9_ := Fa.mk n8_.out.symm; clear BK635; clear BK636; clear HB; have BK635 := n0_; have BK636 := n1_; have HB := n2_; have BK637 := n3_; have GW637 := n4_; have GE637 := n5_; have NB635_637 := n6_; have NB637_635 := n7_; have NB636_637 := n8_; have NB637_636 := n9_; clear n0_ n1_ n2_ n3_ n4_ n5_ n6_ n7_ n8_ n9_; clear hb hbox hg; have hnb9 := NB635_636.out; have hnc9 := NB636_635.out; have hnb10 := NB635_637.out; have hnc10 := NB637_635.out; have hcz11_0 : w8.cell? ⟨gb635, 0, none⟩ = some (.int .i64 a0_0) := (blk_cell BK635.out 0).trans rfl; have hcz11_1 : w8.cell? ⟨gb635, 1, none⟩ = some (.int .i64 a0_1) := (blk_cell BK635.out 1).trans rfl; have hfz11_0 := blk_frozen BK635.out 0; have hfz11_1 := blk_frozen BK635.out 1; have hnb12 := NB636_637.out; have hnc12 := NB637_636.out; have hcz13_0 : w8.cell? ⟨gb636, 0, none⟩ = some (.int .i64 a1_0) := (blk_cell BK636.out 0).trans rfl; have hcz13_1 : w8.cell? ⟨gb636, 1, none⟩ = some (.int .i64 a1_1) := (blk_cell BK636.out 1).trans rfl; have hfz13_0 := blk_frozen BK636.out 0; have hfz13_1 := blk_frozen BK636.out 1) | (go_at_call 68; (with_reducible refine (fleuronref01_both.calls k a0_0 a0_1 a1_0 a1_1 true _ A3.out).mono ?_); rintro e w14 ⟨rfl, hb⟩; have n0_ := Fa.mk (blk_below (g := gb635) (o := .cells #[.int .i64 a0_0, .int .i64 a0_1] 23 (0, 0)) fa hb); have n1_ := Fa.mk (blk_below (g := gb636) (o := .cells #[.int .i64 a1_0, .int .i64 a1_1] 23 (0, 0)) fa hb); have n2_ := Fa.mk (blk_below (g := gb637) (o := .cells #[.int .i64 0, .int .i64 0] 23 (0, 0)) fa hb); have n3_ := Fa.mk (bst w hb); clear BK635; clear BK636; clear BK637; clear HB; have BK635 := n0_; have BK636 := n1_; have BK637 := n2_; have HB := n3_; clear n0_ n1_ n2_ n3_; (try clear hb); (try clear hb2); (try clear hk); (try clear hi); have hcz15_0 : w14.cell? ⟨gb636, 0, none⟩ = some (.int .i64 a1_0) := (blk_cell BK636.out 0).trans rfl; have hcz15_1 : w14.cell? ⟨gb636, 1, none⟩ = some (.int .i64 a1_1) := (blk_cell BK636.out 1).trans rfl; have hfz15_0 := blk_frozen BK636.out 0; have hfz15_1 := blk_frozen BK636.out 1; have hcz16_0 : w14.cell? ⟨gb637, 0, none⟩ = some (.int .i64 0) := (blk_cell BK637.out 0).trans rfl; have hcz16_1 : w14.cell? ⟨gb637, 1, none⟩ = some (.int .i64 0) := (blk_cell BK637.out 1).trans rfl; have hfz16_0 := blk_frozen BK637.out 0; have hfz16_1 := blk_frozen BK637.out 1)); (try go_quiet (fail)))
      refine bodyPost_ret (results_ct rfl _ _ gb637 23 #[.int .i64 0, .int .i64 0] (0, 0) _ rfl (by (with_reducible repeat (first | refine blk_drewN ?_ _ | refine blk_drew ?_ | refine blk_alloc ?_ _)); refine blk_put (cs := #[.int .i64 0, .int .i64 0]) ?_ 1 _ rfl; (with_reducible repeat (first | refine blk_drewN ?_ _ | refine blk_drew ?_ | refine blk_alloc ?_ _)); refine blk_put (cs := #[.int .i64 0, .int .i64 0]) ?_ 0 _ rfl; (with_reducible repeat (first | refine blk_drewN ?_ _ | refine blk_drew ?_ | refine blk_alloc ?_ _)); exact BK637.out) Tryd.underlying23 rfl (by kernel_rfl)) rfl ?_
      exact ⟨by first | rfl | (simp [errW_none, errW_some] <;> rfl) | (simp [*, errW_none, errW_some] <;> rfl), fa⟩
    · rw [if_neg c5] at H
      have c5b0 : (a1_0 == 0) = false := beq_eq_false_iff_ne.mpr c5
      have c5b1 : (a1_0 != 0) = true := bne_iff_ne.mpr c5
      by_cases c17 : (wrap64 (a1_0 * a0_1)) < 0
      · rw [if_pos c17] at H
        have c17b0 : decide ((wrap64 (a1_0 * a0_1)) < 0) = true := decide_eq_true c17
        clear c17
        replace H := Option.bind_eq_some_iff.mp H
        obtain ⟨⟨t639, t640⟩, A180, H⟩ := H
        replace H : ((fleuronref01_Make.f k (wrap64 (-t640)) (wrap64 (a0_1 * a1_1))).bind fun bt641 => (some (bt641.1, bt641.2.1, bt641.2.2))) = some (r1, r2, r3) := H
        have A18 := Fa.mk A180
        clear A180
        replace H := Option.bind_eq_some_iff.mp H
        obtain ⟨⟨t641, t642, t643⟩, A190, H⟩ := H
        replace H : (some (t641, t642, t643)) = some (r1, r2, r3) := H
        have A19 := Fa.mk A190
        clear A190
        simp only [Option.some.injEq, Prod.mk.injEq] at H
        obtain ⟨rfl, rfl, rfl⟩ := H
        go_enter Tryd.func45, Tryd.ntmps45
        iterate 4 (go_wp2_with (first | ((with_reducible refine gate_dst (N := 2) rfl ?_); refine boxF (N := 2) (cs := #[.int .i64 a0_0, .int .i64 a0_1]) (t := 23) ?_; intro gb635 hg w20 hbox hb; have n0_ := Fa.mk (bst w hb); have n1_ := Fa.mk (hbox); have n2_ := Fa.mk (gle hg : w.heap.size ≤ gb635); have n3_ := n2_; clear HB; have HB := n0_; have BK635 := n1_; have GW635 := n2_; have GE635 := n3_; clear n0_ n1_ n2_ n3_; clear hb hbox hg) | ((with_reducible refine gate_dst (N := 3) rfl ?_); refine boxF (N := 3) (cs := #[.int .i64 a1_0, .int .i64 a1_1]) (t := 23) ?_; intro gb636 hg w21 hbox hb; have n0_ := Fa.mk (blk_below (g := gb635) (o := .cells #[.int .i64 a0_0, .int .i64 a0_1] 23 (0, 0)) fa hb); have n1_ := Fa.mk (bst w hb); have n2_ := Fa.mk (hbox); have n3_ := Fa.mk (gle hg : w.heap.size ≤ gb636); have n4_ := n3_; have n5_ := Fa.mk (gne (o := .cells #[.int .i64 a0_0, .int .i64 a0_1] 23 (0, 0)) hg : gb635 ≠ gb636); have n6_ := Fa.mk n5_.out.symm; clear BK635; clear HB; have BK635 := n0_; have HB := n1_; have BK636 := n2_; have GW636 := n3_; have GE636 := n4_; have NB635_636 := n5_; have NB636_635 := n6_; clear n0_ n1_ n2_ n3_ n4_ n5_ n6_; clear hb hbox hg) | ((with_reducible refine gate_dst (N := 4) rfl ?_); refine boxF (N := 4) (cs := #[.int .i64 0, .int .i64 0]) (t := 23) ?_; intro gb637 hg w22 hbox hb; have n0_ := Fa.mk (blk_below (g := gb635) (o := .cells #[.int .i64 a0_0, .int .i64 a0_1] 23 (0, 0)) fa hb); have n1_ := Fa.mk (blk_below (g := gb636) (o := .cells #[.int .i64 a1_0, .int .i64 a1_1] 23 (0, 0)) fa hb); have n2_ := Fa.mk (bst w hb); have n3_ := Fa.mk (hbox); have n4_ := Fa.mk (gle hg : w.heap.size ≤ gb637); have n5_ := n4_; have n6_ := Fa.mk (gne (o := .cells #[.int .i64 a0_0, .int .i64 a0_1] 23 (0, 0)) hg : gb635 ≠ gb637); have n7_ := Fa.mk n6_.out.symm; have n8_ := Fa.mk (gne (o := .cells #[.int .i64 a1_0, .int .i64 a1_1] 23 (0, 0)) hg : gb636 ≠ gb637); have n9_ := Fa.mk n8_.out.symm; clear BK635; clear BK636; clear HB; have BK635 := n0_; have BK636 := n1_; have HB := n2_; have BK637 := n3_; have GW637 := n4_; have GE637 := n5_; have NB635_637 := n6_; have NB637_635 := n7_; have NB636_637 := n8_; have NB637_636 := n9_; clear n0_ n1_ n2_ n3_ n4_ n5_ n6_ n7_ n8_ n9_; clear hb hbox hg; have hnb23 := NB635_636.out; have hnc23 := NB636_635.out; have hnb24 := NB635_637.out; have hnc24 := NB637_635.out; have hcz25_0 : w22.cell? ⟨gb635, 0, none⟩ = some (.int .i64 a0_0) := (blk_cell BK635.out 0).trans rfl; have hcz25_1 : w22.cell? ⟨gb635, 1, none⟩ = some (.int .i64 a0_1) := (blk_cell BK635.out 1).trans rfl; have hfz25_0 := blk_frozen BK635.out 0; have hfz25_1 := blk_frozen BK635.out 1; have hnb26 := NB636_637.out; have hnc26 := NB637_636.out; have hcz27_0 : w22.cell? ⟨gb636, 0, none⟩ = some (.int .i64 a1_0) := (blk_cell BK636.out 0).trans rfl; have hcz27_1 : w22.cell? ⟨gb636, 1, none⟩ = some (.int .i64 a1_1) := (blk_cell BK636.out 1).trans rfl; have hfz27_0 := blk_frozen BK636.out 0; have hfz27_1 := blk_frozen BK636.out 1) | (go_at_call 68; (with_reducible refine (fleuronref01_both.calls k a0_0 a0_1 a1_0 a1_1 true _ A3.out).mono ?_); rintro e w28 ⟨rfl, hb⟩; have n0_ := Fa.mk (blk_below (g := gb635) (o := .cells #[.int .i64 a0_0, .int .i64 a0_1] 23 (0, 0)) fa hb); have n1_ := Fa.mk (blk_below (g := gb636) (o := .cells #[.int .i64 a1_0, .int .i64 a1_1] 23 (0, 0)) fa hb); have n2_ := Fa.mk (blk_below (g := gb637) (o := .cells #[.int .i64 0, .int .i64 0] 23 (0, 0)) fa hb); have n3_ := Fa.mk (bst w hb); clear BK635; clear BK636; clear BK637; clear HB; have BK635 := n0_; have BK636 := n1_; have BK637 := n2_; have HB := n3_; clear n0_ n1_ n2_ n3_; (try clear hb); (try clear hb2); (try clear hk); (try clear hi); have hcz29_0 : w28.cell? ⟨gb636, 0, none⟩ = some (.int .i64 a1_0) := (blk_cell BK636.out 0).trans rfl; have hcz29_1 : w28.cell? ⟨gb636, 1, none⟩ = some (.int .i64 a1_1) := (blk_cell BK636.out 1).trans rfl; have hfz29_0 := blk_frozen BK636.out 0; have hfz29_1 := blk_frozen BK636.out 1; have hcz30_0 : w28.cell? ⟨gb635, 0, none⟩ = some (.int .i64 a0_0) := (blk_cell BK635.out 0).trans rfl; have hcz30_1 : w28.cell? ⟨gb635, 1, none⟩ = some (.int .i64 a0_1) := (blk_cell BK635.out 1).trans rfl; have hfz30_0 := blk_frozen BK635.out 0; have hfz30_1 := blk_frozen BK635.out 1) | (go_at_call 67; (with_reducible refine (fleuronref01_down.calls (wrap64 (-(wrap64 (a0_0 * a1_1)))) (wrap64 (-(wrap64 (a1_0 * a0_1)))) t639 t640 _ A18.out).mono ?_); rintro e w' ⟨rfl, ⟨nd, rfl⟩⟩; (try first | exact ⟨rfl, _, World.drewN_drewN _ _ _⟩ | exact ⟨rfl, _, Eq.trans (World.drewN_drewN _ _ _) (congrArg (World.drewN _) (Nat.add_assoc _ _ _))⟩)) | (go_at_call 14; (with_reducible refine (fleuronref01_Make.calls k (wrap64 (-t640)) (wrap64 (a0_1 * a1_1)) t641 t642 t643 _ A19.out).mono ?_); rintro e w31 ⟨rfl, hb⟩; have n0_ := Fa.mk (blk_below (g := gb635) (o := .cells #[.int .i64 a0_0, .int .i64 a0_1] 23 (0, 0)) fa hb); have n1_ := Fa.mk (blk_below (g := gb636) (o := .cells #[.int .i64 a1_0, .int .i64 a1_1] 23 (0, 0)) fa hb); have n2_ := Fa.mk (blk_below (g := gb637) (o := .cells #[.int .i64 0, .int .i64 0] 23 (0, 0)) fa hb); have n3_ := Fa.mk (bst w hb); clear BK635; clear BK636; clear BK637; clear HB; have BK635 := n0_; have BK636 := n1_; have BK637 := n2_; have HB := n3_; clear n0_ n1_ n2_ n3_; (try clear hb); (try clear hb2); (try clear hk); (try clear hi); have hcz32_0 : w31.cell? ⟨gb637, 0, none⟩ = some (.int .i64 0) := (blk_cell BK637.out 0).trans rfl; have hcz32_1 : w31.cell? ⟨gb637, 1, none⟩ = some (.int .i64 0) := (blk_cell BK637.out 1).trans rfl; have hfz32_0 := blk_frozen BK637.out 0; have hfz32_1 := blk_frozen BK637.out 1)); (try go_quiet (fail)))
        refine bodyPost_ret (results_ct rfl _ _ gb637 23 #[.int .i64 t641, .int .i64 t642] (0, 0) _ rfl (by (with_reducible repeat (first | refine blk_drewN ?_ _ | refine blk_drew ?_ | refine blk_alloc ?_ _)); refine blk_put (cs := #[.int .i64 t641, .int .i64 0]) ?_ 1 _ rfl; (with_reducible repeat (first | refine blk_drewN ?_ _ | refine blk_drew ?_ | refine blk_alloc ?_ _)); refine blk_put (cs := #[.int .i64 0, .int .i64 0]) ?_ 0 _ rfl; (with_reducible repeat (first | refine blk_drewN ?_ _ | refine blk_drew ?_ | refine blk_alloc ?_ _)); exact BK637.out) Tryd.underlying23 rfl (by kernel_rfl)) rfl ?_
        exact ⟨by first | rfl | (simp [errW_none, errW_some] <;> rfl) | (simp [*, errW_none, errW_some] <;> rfl), fa⟩
      · rw [if_neg c17] at H
        have c17b0 : decide ((wrap64 (a1_0 * a0_1)) < 0) = false := decide_eq_false c17
        clear c17
        replace H := Option.bind_eq_some_iff.mp H
        obtain ⟨⟨t644, t645⟩, A330, H⟩ := H
        replace H : ((fleuronref01_Make.f k t645 (wrap64 (a0_1 * a1_1))).bind fun bt646 => (some (bt646.1, bt646.2.1, bt646.2.2))) = some (r1, r2, r3) := H
        have A33 := Fa.mk A330
        clear A330
        replace H := Option.bind_eq_some_iff.mp H
        obtain ⟨⟨t646, t647, t648⟩, A340, H⟩ := H
        replace H : (some (t646, t647, t648)) = some (r1, r2, r3) := H
        have A34 := Fa.mk A340
        clear A340
        simp only [Option.some.injEq, Prod.mk.injEq] at H
        obtain ⟨rfl, rfl, rfl⟩ := H
        go_enter Tryd.func45, Tryd.ntmps45
        iterate 4 (go_wp2_with (first | ((with_reducible refine gate_dst (N := 2) rfl ?_); refine boxF (N := 2) (cs := #[.int .i64 a0_0, .int .i64 a0_1]) (t := 23) ?_; intro gb635 hg w35 hbox hb; have n0_ := Fa.mk (bst w hb); have n1_ := Fa.mk (hbox); have n2_ := Fa.mk (gle hg : w.heap.size ≤ gb635); have n3_ := n2_; clear HB; have HB := n0_; have BK635 := n1_; have GW635 := n2_; have GE635 := n3_; clear n0_ n1_ n2_ n3_; clear hb hbox hg) | ((with_reducible refine gate_dst (N := 3) rfl ?_); refine boxF (N := 3) (cs := #[.int .i64 a1_0, .int .i64 a1_1]) (t := 23) ?_; intro gb636 hg w36 hbox hb; have n0_ := Fa.mk (blk_below (g := gb635) (o := .cells #[.int .i64 a0_0, .int .i64 a0_1] 23 (0, 0)) fa hb); have n1_ := Fa.mk (bst w hb); have n2_ := Fa.mk (hbox); have n3_ := Fa.mk (gle hg : w.heap.size ≤ gb636); have n4_ := n3_; have n5_ := Fa.mk (gne (o := .cells #[.int .i64 a0_0, .int .i64 a0_1] 23 (0, 0)) hg : gb635 ≠ gb636); have n6_ := Fa.mk n5_.out.symm; clear BK635; clear HB; have BK635 := n0_; have HB := n1_; have BK636 := n2_; have GW636 := n3_; have GE636 := n4_; have NB635_636 := n5_; have NB636_635 := n6_; clear n0_ n1_ n2_ n3_ n4_ n5_ n6_; clear hb hbox hg) | ((with_reducible refine gate_dst (N := 4) rfl ?_); refine boxF (N := 4) (cs := #[.int .i64 0, .int .i64 0]) (t := 23) ?_; intro gb637 hg w37 hbox hb; have n0_ := Fa.mk (blk_below (g := gb635) (o := .cells #[.int .i64 a0_0, .int .i64 a0_1] 23 (0, 0)) fa hb); have n1_ := Fa.mk (blk_below (g := gb636) (o := .cells #[.int .i64 a1_0, .int .i64 a1_1] 23 (0, 0)) fa hb); have n2_ := Fa.mk (bst w hb); have n3_ := Fa.mk (hbox); have n4_ := Fa.mk (gle hg : w.heap.size ≤ gb637); have n5_ := n4_; have n6_ := Fa.mk (gne (o := .cells #[.int .i64 a0_0, .int .i64 a0_1] 23 (0, 0)) hg : gb635 ≠ gb637); have n7_ := Fa.mk n6_.out.symm; have n8_ := Fa.mk (gne (o := .cells #[.int .i64 a1_0, .int .i64 a1_1] 23 (0, 0)) hg : gb636 ≠ gb637); have n9_ := Fa.mk n8_.out.symm; clear BK635; clear BK636; clear HB; have BK635 := n0_; have BK636 := n1_; have HB := n2_; have BK637 := n3_; have GW637 := n4_; have GE637 := n5_; have NB635_637 := n6_; have NB637_635 := n7_; have NB636_637 := n8_; have NB637_636 := n9_; clear n0_ n1_ n2_ n3_ n4_ n5_ n6_ n7_ n8_ n9_; clear hb hbox hg; have hnb38 := NB635_636.out; have hnc38 := NB636_635.out; have hnb39 := NB635_637.out; have hnc39 := NB637_635.out; have hcz40_0 : w37.cell? ⟨gb635, 0, none⟩ = some (.int .i64 a0_0) := (blk_cell BK635.out 0).trans rfl; have hcz40_1 : w37.cell? ⟨gb635, 1, none⟩ = some (.int .i64 a0_1) := (blk_cell BK635.out 1).trans rfl; have hfz40_0 := blk_frozen BK635.out 0; have hfz40_1 := blk_frozen BK635.out 1; have hnb41 := NB636_637.out; have hnc41 := NB637_636.out; have hcz42_0 : w37.cell? ⟨gb636, 0, none⟩ = some (.int .i64 a1_0) := (blk_cell BK636.out 0).trans rfl; have hcz42_1 : w37.cell? ⟨gb636, 1, none⟩ = some (.int .i64 a1_1) := (blk_cell BK636.out 1).trans rfl; have hfz42_0 := blk_frozen BK636.out 0; have hfz42_1 := blk_frozen BK636.out 1) | (go_at_call 68; (with_reducible refine (fleuronref01_both.calls k a0_0 a0_1 a1_0 a1_1 true _ A3.out).mono ?_); rintro e w43 ⟨rfl, hb⟩; have n0_ := Fa.mk (blk_below (g := gb635) (o := .cells #[.int .i64 a0_0, .int .i64 a0_1] 23 (0, 0)) fa hb); have n1_ := Fa.mk (blk_below (g := gb636) (o := .cells #[.int .i64 a1_0, .int .i64 a1_1] 23 (0, 0)) fa hb); have n2_ := Fa.mk (blk_below (g := gb637) (o := .cells #[.int .i64 0, .int .i64 0] 23 (0, 0)) fa hb); have n3_ := Fa.mk (bst w hb); clear BK635; clear BK636; clear BK637; clear HB; have BK635 := n0_; have BK636 := n1_; have BK637 := n2_; have HB := n3_; clear n0_ n1_ n2_ n3_; (try clear hb); (try clear hb2); (try clear hk); (try clear hi); have hcz44_0 : w43.cell? ⟨gb636, 0, none⟩ = some (.int .i64 a1_0) := (blk_cell BK636.out 0).trans rfl; have hcz44_1 : w43.cell? ⟨gb636, 1, none⟩ = some (.int .i64 a1_1) := (blk_cell BK636.out 1).trans rfl; have hfz44_0 := blk_frozen BK636.out 0; have hfz44_1 := blk_frozen BK636.out 1; have hcz45_0 : w43.cell? ⟨gb635, 0, none⟩ = some (.int .i64 a0_0) := (blk_cell BK635.out 0).trans rfl; have hcz45_1 : w43.cell? ⟨gb635, 1, none⟩ = some (.int .i64 a0_1) := (blk_cell BK635.out 1).trans rfl; have hfz45_0 := blk_frozen BK635.out 0; have hfz45_1 := blk_frozen BK635.out 1) | (go_at_call 67; (with_reducible refine (fleuronref01_down.calls (wrap64 (a0_0 * a1_1)) (wrap64 (a1_0 * a0_1)) t644 t645 _ A33.out).mono ?_); rintro e w' ⟨rfl, ⟨nd, rfl⟩⟩; (try first | exact ⟨rfl, _, World.drewN_drewN _ _ _⟩ | exact ⟨rfl, _, Eq.trans (World.drewN_drewN _ _ _) (congrArg (World.drewN _) (Nat.add_assoc _ _ _))⟩)) | (go_at_call 14; (with_reducible refine (fleuronref01_Make.calls k t645 (wrap64 (a0_1 * a1_1)) t646 t647 t648 _ A34.out).mono ?_); rintro e w46 ⟨rfl, hb⟩; have n0_ := Fa.mk (blk_below (g := gb635) (o := .cells #[.int .i64 a0_0, .int .i64 a0_1] 23 (0, 0)) fa hb); have n1_ := Fa.mk (blk_below (g := gb636) (o := .cells #[.int .i64 a1_0, .int .i64 a1_1] 23 (0, 0)) fa hb); have n2_ := Fa.mk (blk_below (g := gb637) (o := .cells #[.int .i64 0, .int .i64 0] 23 (0, 0)) fa hb); have n3_ := Fa.mk (bst w hb); clear BK635; clear BK636; clear BK637; clear HB; have BK635 := n0_; have BK636 := n1_; have BK637 := n2_; have HB := n3_; clear n0_ n1_ n2_ n3_; (try clear hb); (try clear hb2); (try clear hk); (try clear hi); have hcz47_0 : w46.cell? ⟨gb637, 0, none⟩ = some (.int .i64 0) := (blk_cell BK637.out 0).trans rfl; have hcz47_1 : w46.cell? ⟨gb637, 1, none⟩ = some (.int .i64 0) := (blk_cell BK637.out 1).trans rfl; have hfz47_0 := blk_frozen BK637.out 0; have hfz47_1 := blk_frozen BK637.out 1)); (try go_quiet (fail)))
        refine bodyPost_ret (results_ct rfl _ _ gb637 23 #[.int .i64 t646, .int .i64 t647] (0, 0) _ rfl (by (with_reducible repeat (first | refine blk_drewN ?_ _ | refine blk_drew ?_ | refine blk_alloc ?_ _)); refine blk_put (cs := #[.int .i64 t646, .int .i64 0]) ?_ 1 _ rfl; (with_reducible repeat (first | refine blk_drewN ?_ _ | refine blk_drew ?_ | refine blk_alloc ?_ _)); refine blk_put (cs := #[.int .i64 0, .int .i64 0]) ?_ 0 _ rfl; (with_reducible repeat (first | refine blk_drewN ?_ _ | refine blk_drew ?_ | refine blk_alloc ?_ _)); exact BK637.out) Tryd.underlying23 rfl (by kernel_rfl)) rfl ?_
        exact ⟨by first | rfl | (simp [errW_none, errW_some] <;> rfl) | (simp [*, errW_none, errW_some] <;> rfl), fa⟩
  · replace c4 := Bool.eq_false_iff.mpr c4
    subst c4
    have H1 : (some (0, 0, 2)) = some (r1, r2, r3) := by rw [if_neg (show ¬ (false = true) by decide)] at H; exact H
    clear H
    have H := H1
    clear H1
    simp only [Option.some.injEq, Prod.mk.injEq] at H
    obtain ⟨rfl, rfl, rfl⟩ := H
    go_enter Tryd.func45, Tryd.ntmps45
    iterate 4 (go_wp2_with (first | ((with_reducible refine gate_dst (N := 2) rfl ?_); refine boxF (N := 2) (cs := #[.int .i64 a0_0, .int .i64 a0_1]) (t := 23) ?_; intro gb635 hg w48 hbox hb; have n0_ := Fa.mk (bst w hb); have n1_ := Fa.mk (hbox); have n2_ := Fa.mk (gle hg : w.heap.size ≤ gb635); have n3_ := n2_; clear HB; have HB := n0_; have BK635 := n1_; have GW635 := n2_; have GE635 := n3_; clear n0_ n1_ n2_ n3_; clear hb hbox hg) | ((with_reducible refine gate_dst (N := 3) rfl ?_); refine boxF (N := 3) (cs := #[.int .i64 a1_0, .int .i64 a1_1]) (t := 23) ?_; intro gb636 hg w49 hbox hb; have n0_ := Fa.mk (blk_below (g := gb635) (o := .cells #[.int .i64 a0_0, .int .i64 a0_1] 23 (0, 0)) fa hb); have n1_ := Fa.mk (bst w hb); have n2_ := Fa.mk (hbox); have n3_ := Fa.mk (gle hg : w.heap.size ≤ gb636); have n4_ := n3_; have n5_ := Fa.mk (gne (o := .cells #[.int .i64 a0_0, .int .i64 a0_1] 23 (0, 0)) hg : gb635 ≠ gb636); have n6_ := Fa.mk n5_.out.symm; clear BK635; clear HB; have BK635 := n0_; have HB := n1_; have BK636 := n2_; have GW636 := n3_; have GE636 := n4_; have NB635_636 := n5_; have NB636_635 := n6_; clear n0_ n1_ n2_ n3_ n4_ n5_ n6_; clear hb hbox hg) | ((with_reducible refine gate_dst (N := 4) rfl ?_); refine boxF (N := 4) (cs := #[.int .i64 0, .int .i64 0]) (t := 23) ?_; intro gb637 hg w50 hbox hb; have n0_ := Fa.mk (blk_below (g := gb635) (o := .cells #[.int .i64 a0_0, .int .i64 a0_1] 23 (0, 0)) fa hb); have n1_ := Fa.mk (blk_below (g := gb636) (o := .cells #[.int .i64 a1_0, .int .i64 a1_1] 23 (0, 0)) fa hb); have n2_ := Fa.mk (bst w hb); have n3_ := Fa.mk (hbox); have n4_ := Fa.mk (gle hg : w.heap.size ≤ gb637); have n5_ := n4_; have n6_ := Fa.mk (gne (o := .cells #[.int .i64 a0_0, .int .i64 a0_1] 23 (0, 0)) hg : gb635 ≠ gb637); have n7_ := Fa.mk n6_.out.symm; have n8_ := Fa.mk (gne (o := .cells #[.int .i64 a1_0, .int .i64 a1_1] 23 (0, 0)) hg : gb636 ≠ gb637); have n9_ := Fa.mk n8_.out.symm; clear BK635; clear BK636; clear HB; have BK635 := n0_; have BK636 := n1_; have HB := n2_; have BK637 := n3_; have GW637 := n4_; have GE637 := n5_; have NB635_637 := n6_; have NB637_635 := n7_; have NB636_637 := n8_; have NB637_636 := n9_; clear n0_ n1_ n2_ n3_ n4_ n5_ n6_ n7_ n8_ n9_; clear hb hbox hg; have hnb51 := NB635_636.out; have hnc51 := NB636_635.out; have hnb52 := NB635_637.out; have hnc52 := NB637_635.out; have hcz53_0 : w50.cell? ⟨gb635, 0, none⟩ = some (.int .i64 a0_0) := (blk_cell BK635.out 0).trans rfl; have hcz53_1 : w50.cell? ⟨gb635, 1, none⟩ = some (.int .i64 a0_1) := (blk_cell BK635.out 1).trans rfl; have hfz53_0 := blk_frozen BK635.out 0; have hfz53_1 := blk_frozen BK635.out 1; have hnb54 := NB636_637.out; have hnc54 := NB637_636.out; have hcz55_0 : w50.cell? ⟨gb636, 0, none⟩ = some (.int .i64 a1_0) := (blk_cell BK636.out 0).trans rfl; have hcz55_1 : w50.cell? ⟨gb636, 1, none⟩ = some (.int .i64 a1_1) := (blk_cell BK636.out 1).trans rfl; have hfz55_0 := blk_frozen BK636.out 0; have hfz55_1 := blk_frozen BK636.out 1) | (go_at_call 68; (with_reducible refine (fleuronref01_both.calls k a0_0 a0_1 a1_0 a1_1 false _ A3.out).mono ?_); rintro e w56 ⟨rfl, hb⟩; have n0_ := Fa.mk (blk_below (g := gb635) (o := .cells #[.int .i64 a0_0, .int .i64 a0_1] 23 (0, 0)) fa hb); have n1_ := Fa.mk (blk_below (g := gb636) (o := .cells #[.int .i64 a1_0, .int .i64 a1_1] 23 (0, 0)) fa hb); have n2_ := Fa.mk (blk_below (g := gb637) (o := .cells #[.int .i64 0, .int .i64 0] 23 (0, 0)) fa hb); have n3_ := Fa.mk (bst w hb); clear BK635; clear BK636; clear BK637; clear HB; have BK635 := n0_; have BK636 := n1_; have BK637 := n2_; have HB := n3_; clear n0_ n1_ n2_ n3_; (try clear hb); (try clear hb2); (try clear hk); (try clear hi); have hcz57_0 : w56.cell? ⟨gb637, 0, none⟩ = some (.int .i64 0) := (blk_cell BK637.out 0).trans rfl; have hcz57_1 : w56.cell? ⟨gb637, 1, none⟩ = some (.int .i64 0) := (blk_cell BK637.out 1).trans rfl; have hfz57_0 := blk_frozen BK637.out 0; have hfz57_1 := blk_frozen BK637.out 1)); (try go_quiet (fail)))
    refine bodyPost_ret (results_ct rfl _ _ gb637 23 #[.int .i64 0, .int .i64 0] (0, 0) _ rfl (by (with_reducible repeat (first | refine blk_drewN ?_ _ | refine blk_drew ?_ | refine blk_alloc ?_ _)); refine blk_put (cs := #[.int .i64 0, .int .i64 0]) ?_ 1 _ rfl; (with_reducible repeat (first | refine blk_drewN ?_ _ | refine blk_drew ?_ | refine blk_alloc ?_ _)); refine blk_put (cs := #[.int .i64 0, .int .i64 0]) ?_ 0 _ rfl; (with_reducible repeat (first | refine blk_drewN ?_ _ | refine blk_drew ?_ | refine blk_alloc ?_ _)); exact BK637.out) Tryd.underlying23 rfl (by kernel_rfl)) rfl ?_
    exact ⟨by first | rfl | (simp [errW_none, errW_some] <;> rfl) | (simp [*, errW_none, errW_some] <;> rfl), fa⟩

/-! ### num_Power: function 46 -/
mutual
def num_Power.j0 : Nat → Int → Bool → Int → Int → Option (Int × Int × Int)
  | 0, _, _, _, _ => none
  | k + 1, x1, x18, x650000, x650001 => if x18 = true then (some (0, 0, 2)) else (if x1 < 0 then (if x650000 = 0 then (some (0, 0, 18)) else ((rational_Exact.f k x650001 x650000).bind fun bt652 => (num_Power.j1 k (wrap64 (-x1)) bt652.1 bt652.2.1))) else (num_Power.j1 k x1 x650000 x650001))
def num_Power.j1 : Nat → Int → Int → Int → Option (Int × Int × Int)
  | 0, _, _, _ => none
  | k + 1, x1, x650000, x650001 => num_Power.l0 k x1 0 x650000 x650001 1 1
def num_Power.l0 : Nat → Int → Int → Int → Int → Int → Int → Option (Int × Int × Int)
  | 0, _, _, _, _, _, _ => none
  | k + 1, x37, x38, x650000, x650001, x656000, x656001 => if x38 < x37 then ((num_Mul.f k x656000 x656001 x650000 x650001).bind fun bt656 => (if bt656.2.2 = 0 then (num_Power.l0 k x37 (wrap64 (x38 + 1)) x650000 x650001 bt656.1 bt656.2.1) else (some (0, 0, bt656.2.2)))) else (some (x656000, x656001, 0))
end
def num_Power.f (k : Nat) (a0_0 : Int) (a0_1 : Int) (a1 : Int) : Option (Int × Int × Int) := (num_Valid.f k a0_0 a0_1).bind fun t651 => (if t651 = true then (if a1 < (-64) then (num_Power.j0 k a1 true a0_0 a0_1) else (num_Power.j0 k a1 (decide (a1 > 64)) a0_0 a0_1)) else (num_Power.j0 k a1 true a0_0 a0_1))
theorem num_Power.mono_l : ∀ k, (∀ y0 y1 y2 y3, LeO (num_Power.j0 k y0 y1 y2 y3) (num_Power.j0 (k + 1) y0 y1 y2 y3)) ∧ (∀ y0 y1 y2, LeO (num_Power.j1 k y0 y1 y2) (num_Power.j1 (k + 1) y0 y1 y2)) ∧ (∀ y0 y1 y2 y3 y4 y5, LeO (num_Power.l0 k y0 y1 y2 y3 y4 y5) (num_Power.l0 (k + 1) y0 y1 y2 y3 y4 y5))
  | 0 => ⟨fun _ _ _ _ r h => by simp [num_Power.j0] at h, fun _ _ _ r h => by simp [num_Power.j1] at h, fun _ _ _ _ _ _ r h => by simp [num_Power.l0] at h⟩
  | k + 1 => by
    obtain ⟨ih0, ih1, ih2⟩ := num_Power.mono_l k
    refine ⟨?_, ?_, ?_⟩
    · intro y0 y1 y2 y3
      unfold num_Power.j0
      repeat' first
      | (with_reducible exact ih0 _ _ _ _)
      | (with_reducible exact ih1 _ _ _)
      | (with_reducible exact ih2 _ _ _ _ _ _)
      | (with_reducible exact num_Mul.mono _ _ _ _ _)
      | (with_reducible exact num_Valid.mono _ _ _)
      | (with_reducible exact rational_Exact.mono _ _ _)
      | (with_reducible exact LeO.refl _)
      | (with_reducible exact LeO.none _)
      | (with_reducible refine LeO.ite ?_ ?_)
      | (with_reducible refine LeO.bind ?_ (fun _ => ?_))
      | exact ih0 _ _ _ _
      | exact ih1 _ _ _
      | exact ih2 _ _ _ _ _ _
      | exact num_Mul.mono _ _ _ _ _
      | exact num_Valid.mono _ _ _
      | exact rational_Exact.mono _ _ _
      | exact LeO.none _
      | refine LeO.ite ?_ ?_
      | refine LeO.bind ?_ (fun _ => ?_)
    · intro y0 y1 y2
      unfold num_Power.j1
      repeat' first
      | (with_reducible exact ih0 _ _ _ _)
      | (with_reducible exact ih1 _ _ _)
      | (with_reducible exact ih2 _ _ _ _ _ _)
      | (with_reducible exact num_Mul.mono _ _ _ _ _)
      | (with_reducible exact num_Valid.mono _ _ _)
      | (with_reducible exact rational_Exact.mono _ _ _)
      | (with_reducible exact LeO.refl _)
      | (with_reducible exact LeO.none _)
      | (with_reducible refine LeO.ite ?_ ?_)
      | (with_reducible refine LeO.bind ?_ (fun _ => ?_))
      | exact ih0 _ _ _ _
      | exact ih1 _ _ _
      | exact ih2 _ _ _ _ _ _
      | exact num_Mul.mono _ _ _ _ _
      | exact num_Valid.mono _ _ _
      | exact rational_Exact.mono _ _ _
      | exact LeO.none _
      | refine LeO.ite ?_ ?_
      | refine LeO.bind ?_ (fun _ => ?_)
    · intro y0 y1 y2 y3 y4 y5
      unfold num_Power.l0
      repeat' first
      | (with_reducible exact ih0 _ _ _ _)
      | (with_reducible exact ih1 _ _ _)
      | (with_reducible exact ih2 _ _ _ _ _ _)
      | (with_reducible exact num_Mul.mono _ _ _ _ _)
      | (with_reducible exact num_Valid.mono _ _ _)
      | (with_reducible exact rational_Exact.mono _ _ _)
      | (with_reducible exact LeO.refl _)
      | (with_reducible exact LeO.none _)
      | (with_reducible refine LeO.ite ?_ ?_)
      | (with_reducible refine LeO.bind ?_ (fun _ => ?_))
      | exact ih0 _ _ _ _
      | exact ih1 _ _ _
      | exact ih2 _ _ _ _ _ _
      | exact num_Mul.mono _ _ _ _ _
      | exact num_Valid.mono _ _ _
      | exact rational_Exact.mono _ _ _
      | exact LeO.none _
      | refine LeO.ite ?_ ?_
      | refine LeO.bind ?_ (fun _ => ?_)
theorem num_Power.mono : ∀ a0 a1 a2 k, LeO (num_Power.f k a0 a1 a2) (num_Power.f (k + 1) a0 a1 a2) := by
  intro a0 a1 a2 k
  obtain ⟨ih0, ih1, ih2⟩ := num_Power.mono_l k
  unfold num_Power.f
  repeat' first
      | (with_reducible exact ih0 _ _ _ _)
      | (with_reducible exact ih1 _ _ _)
      | (with_reducible exact ih2 _ _ _ _ _ _)
      | (with_reducible exact num_Mul.mono _ _ _ _ _)
      | (with_reducible exact num_Valid.mono _ _ _)
      | (with_reducible exact rational_Exact.mono _ _ _)
      | (with_reducible exact LeO.refl _)
      | (with_reducible exact LeO.none _)
      | (with_reducible refine LeO.ite ?_ ?_)
      | (with_reducible refine LeO.bind ?_ (fun _ => ?_))
      | exact ih0 _ _ _ _
      | exact ih1 _ _ _
      | exact ih2 _ _ _ _ _ _
      | exact num_Mul.mono _ _ _ _ _
      | exact num_Valid.mono _ _ _
      | exact rational_Exact.mono _ _ _
      | exact LeO.none _
      | refine LeO.ite ?_ ?_
      | refine LeO.bind ?_ (fun _ => ?_)
set_option maxHeartbeats 8000000 in
set_option maxRecDepth 100000 in
theorem num_Power.calls (k : Nat) (a0_0 : Int) (a0_1 : Int) (a1 : Int) (r1 : Int) (r2 : Int) (r3 : Int) (w : World) (h : num_Power.f k a0_0 a0_1 a1 = some (r1, r2, r3)) :
    Calls Tryd.prog 46 #[.agg #[.int .i64 a0_0, .int .i64 a0_1], .int .i64 a1] w fun e w' => e = .returned (.tuple #[.agg #[.int .i64 r1, .int .i64 r2], .int .i64 r3]) ∧ Below w.heap.size w w' := by
  have hu23 := Tryd.underlying23
  have HB := Fa.mk (Below.refl w.heap.size w)
  have H : ((num_Valid.f k a0_0 a0_1).bind fun t651 => (if t651 = true then (if a1 < (-64) then (num_Power.j0 k a1 true a0_0 a0_1) else (num_Power.j0 k a1 (decide (a1 > 64)) a0_0 a0_1)) else (num_Power.j0 k a1 true a0_0 a0_1))) = some (r1, r2, r3) := h
  clear h
  have HC3 := Fa.mk H
  clear H
  go_enter Tryd.func46, Tryd.ntmps46
  go_upto_region 1 with (first | ((with_reducible refine gate_dst (N := 2) rfl ?_); refine boxF (N := 2) (cs := #[.int .i64 a0_0, .int .i64 a0_1]) (t := 23) ?_; intro gb649 hg w4 hbox hb; have n0_ := Fa.mk (bst w hb); have n1_ := Fa.mk (hbox); have n2_ := Fa.mk (gle hg : w.heap.size ≤ gb649); have n3_ := n2_; clear HB; have HB := n0_; have BK649 := n1_; have GW649 := n2_; have GE649 := n3_; clear n0_ n1_ n2_ n3_; clear hb hbox hg) | ((with_reducible refine gate_dst (N := 4) rfl ?_); refine boxF (N := 4) (cs := #[.int .i64 0, .int .i64 0]) (t := 23) ?_; intro gb650 hg w5 hbox hb; have n0_ := Fa.mk (blk_below (g := gb649) (o := .cells #[.int .i64 a0_0, .int .i64 a0_1] 23 (0, 0)) fa hb); have n1_ := Fa.mk (bst w hb); have n2_ := Fa.mk (hbox); have n3_ := Fa.mk (gle hg : w.heap.size ≤ gb650); have n4_ := n3_; have n5_ := Fa.mk (gne (o := .cells #[.int .i64 a0_0, .int .i64 a0_1] 23 (0, 0)) hg : gb649 ≠ gb650); have n6_ := Fa.mk n5_.out.symm; clear BK649; clear HB; have BK649 := n0_; have HB := n1_; have BK650 := n2_; have GW650 := n3_; have GE650 := n4_; have NB649_650 := n5_; have NB650_649 := n6_; clear n0_ n1_ n2_ n3_ n4_ n5_ n6_; clear hb hbox hg))
  (try simp only [Act.put, List.setIfInBounds_toArray, List.set_cons_zero, List.set_cons_succ])
  go_cut [18] (fun v18 wc => ∃ (kq : Nat) (x18_2 : Bool), v18 = .bool x18_2 ∧ Fa (num_Power.j0 kq a1 x18_2 a0_0 a0_1 = some (r1, r2, r3)) ∧ Fa (kq ≤ k) ∧ Fa (wc.heap[gb649]? = some (.cells #[.int .i64 a0_0, .int .i64 a0_1] 23 (0, 0))) ∧ Fa (wc.heap[gb650]? = some (.cells #[.int .i64 0, .int .i64 0] 23 (0, 0))) ∧ Fa (Below w.heap.size w wc))
  case first =>
    have H := HC3.out
    clear HC3
    replace H := Option.bind_eq_some_iff.mp H
    obtain ⟨t651, A60, H⟩ := H
    replace H : (if t651 = true then (if a1 < (-64) then (num_Power.j0 k a1 true a0_0 a0_1) else (num_Power.j0 k a1 (decide (a1 > 64)) a0_0 a0_1)) else (num_Power.j0 k a1 true a0_0 a0_1)) = some (r1, r2, r3) := H
    have A6 := Fa.mk A60
    clear A60
    by_cases c7 : t651 = true
    · subst c7
      have H1 : (if a1 < (-64) then (num_Power.j0 k a1 true a0_0 a0_1) else (num_Power.j0 k a1 (decide (a1 > 64)) a0_0 a0_1)) = some (r1, r2, r3) := by rw [if_pos rfl] at H; exact H
      clear H
      have H := H1
      clear H1
      by_cases c8 : a1 < (-64)
      · rw [if_pos c8] at H
        have c8b0 : decide (a1 < (-64)) = true := decide_eq_true c8
        clear c8
        (first | rw [c8b0] | (simp only [i64_w, i32_w]; rw [c8b0]) | skip)
        have H' := Fa.mk H
        clear H
        have hnb9 := NB649_650.out
        have hnc9 := NB650_649.out
        have hcz10_0 : w5.cell? ⟨gb649, 0, none⟩ = some (.int .i64 a0_0) := (blk_cell BK649.out 0).trans rfl
        have hcz10_1 : w5.cell? ⟨gb649, 1, none⟩ = some (.int .i64 a0_1) := (blk_cell BK649.out 1).trans rfl
        have hfz10_0 := blk_frozen BK649.out 0
        have hfz10_1 := blk_frozen BK649.out 1
        go_wp2_with (first | ((with_reducible refine gate_callee (f := 15) rfl ?_); refine goesA (some 9) rfl rfl Tryd.func15 (by kernel_rfl) rfl #[.agg #[.int .i64 a0_0, .int .i64 a0_1]] rfl ?_; (with_reducible refine (num_Valid.calls k a0_0 a0_1 true _ A6.out).mono ?_); rintro e w11 ⟨rfl, hb⟩; refine ⟨_, rfl, ?_⟩; have n0_ := Fa.mk (blk_below (g := gb649) (o := .cells #[.int .i64 a0_0, .int .i64 a0_1] 23 (0, 0)) fa hb); have n1_ := Fa.mk (blk_below (g := gb650) (o := .cells #[.int .i64 0, .int .i64 0] 23 (0, 0)) fa hb); have n2_ := Fa.mk (bst w hb); clear BK649; clear BK650; clear HB; have BK649 := n0_; have BK650 := n1_; have HB := n2_; clear n0_ n1_ n2_; (try clear hb); (try clear hb2); (try clear hk); (try clear hi)))
        go_meet
        case rel => exact ⟨_, (true), (by first | rfl | (simp; done) | (simp [*]; done)), H', ⟨by first | omega | exact Nat.le_refl _⟩, ⟨by (with_reducible repeat (first | refine blk_drewN ?_ _ | refine blk_drew ?_ | refine blk_alloc ?_ _)); exact BK649.out⟩, ⟨by (with_reducible repeat (first | refine blk_drewN ?_ _ | refine blk_drew ?_ | refine blk_alloc ?_ _)); exact BK650.out⟩, ⟨fa⟩⟩
      · rw [if_neg c8] at H
        have c8b0 : decide (a1 < (-64)) = false := decide_eq_false c8
        clear c8
        (first | rw [c8b0] | (simp only [i64_w, i32_w]; rw [c8b0]) | skip)
        have H' := Fa.mk H
        clear H
        have hnb12 := NB649_650.out
        have hnc12 := NB650_649.out
        have hcz13_0 : w5.cell? ⟨gb649, 0, none⟩ = some (.int .i64 a0_0) := (blk_cell BK649.out 0).trans rfl
        have hcz13_1 : w5.cell? ⟨gb649, 1, none⟩ = some (.int .i64 a0_1) := (blk_cell BK649.out 1).trans rfl
        have hfz13_0 := blk_frozen BK649.out 0
        have hfz13_1 := blk_frozen BK649.out 1
        go_wp2_with (first | ((with_reducible refine gate_callee (f := 15) rfl ?_); refine goesA (some 9) rfl rfl Tryd.func15 (by kernel_rfl) rfl #[.agg #[.int .i64 a0_0, .int .i64 a0_1]] rfl ?_; (with_reducible refine (num_Valid.calls k a0_0 a0_1 true _ A6.out).mono ?_); rintro e w14 ⟨rfl, hb⟩; refine ⟨_, rfl, ?_⟩; have n0_ := Fa.mk (blk_below (g := gb649) (o := .cells #[.int .i64 a0_0, .int .i64 a0_1] 23 (0, 0)) fa hb); have n1_ := Fa.mk (blk_below (g := gb650) (o := .cells #[.int .i64 0, .int .i64 0] 23 (0, 0)) fa hb); have n2_ := Fa.mk (bst w hb); clear BK649; clear BK650; clear HB; have BK649 := n0_; have BK650 := n1_; have HB := n2_; clear n0_ n1_ n2_; (try clear hb); (try clear hb2); (try clear hk); (try clear hi)))
        go_meet
        case rel => exact ⟨_, (decide (a1 > 64)), (by first | rfl | (simp; done) | (simp [*]; done)), H', ⟨by first | omega | exact Nat.le_refl _⟩, ⟨by (with_reducible repeat (first | refine blk_drewN ?_ _ | refine blk_drew ?_ | refine blk_alloc ?_ _)); exact BK649.out⟩, ⟨by (with_reducible repeat (first | refine blk_drewN ?_ _ | refine blk_drew ?_ | refine blk_alloc ?_ _)); exact BK650.out⟩, ⟨fa⟩⟩
    · replace c7 := Bool.eq_false_iff.mpr c7
      subst c7
      have H1 : (num_Power.j0 k a1 true a0_0 a0_1) = some (r1, r2, r3) := by rw [if_neg (show ¬ (false = true) by decide)] at H; exact H
      clear H
      have H := H1
      clear H1
      have H' := Fa.mk H
      clear H
      have hnb15 := NB649_650.out
      have hnc15 := NB650_649.out
      have hcz16_0 : w5.cell? ⟨gb649, 0, none⟩ = some (.int .i64 a0_0) := (blk_cell BK649.out 0).trans rfl
      have hcz16_1 : w5.cell? ⟨gb649, 1, none⟩ = some (.int .i64 a0_1) := (blk_cell BK649.out 1).trans rfl
      have hfz16_0 := blk_frozen BK649.out 0
      have hfz16_1 := blk_frozen BK649.out 1
      go_wp2_with (first | ((with_reducible refine gate_callee (f := 15) rfl ?_); refine goesA (some 9) rfl rfl Tryd.func15 (by kernel_rfl) rfl #[.agg #[.int .i64 a0_0, .int .i64 a0_1]] rfl ?_; (with_reducible refine (num_Valid.calls k a0_0 a0_1 false _ A6.out).mono ?_); rintro e w17 ⟨rfl, hb⟩; refine ⟨_, rfl, ?_⟩; have n0_ := Fa.mk (blk_below (g := gb649) (o := .cells #[.int .i64 a0_0, .int .i64 a0_1] 23 (0, 0)) fa hb); have n1_ := Fa.mk (blk_below (g := gb650) (o := .cells #[.int .i64 0, .int .i64 0] 23 (0, 0)) fa hb); have n2_ := Fa.mk (bst w hb); clear BK649; clear BK650; clear HB; have BK649 := n0_; have BK650 := n1_; have HB := n2_; clear n0_ n1_ n2_; (try clear hb); (try clear hb2); (try clear hk); (try clear hi)))
      go_meet
      case rel => exact ⟨_, (true), (by first | rfl | (simp; done) | (simp [*]; done)), H', ⟨by first | omega | exact Nat.le_refl _⟩, ⟨by (with_reducible repeat (first | refine blk_drewN ?_ _ | refine blk_drew ?_ | refine blk_alloc ?_ _)); exact BK649.out⟩, ⟨by (with_reducible repeat (first | refine blk_drewN ?_ _ | refine blk_drew ?_ | refine blk_alloc ?_ _)); exact BK650.out⟩, ⟨fa⟩⟩
  case rest =>
    clear HC3
    try clear c1
    try clear p2
    try clear c4
    try clear c7
    try clear c8
    try clear c8b0
    try clear c9
    try clear c12
    try clear c15
    try clear hcz10_0
    try clear hcz10_1
    try clear hcz13_0
    try clear hcz13_1
    try clear hcz16_0
    try clear hcz16_1
    try clear hfz10_0
    try clear hfz10_1
    try clear hfz13_0
    try clear hfz13_1
    try clear hfz16_0
    try clear hfz16_1
    obtain ⟨kq, x18_2, rfl, HA, HJ2, BK649, BK650, HB⟩ := hcut
    cases kq with
    | zero => exact absurd HA.out (by simp [num_Power.j0])
    | succ kj2 =>
      have H := HA.out
      clear HA
      simp only [num_Power.j0] at H
      by_cases c18 : x18_2 = true
      · subst c18
        have H1 : (some (0, 0, 2)) = some (r1, r2, r3) := by rw [if_pos rfl] at H; exact H
        clear H
        have H := H1
        clear H1
        simp only [Option.some.injEq, Prod.mk.injEq] at H
        obtain ⟨rfl, rfl, rfl⟩ := H
        have hnb19 := NB650_649.out
        have hnc19 := NB649_650.out
        have hcz20_0 : wc.cell? ⟨gb650, 0, none⟩ = some (.int .i64 0) := (blk_cell BK650.out 0).trans rfl
        have hcz20_1 : wc.cell? ⟨gb650, 1, none⟩ = some (.int .i64 0) := (blk_cell BK650.out 1).trans rfl
        have hfz20_0 := blk_frozen BK650.out 0
        have hfz20_1 := blk_frozen BK650.out 1
        go_wp2
        refine bodyPost_ret (results_ct rfl _ _ gb650 23 #[.int .i64 0, .int .i64 0] (0, 0) _ rfl (by (with_reducible repeat (first | refine blk_drewN ?_ _ | refine blk_drew ?_ | refine blk_alloc ?_ _)); refine blk_put (cs := #[.int .i64 0, .int .i64 0]) ?_ 1 _ rfl; (with_reducible repeat (first | refine blk_drewN ?_ _ | refine blk_drew ?_ | refine blk_alloc ?_ _)); refine blk_put (cs := #[.int .i64 0, .int .i64 0]) ?_ 0 _ rfl; (with_reducible repeat (first | refine blk_drewN ?_ _ | refine blk_drew ?_ | refine blk_alloc ?_ _)); exact BK650.out) Tryd.underlying23 rfl (by kernel_rfl)) rfl ?_
        exact ⟨by first | rfl | (simp [errW_none, errW_some] <;> rfl) | (simp [*, errW_none, errW_some] <;> rfl), fa⟩
      · replace c18 := Bool.eq_false_iff.mpr c18
        subst c18
        have H1 : (if a1 < 0 then (if a0_0 = 0 then (some (0, 0, 18)) else ((rational_Exact.f kj2 a0_1 a0_0).bind fun bt652 => (num_Power.j1 kj2 (wrap64 (-a1)) bt652.1 bt652.2.1))) else (num_Power.j1 kj2 a1 a0_0 a0_1)) = some (r1, r2, r3) := by rw [if_neg (show ¬ (false = true) by decide)] at H; exact H
        clear H
        have H := H1
        clear H1
        have HC21 := Fa.mk H
        clear H
        go_upto_if 21 with (fail)
        go_cut [1] (fun v1 wc => ∃ (kq : Nat) (x1_20 : Int) (x650000_20 : Int) (x650001_20 : Int) (x651000_20 : Int) (x651001_20 : Int), v1 = .int .i64 x1_20 ∧ Fa (num_Power.j1 kq x1_20 x650000_20 x650001_20 = some (r1, r2, r3)) ∧ Fa (kq ≤ kj2) ∧ Fa (wc.heap[gb649]? = some (.cells #[.int .i64 x650000_20, .int .i64 x650001_20] 23 (0, 0))) ∧ Fa (wc.heap[gb650]? = some (.cells #[.int .i64 x651000_20, .int .i64 x651001_20] 23 (0, 0))) ∧ Fa (Below w.heap.size w wc))
        case first =>
          have H := HC21.out
          clear HC21
          by_cases c22 : a1 < 0
          · rw [if_pos c22] at H
            have c22b0 : decide (a1 < 0) = true := decide_eq_true c22
            clear c22
            (first | rw [c22b0] | (simp only [i64_w, i32_w]; rw [c22b0]) | skip)
            by_cases c23 : a0_0 = 0
            · rw [if_pos c23] at H
              have c23b0 : (a0_0 == 0) = true := beq_iff_eq.mpr c23
              have c23b1 : (a0_0 != 0) = false := bne_eq_false_iff_eq.mpr c23
              clear c23
              simp only [Option.some.injEq, Prod.mk.injEq] at H
              obtain ⟨rfl, rfl, rfl⟩ := H
              have hnb24 := NB649_650.out
              have hnc24 := NB650_649.out
              have hcz25_0 : wc.cell? ⟨gb649, 0, none⟩ = some (.int .i64 a0_0) := (blk_cell BK649.out 0).trans rfl
              have hcz25_1 : wc.cell? ⟨gb649, 1, none⟩ = some (.int .i64 a0_1) := (blk_cell BK649.out 1).trans rfl
              have hfz25_0 := blk_frozen BK649.out 0
              have hfz25_1 := blk_frozen BK649.out 1
              have hcz26_0 : wc.cell? ⟨gb650, 0, none⟩ = some (.int .i64 0) := (blk_cell BK650.out 0).trans rfl
              have hcz26_1 : wc.cell? ⟨gb650, 1, none⟩ = some (.int .i64 0) := (blk_cell BK650.out 1).trans rfl
              have hfz26_0 := blk_frozen BK650.out 0
              have hfz26_1 := blk_frozen BK650.out 1
              go_wp2
              refine bodyPost_ret (results_ct rfl _ _ gb650 23 #[.int .i64 0, .int .i64 0] (0, 0) _ rfl (by (with_reducible repeat (first | refine blk_drewN ?_ _ | refine blk_drew ?_ | refine blk_alloc ?_ _)); refine blk_put (cs := #[.int .i64 0, .int .i64 0]) ?_ 1 _ rfl; (with_reducible repeat (first | refine blk_drewN ?_ _ | refine blk_drew ?_ | refine blk_alloc ?_ _)); refine blk_put (cs := #[.int .i64 0, .int .i64 0]) ?_ 0 _ rfl; (with_reducible repeat (first | refine blk_drewN ?_ _ | refine blk_drew ?_ | refine blk_alloc ?_ _)); exact BK650.out) Tryd.underlying23 rfl (by kernel_rfl)) rfl ?_
              exact ⟨by first | rfl | (simp [errW_none, errW_some] <;> rfl) | (simp [*, errW_none, errW_some] <;> rfl), fa⟩
            · rw [if_neg c23] at H
              have c23b0 : (a0_0 == 0) = false := beq_eq_false_iff_ne.mpr c23
              have c23b1 : (a0_0 != 0) = true := bne_iff_ne.mpr c23
              replace H := Option.bind_eq_some_iff.mp H
              obtain ⟨⟨t652, t653, t654⟩, A270, H⟩ := H
              replace H : (num_Power.j1 kj2 (wrap64 (-a1)) t652 t653) = some (r1, r2, r3) := H
              have A27 := Fa.mk A270
              clear A270
              have H' := Fa.mk H
              clear H
              have hnb28 := NB649_650.out
              have hnc28 := NB650_649.out
              have hcz29_0 : wc.cell? ⟨gb649, 0, none⟩ = some (.int .i64 a0_0) := (blk_cell BK649.out 0).trans rfl
              have hcz29_1 : wc.cell? ⟨gb649, 1, none⟩ = some (.int .i64 a0_1) := (blk_cell BK649.out 1).trans rfl
              have hfz29_0 := blk_frozen BK649.out 0
              have hfz29_1 := blk_frozen BK649.out 1
              go_wp2_with (first | ((with_reducible refine gate_callee (f := 48) rfl ?_); refine goesA (some 31) rfl rfl Tryd.func48 (by kernel_rfl) rfl #[.int .i64 a0_1, .int .i64 a0_0] rfl ?_; (with_reducible refine (rational_Exact.calls kj2 a0_1 a0_0 t652 t653 t654 _ A27.out).mono ?_); rintro e w30 ⟨rfl, hb⟩; refine ⟨_, rfl, ?_⟩; have n0_ := Fa.mk (blk_below (g := gb649) (o := .cells #[.int .i64 a0_0, .int .i64 a0_1] 23 (0, 0)) fa hb); have n1_ := Fa.mk (blk_below (g := gb650) (o := .cells #[.int .i64 0, .int .i64 0] 23 (0, 0)) fa hb); have n2_ := Fa.mk (bst w hb); clear BK649; clear BK650; clear HB; have BK649 := n0_; have BK650 := n1_; have HB := n2_; clear n0_ n1_ n2_; (try clear hb); (try clear hb2); (try clear hk); (try clear hi); have hcz31_0 : w30.cell? ⟨gb649, 0, none⟩ = some (.int .i64 a0_0) := (blk_cell BK649.out 0).trans rfl; have hcz31_1 : w30.cell? ⟨gb649, 1, none⟩ = some (.int .i64 a0_1) := (blk_cell BK649.out 1).trans rfl; have hfz31_0 := blk_frozen BK649.out 0; have hfz31_1 := blk_frozen BK649.out 1))
              go_meet
              case rel => exact ⟨_, (wrap64 (-a1)), (t652), (t653), (0), (0), (by first | rfl | (simp; done) | (simp [*]; done)), H', ⟨by have := HJ2.out; first | omega | exact Nat.le_refl _⟩, ⟨by (with_reducible repeat (first | refine blk_drewN ?_ _ | refine blk_drew ?_ | refine blk_alloc ?_ _)); refine blk_put (cs := #[.int .i64 t652, .int .i64 a0_1]) ?_ 1 _ rfl; (with_reducible repeat (first | refine blk_drewN ?_ _ | refine blk_drew ?_ | refine blk_alloc ?_ _)); refine blk_put (cs := #[.int .i64 a0_0, .int .i64 a0_1]) ?_ 0 _ rfl; (with_reducible repeat (first | refine blk_drewN ?_ _ | refine blk_drew ?_ | refine blk_alloc ?_ _)); exact BK649.out⟩, ⟨by (with_reducible repeat (first | refine blk_drewN ?_ _ | refine blk_drew ?_ | refine blk_alloc ?_ _)); refine blk_far ?_ NB650_649.out _; (with_reducible repeat (first | refine blk_drewN ?_ _ | refine blk_drew ?_ | refine blk_alloc ?_ _)); refine blk_far ?_ NB650_649.out _; (with_reducible repeat (first | refine blk_drewN ?_ _ | refine blk_drew ?_ | refine blk_alloc ?_ _)); exact BK650.out⟩, ⟨fa⟩⟩
          · rw [if_neg c22] at H
            have c22b0 : decide (a1 < 0) = false := decide_eq_false c22
            clear c22
            (first | rw [c22b0] | (simp only [i64_w, i32_w]; rw [c22b0]) | skip)
            have H' := Fa.mk H
            clear H
            go_wp2
            go_meet
            case rel => exact ⟨_, (a1), (a0_0), (a0_1), (0), (0), (by first | rfl | (simp; done) | (simp [*]; done)), H', ⟨by have := HJ2.out; first | omega | exact Nat.le_refl _⟩, ⟨by (with_reducible repeat (first | refine blk_drewN ?_ _ | refine blk_drew ?_ | refine blk_alloc ?_ _)); exact BK649.out⟩, ⟨by (with_reducible repeat (first | refine blk_drewN ?_ _ | refine blk_drew ?_ | refine blk_alloc ?_ _)); exact BK650.out⟩, ⟨fa⟩⟩
        case rest =>
          clear HC21
          try clear c1
          try clear c2
          try clear p2
          try clear c4
          try clear p6
          try clear c7
          try clear c8
          try clear c8b0
          try clear c9
          try clear c12
          try clear c15
          try clear c18
          try clear c19
          try clear c22
          try clear c22b0
          try clear c23
          try clear c23b0
          try clear c23b1
          try clear c24
          try clear c28
          try clear hcz10_0
          try clear hcz10_1
          try clear hcz13_0
          try clear hcz13_1
          try clear hcz16_0
          try clear hcz16_1
          try clear hcz20_0
          try clear hcz20_1
          try clear hcz25_0
          try clear hcz25_1
          try clear hcz26_0
          try clear hcz26_1
          try clear hcz29_0
          try clear hcz29_1
          try clear hcz31_0
          try clear hcz31_1
          try clear hfz10_0
          try clear hfz10_1
          try clear hfz13_0
          try clear hfz13_1
          try clear hfz16_0
          try clear hfz16_1
          try clear hfz20_0
          try clear hfz20_1
          try clear hfz25_0
          try clear hfz25_1
          try clear hfz26_0
          try clear hfz26_1
          try clear hfz29_0
          try clear hfz29_1
          try clear hfz31_0
          try clear hfz31_1
          try clear p2
          obtain ⟨kq, x1_20, x650000_20, x650001_20, x651000_20, x651001_20, rfl, HA, HJ20, BK649, BK650, HB⟩ := hcut
          cases kq with
          | zero => exact absurd HA.out (by simp [num_Power.j1])
          | succ kj20 =>
            have H := HA.out
            clear HA
            simp only [num_Power.j1] at H
            have H' := Fa.mk H
            clear H
            go_wp2_with (first | ((with_reducible refine gate_dst (N := 6) rfl ?_); refine boxF (N := 6) (cs := #[.int .i64 0, .int .i64 0]) (t := 23) ?_; intro gb655 hg w32 hbox hb; have n0_ := Fa.mk (blk_below (g := gb649) (o := .cells #[.int .i64 x650000_20, .int .i64 x650001_20] 23 (0, 0)) fa hb); have n1_ := Fa.mk (blk_below (g := gb650) (o := .cells #[.int .i64 x651000_20, .int .i64 x651001_20] 23 (0, 0)) fa hb); have n2_ := Fa.mk (bst w hb); have n3_ := Fa.mk (hbox); have n4_ := Fa.mk (gle hg : w.heap.size ≤ gb655); have n5_ := n4_; have n6_ := Fa.mk (gne (o := .cells #[.int .i64 x650000_20, .int .i64 x650001_20] 23 (0, 0)) hg : gb649 ≠ gb655); have n7_ := Fa.mk n6_.out.symm; have n8_ := Fa.mk (gne (o := .cells #[.int .i64 x651000_20, .int .i64 x651001_20] 23 (0, 0)) hg : gb650 ≠ gb655); have n9_ := Fa.mk n8_.out.symm; clear BK649; clear BK650; clear HB; have BK649 := n0_; have BK650 := n1_; have HB := n2_; have BK655 := n3_; have GW655 := n4_; have GE655 := n5_; have NB649_655 := n6_; have NB655_649 := n7_; have NB650_655 := n8_; have NB655_650 := n9_; clear n0_ n1_ n2_ n3_ n4_ n5_ n6_ n7_ n8_ n9_; clear hb hbox hg; have hnb33 := NB655_649.out; have hnc33 := NB649_655.out; have hnb34 := NB655_650.out; have hnc34 := NB650_655.out; have hcz35_0 : w32.cell? ⟨gb655, 0, none⟩ = some (.int .i64 0) := (blk_cell BK655.out 0).trans rfl; have hcz35_1 : w32.cell? ⟨gb655, 1, none⟩ = some (.int .i64 0) := (blk_cell BK655.out 1).trans rfl; have hfz35_0 := blk_frozen BK655.out 0; have hfz35_1 := blk_frozen BK655.out 1))
            go_loopg [38] kj20 (fun kq v38 w' => ∃ (x38_3 : Int) (x651000_3 : Int) (x651001_3 : Int) (x656000_3 : Int) (x656001_3 : Int), v38 = .int .i64 x38_3 ∧ Fa (num_Power.l0 kq x1_20 x38_3 x650000_20 x650001_20 x656000_3 x656001_3 = some (r1, r2, r3)) ∧ Fa (kq ≤ kj20) ∧ Fa (w'.heap[gb649]? = some (.cells #[.int .i64 x650000_20, .int .i64 x650001_20] 23 (0, 0))) ∧ Fa (w'.heap[gb650]? = some (.cells #[.int .i64 x651000_3, .int .i64 x651001_3] 23 (0, 0))) ∧ Fa (w'.heap[gb655]? = some (.cells #[.int .i64 x656000_3, .int .i64 x656001_3] 23 (0, 0))) ∧ Fa (Below w.heap.size w w'))
            case atStart => exact ⟨(0), (x651000_20), (x651001_20), (1), (1), (by first | rfl | (simp; done) | (simp [*]; done)), H', ⟨Nat.le_refl _⟩, ⟨by (with_reducible repeat (first | refine blk_drewN ?_ _ | refine blk_drew ?_ | refine blk_alloc ?_ _)); refine blk_far ?_ NB649_655.out _; (with_reducible repeat (first | refine blk_drewN ?_ _ | refine blk_drew ?_ | refine blk_alloc ?_ _)); refine blk_far ?_ NB649_655.out _; (with_reducible repeat (first | refine blk_drewN ?_ _ | refine blk_drew ?_ | refine blk_alloc ?_ _)); exact BK649.out⟩, ⟨by (with_reducible repeat (first | refine blk_drewN ?_ _ | refine blk_drew ?_ | refine blk_alloc ?_ _)); refine blk_far ?_ NB650_655.out _; (with_reducible repeat (first | refine blk_drewN ?_ _ | refine blk_drew ?_ | refine blk_alloc ?_ _)); refine blk_far ?_ NB650_655.out _; (with_reducible repeat (first | refine blk_drewN ?_ _ | refine blk_drew ?_ | refine blk_alloc ?_ _)); exact BK650.out⟩, ⟨by (with_reducible repeat (first | refine blk_drewN ?_ _ | refine blk_drew ?_ | refine blk_alloc ?_ _)); refine blk_put (cs := #[.int .i64 1, .int .i64 0]) ?_ 1 _ rfl; (with_reducible repeat (first | refine blk_drewN ?_ _ | refine blk_drew ?_ | refine blk_alloc ?_ _)); refine blk_put (cs := #[.int .i64 0, .int .i64 0]) ?_ 0 _ rfl; (with_reducible repeat (first | refine blk_drewN ?_ _ | refine blk_drew ?_ | refine blk_alloc ?_ _)); exact BK655.out⟩, ⟨fa⟩⟩
            case round =>
              clear H'
              try clear c1
              try clear c2
              try clear p2
              try clear c3
              try clear c4
              try clear p6
              try clear c7
              try clear c8
              try clear c8b0
              try clear c9
              try clear c12
              try clear c15
              try clear c18
              try clear c19
              try clear c22
              try clear c22b0
              try clear c23
              try clear c23b0
              try clear c23b1
              try clear c24
              try clear c28
              try clear c33
              try clear c34
              try clear hcz10_0
              try clear hcz10_1
              try clear hcz13_0
              try clear hcz13_1
              try clear hcz16_0
              try clear hcz16_1
              try clear hcz20_0
              try clear hcz20_1
              try clear hcz25_0
              try clear hcz25_1
              try clear hcz26_0
              try clear hcz26_1
              try clear hcz29_0
              try clear hcz29_1
              try clear hcz31_0
              try clear hcz31_1
              try clear hcz35_0
              try clear hcz35_1
              try clear hfz10_0
              try clear hfz10_1
              try clear hfz13_0
              try clear hfz13_1
              try clear hfz16_0
              try clear hfz16_1
              try clear hfz20_0
              try clear hfz20_1
              try clear hfz25_0
              try clear hfz25_1
              try clear hfz26_0
              try clear hfz26_1
              try clear hfz29_0
              try clear hfz29_1
              try clear hfz31_0
              try clear hfz31_1
              try clear hfz35_0
              try clear hfz35_1
              try clear p2
              try clear p6
              obtain ⟨x38_3, x651000_3, x651001_3, x656000_3, x656001_3, rfl, HA, HK3, BK649, BK650, BK655, HB⟩ := hrel
              cases gk with
              | zero => exact absurd HA.out (by simp [num_Power.l0])
              | succ k3 =>
                have H := HA.out
                clear HA
                simp only [num_Power.l0] at H
                by_cases c36 : x38_3 < x1_20
                · rw [if_pos c36] at H
                  have c36b0 : decide (x38_3 < x1_20) = true := decide_eq_true c36
                  clear c36
                  replace H := Option.bind_eq_some_iff.mp H
                  obtain ⟨⟨t656, t657, t658⟩, A370, H⟩ := H
                  replace H : (if t658 = 0 then (num_Power.l0 k3 x1_20 (wrap64 (x38_3 + 1)) x650000_20 x650001_20 t656 t657) else (some (0, 0, t658))) = some (r1, r2, r3) := H
                  have A37 := Fa.mk A370
                  clear A370
                  by_cases c38 : t658 = 0
                  · rw [if_pos c38] at H
                    have c38b0 : (t658 == 0) = true := beq_iff_eq.mpr c38
                    have c38b1 : (t658 != 0) = false := bne_eq_false_iff_eq.mpr c38
                    clear c38
                    have H' := Fa.mk H
                    clear H
                    have hnb39 := NB655_649.out
                    have hnc39 := NB649_655.out
                    have hnb40 := NB655_650.out
                    have hnc40 := NB650_655.out
                    have hcz41_0 : wr.cell? ⟨gb655, 0, none⟩ = some (.int .i64 x656000_3) := (blk_cell BK655.out 0).trans rfl
                    have hcz41_1 : wr.cell? ⟨gb655, 1, none⟩ = some (.int .i64 x656001_3) := (blk_cell BK655.out 1).trans rfl
                    have hfz41_0 := blk_frozen BK655.out 0
                    have hfz41_1 := blk_frozen BK655.out 1
                    have hnb42 := NB649_650.out
                    have hnc42 := NB650_649.out
                    have hcz43_0 : wr.cell? ⟨gb649, 0, none⟩ = some (.int .i64 x650000_20) := (blk_cell BK649.out 0).trans rfl
                    have hcz43_1 : wr.cell? ⟨gb649, 1, none⟩ = some (.int .i64 x650001_20) := (blk_cell BK649.out 1).trans rfl
                    have hfz43_0 := blk_frozen BK649.out 0
                    have hfz43_1 := blk_frozen BK649.out 1
                    go_wp2_with (first | ((with_reducible refine gate_callee (f := 26) rfl ?_); refine goesA (some 43) rfl rfl Tryd.func26 (by kernel_rfl) rfl #[.agg #[.int .i64 x656000_3, .int .i64 x656001_3], .agg #[.int .i64 x650000_20, .int .i64 x650001_20]] rfl ?_; (with_reducible refine (num_Mul.calls k3 x656000_3 x656001_3 x650000_20 x650001_20 t656 t657 t658 _ A37.out).mono ?_); rintro e w44 ⟨rfl, hb⟩; refine ⟨_, rfl, ?_⟩; have n0_ := Fa.mk (blk_below (g := gb649) (o := .cells #[.int .i64 x650000_20, .int .i64 x650001_20] 23 (0, 0)) fa hb); have n1_ := Fa.mk (blk_below (g := gb650) (o := .cells #[.int .i64 x651000_3, .int .i64 x651001_3] 23 (0, 0)) fa hb); have n2_ := Fa.mk (blk_below (g := gb655) (o := .cells #[.int .i64 x656000_3, .int .i64 x656001_3] 23 (0, 0)) fa hb); have n3_ := Fa.mk (bst w hb); clear BK649; clear BK650; clear BK655; clear HB; have BK649 := n0_; have BK650 := n1_; have BK655 := n2_; have HB := n3_; clear n0_ n1_ n2_ n3_; (try clear hb); (try clear hb2); (try clear hk); (try clear hi); have hcz45_0 : w44.cell? ⟨gb655, 0, none⟩ = some (.int .i64 x656000_3) := (blk_cell BK655.out 0).trans rfl; have hcz45_1 : w44.cell? ⟨gb655, 1, none⟩ = some (.int .i64 x656001_3) := (blk_cell BK655.out 1).trans rfl; have hfz45_0 := blk_frozen BK655.out 0; have hfz45_1 := blk_frozen BK655.out 1))
                    go_roundg k3
                    case measure => have := HJ2.out; have := HJ20.out; have := HK3.out; omega
                    case rel => exact ⟨(wrap64 (x38_3 + 1)), (x651000_3), (x651001_3), (t656), (t657), (by first | rfl | (simp; done) | (simp [*]; done)), H', ⟨by have := HJ2.out; have := HJ20.out; have := HK3.out; omega⟩, ⟨by (with_reducible repeat (first | refine blk_drewN ?_ _ | refine blk_drew ?_ | refine blk_alloc ?_ _)); refine blk_far ?_ NB649_655.out _; (with_reducible repeat (first | refine blk_drewN ?_ _ | refine blk_drew ?_ | refine blk_alloc ?_ _)); refine blk_far ?_ NB649_655.out _; (with_reducible repeat (first | refine blk_drewN ?_ _ | refine blk_drew ?_ | refine blk_alloc ?_ _)); exact BK649.out⟩, ⟨by (with_reducible repeat (first | refine blk_drewN ?_ _ | refine blk_drew ?_ | refine blk_alloc ?_ _)); refine blk_far ?_ NB650_655.out _; (with_reducible repeat (first | refine blk_drewN ?_ _ | refine blk_drew ?_ | refine blk_alloc ?_ _)); refine blk_far ?_ NB650_655.out _; (with_reducible repeat (first | refine blk_drewN ?_ _ | refine blk_drew ?_ | refine blk_alloc ?_ _)); exact BK650.out⟩, ⟨by (with_reducible repeat (first | refine blk_drewN ?_ _ | refine blk_drew ?_ | refine blk_alloc ?_ _)); refine blk_put (cs := #[.int .i64 t656, .int .i64 x656001_3]) ?_ 1 _ rfl; (with_reducible repeat (first | refine blk_drewN ?_ _ | refine blk_drew ?_ | refine blk_alloc ?_ _)); refine blk_put (cs := #[.int .i64 x656000_3, .int .i64 x656001_3]) ?_ 0 _ rfl; (with_reducible repeat (first | refine blk_drewN ?_ _ | refine blk_drew ?_ | refine blk_alloc ?_ _)); exact BK655.out⟩, ⟨fa⟩⟩
                  · rw [if_neg c38] at H
                    have c38b0 : (t658 == 0) = false := beq_eq_false_iff_ne.mpr c38
                    have c38b1 : (t658 != 0) = true := bne_iff_ne.mpr c38
                    simp only [Option.some.injEq, Prod.mk.injEq] at H
                    obtain ⟨rfl, rfl, rfl⟩ := H
                    have hnb46 := NB655_649.out
                    have hnc46 := NB649_655.out
                    have hnb47 := NB655_650.out
                    have hnc47 := NB650_655.out
                    have hcz48_0 : wr.cell? ⟨gb655, 0, none⟩ = some (.int .i64 x656000_3) := (blk_cell BK655.out 0).trans rfl
                    have hcz48_1 : wr.cell? ⟨gb655, 1, none⟩ = some (.int .i64 x656001_3) := (blk_cell BK655.out 1).trans rfl
                    have hfz48_0 := blk_frozen BK655.out 0
                    have hfz48_1 := blk_frozen BK655.out 1
                    have hnb49 := NB649_650.out
                    have hnc49 := NB650_649.out
                    have hcz50_0 : wr.cell? ⟨gb649, 0, none⟩ = some (.int .i64 x650000_20) := (blk_cell BK649.out 0).trans rfl
                    have hcz50_1 : wr.cell? ⟨gb649, 1, none⟩ = some (.int .i64 x650001_20) := (blk_cell BK649.out 1).trans rfl
                    have hfz50_0 := blk_frozen BK649.out 0
                    have hfz50_1 := blk_frozen BK649.out 1
                    go_wp2_with (first | ((with_reducible refine gate_callee (f := 26) rfl ?_); refine goesA (some 43) rfl rfl Tryd.func26 (by kernel_rfl) rfl #[.agg #[.int .i64 x656000_3, .int .i64 x656001_3], .agg #[.int .i64 x650000_20, .int .i64 x650001_20]] rfl ?_; (with_reducible refine (num_Mul.calls k3 x656000_3 x656001_3 x650000_20 x650001_20 t656 t657 t658 _ A37.out).mono ?_); rintro e w51 ⟨rfl, hb⟩; refine ⟨_, rfl, ?_⟩; have n0_ := Fa.mk (blk_below (g := gb649) (o := .cells #[.int .i64 x650000_20, .int .i64 x650001_20] 23 (0, 0)) fa hb); have n1_ := Fa.mk (blk_below (g := gb650) (o := .cells #[.int .i64 x651000_3, .int .i64 x651001_3] 23 (0, 0)) fa hb); have n2_ := Fa.mk (blk_below (g := gb655) (o := .cells #[.int .i64 x656000_3, .int .i64 x656001_3] 23 (0, 0)) fa hb); have n3_ := Fa.mk (bst w hb); clear BK649; clear BK650; clear BK655; clear HB; have BK649 := n0_; have BK650 := n1_; have BK655 := n2_; have HB := n3_; clear n0_ n1_ n2_ n3_; (try clear hb); (try clear hb2); (try clear hk); (try clear hi); have hcz52_0 : w51.cell? ⟨gb655, 0, none⟩ = some (.int .i64 x656000_3) := (blk_cell BK655.out 0).trans rfl; have hcz52_1 : w51.cell? ⟨gb655, 1, none⟩ = some (.int .i64 x656001_3) := (blk_cell BK655.out 1).trans rfl; have hfz52_0 := blk_frozen BK655.out 0; have hfz52_1 := blk_frozen BK655.out 1; have hcz53_0 : w51.cell? ⟨gb650, 0, none⟩ = some (.int .i64 x651000_3) := (blk_cell BK650.out 0).trans rfl; have hcz53_1 : w51.cell? ⟨gb650, 1, none⟩ = some (.int .i64 x651001_3) := (blk_cell BK650.out 1).trans rfl; have hfz53_0 := blk_frozen BK650.out 0; have hfz53_1 := blk_frozen BK650.out 1))
                    refine bodyPost_ret (results_ct rfl _ _ gb650 23 #[.int .i64 0, .int .i64 0] (0, 0) _ rfl (by (with_reducible repeat (first | refine blk_drewN ?_ _ | refine blk_drew ?_ | refine blk_alloc ?_ _)); refine blk_put (cs := #[.int .i64 0, .int .i64 x651001_3]) ?_ 1 _ rfl; (with_reducible repeat (first | refine blk_drewN ?_ _ | refine blk_drew ?_ | refine blk_alloc ?_ _)); refine blk_put (cs := #[.int .i64 x651000_3, .int .i64 x651001_3]) ?_ 0 _ rfl; (with_reducible repeat (first | refine blk_drewN ?_ _ | refine blk_drew ?_ | refine blk_alloc ?_ _)); refine blk_far ?_ NB650_655.out _; (with_reducible repeat (first | refine blk_drewN ?_ _ | refine blk_drew ?_ | refine blk_alloc ?_ _)); refine blk_far ?_ NB650_655.out _; (with_reducible repeat (first | refine blk_drewN ?_ _ | refine blk_drew ?_ | refine blk_alloc ?_ _)); exact BK650.out) Tryd.underlying23 rfl (by kernel_rfl)) rfl ?_
                    exact ⟨by first | rfl | (simp [errW_none, errW_some] <;> rfl) | (simp [*, errW_none, errW_some] <;> rfl), fa⟩
                · rw [if_neg c36] at H
                  have c36b0 : decide (x38_3 < x1_20) = false := decide_eq_false c36
                  clear c36
                  simp only [Option.some.injEq, Prod.mk.injEq] at H
                  obtain ⟨rfl, rfl, rfl⟩ := H
                  have hnb54 := NB655_649.out
                  have hnc54 := NB649_655.out
                  have hnb55 := NB655_650.out
                  have hnc55 := NB650_655.out
                  have hcz56_0 : wr.cell? ⟨gb655, 0, none⟩ = some (.int .i64 x656000_3) := (blk_cell BK655.out 0).trans rfl
                  have hcz56_1 : wr.cell? ⟨gb655, 1, none⟩ = some (.int .i64 x656001_3) := (blk_cell BK655.out 1).trans rfl
                  have hfz56_0 := blk_frozen BK655.out 0
                  have hfz56_1 := blk_frozen BK655.out 1
                  have hnb57 := NB650_649.out
                  have hnc57 := NB649_650.out
                  have hcz58_0 : wr.cell? ⟨gb650, 0, none⟩ = some (.int .i64 x651000_3) := (blk_cell BK650.out 0).trans rfl
                  have hcz58_1 : wr.cell? ⟨gb650, 1, none⟩ = some (.int .i64 x651001_3) := (blk_cell BK650.out 1).trans rfl
                  have hfz58_0 := blk_frozen BK650.out 0
                  have hfz58_1 := blk_frozen BK650.out 1
                  go_wp2
                  refine bodyPost_ret (results_ct rfl _ _ gb650 23 #[.int .i64 x656000_3, .int .i64 x656001_3] (0, 0) _ rfl (by (with_reducible repeat (first | refine blk_drewN ?_ _ | refine blk_drew ?_ | refine blk_alloc ?_ _)); refine blk_put (cs := #[.int .i64 x656000_3, .int .i64 x651001_3]) ?_ 1 _ rfl; (with_reducible repeat (first | refine blk_drewN ?_ _ | refine blk_drew ?_ | refine blk_alloc ?_ _)); refine blk_put (cs := #[.int .i64 x651000_3, .int .i64 x651001_3]) ?_ 0 _ rfl; (with_reducible repeat (first | refine blk_drewN ?_ _ | refine blk_drew ?_ | refine blk_alloc ?_ _)); exact BK650.out) Tryd.underlying23 rfl (by kernel_rfl)) rfl ?_
                  exact ⟨by first | rfl | (simp [errW_none, errW_some] <;> rfl) | (simp [*, errW_none, errW_some] <;> rfl), fa⟩

end Go.Proofs.YtndbdnkpnjibkaaDoor.P
