-- PRINTED by print.py (a twelfth state) out of the translation. Not trusted: Lean checks it.
import Derived.Test.YtndbdnkpnjibkaaDoorPx0
import Derived.Test.YtndbdnkpnjibkaaDoorPxEq1
import Derived.Test.YtndbdnkpnjibkaaDoorPxrationalsize
import Derived.Test.YtndbdnkpnjibkaaDoorPxnumdo
import Derived.Test.YtndbdnkpnjibkaaDoorPxnumDecimal
import Derived.Test.YtndbdnkpnjibkaaDoorPxfleuronlaw01awake
import Derived.Test.YtndbdnkpnjibkaaDoorPxfleuronref01lowest
import Derived.Test.YtndbdnkpnjibkaaDoorPxfleuronref01both
import Derived.Test.YtndbdnkpnjibkaaDoorPxfleuronref01down
import Derived.Test.YtndbdnkpnjibkaaDoorPxfleuronref01fixed
import Derived.Test.YtndbdnkpnjibkaaDoorPxnumFromFixed
import Derived.Test.YtndbdnkpnjibkaaDoorPxnumCmp
namespace Go.Proofs.YtndbdnkpnjibkaaDoor.P
open Go.RowKit Go.Proofs.YtndbdnkpnjibkaaDoorW.PrintWords Go.Proofs.YtndbdnkpnjibkaaDoorW.PrintLast Go.Proofs.YtndbdnkpnjibkaaDoorW.PrintMore
attribute [local go_sem] max2_int min2_int max_two min_two max_three min_three max_four min_four   -- for this text's walks alone
set_option linter.unusedVariables false
set_option linter.unusedSimpArgs false

attribute [local go_sem high] eqA23
/-! ### fleuronref01_Floor: function 41 -/
def fleuronref01_Floor.f (k : Nat) (a0_0 : Int) (a0_1 : Int) : Option (Int × Int) := (fleuronref01_Valid.f k a0_0 a0_1).bind fun t598 => (if t598 = true then ((fleuronref01_down.f a0_0 a0_1).bind fun bt599 => (some (bt599.1, 0))) else (some (0, 2)))
theorem fleuronref01_Floor.mono : ∀ a0 a1 k, LeO (fleuronref01_Floor.f k a0 a1) (fleuronref01_Floor.f (k + 1) a0 a1) := by
  intro a0 a1 k
  unfold fleuronref01_Floor.f
  repeat' first
      | (with_reducible exact fleuronref01_Valid.mono _ _ _)
      | (with_reducible exact LeO.refl _)
      | (with_reducible exact LeO.none _)
      | (with_reducible refine LeO.ite ?_ ?_)
      | (with_reducible refine LeO.bind ?_ (fun _ => ?_))
      | exact fleuronref01_Valid.mono _ _ _
      | exact LeO.none _
      | refine LeO.ite ?_ ?_
      | refine LeO.bind ?_ (fun _ => ?_)
set_option maxHeartbeats 8000000 in
set_option maxRecDepth 100000 in
theorem fleuronref01_Floor.calls (k : Nat) (a0_0 : Int) (a0_1 : Int) (r1 : Int) (r2 : Int) (w : World) (h : fleuronref01_Floor.f k a0_0 a0_1 = some (r1, r2)) :
    Calls Tryd.prog 41 #[.agg #[.int .i64 a0_0, .int .i64 a0_1]] w fun e w' => e = .returned (.tuple #[.int .i64 r1, .int .i64 r2]) ∧ Below w.heap.size w w' := by
  have hu23 := Tryd.underlying23
  have HB := Fa.mk (Below.refl w.heap.size w)
  have H : ((fleuronref01_Valid.f k a0_0 a0_1).bind fun t598 => (if t598 = true then ((fleuronref01_down.f a0_0 a0_1).bind fun bt599 => (some (bt599.1, 0))) else (some (0, 2)))) = some (r1, r2) := h
  clear h
  replace H := Option.bind_eq_some_iff.mp H
  obtain ⟨t598, A20, H⟩ := H
  replace H : (if t598 = true then ((fleuronref01_down.f a0_0 a0_1).bind fun bt599 => (some (bt599.1, 0))) else (some (0, 2))) = some (r1, r2) := H
  have A2 := Fa.mk A20
  clear A20
  by_cases c3 : t598 = true
  · subst c3
    have H1 : ((fleuronref01_down.f a0_0 a0_1).bind fun bt599 => (some (bt599.1, 0))) = some (r1, r2) := by rw [if_pos rfl] at H; exact H
    clear H
    have H := H1
    clear H1
    replace H := Option.bind_eq_some_iff.mp H
    obtain ⟨⟨t599, t600⟩, A40, H⟩ := H
    replace H : (some (t599, 0)) = some (r1, r2) := H
    have A4 := Fa.mk A40
    clear A40
    simp only [Option.some.injEq, Prod.mk.injEq] at H
    obtain ⟨rfl, rfl⟩ := H
    go_enter Tryd.func41, Tryd.ntmps41
    go_wp2_with (first | ((with_reducible refine gate_dst (N := 1) rfl ?_); refine boxF (N := 1) (cs := #[.int .i64 a0_0, .int .i64 a0_1]) (t := 23) ?_; intro gb597 hg w5 hbox hb; have n0_ := Fa.mk (bst w hb); have n1_ := Fa.mk (hbox); have n2_ := Fa.mk (gle hg : w.heap.size ≤ gb597); have n3_ := n2_; clear HB; have HB := n0_; have BK597 := n1_; have GW597 := n2_; have GE597 := n3_; clear n0_ n1_ n2_ n3_; clear hb hbox hg; have hcz6_0 : w5.cell? ⟨gb597, 0, none⟩ = some (.int .i64 a0_0) := (blk_cell BK597.out 0).trans rfl; have hcz6_1 : w5.cell? ⟨gb597, 1, none⟩ = some (.int .i64 a0_1) := (blk_cell BK597.out 1).trans rfl; have hfz6_0 := blk_frozen BK597.out 0; have hfz6_1 := blk_frozen BK597.out 1) | ((with_reducible refine gate_callee (f := 16) rfl ?_); refine goesA (some 7) rfl rfl Tryd.func16 (by kernel_rfl) rfl #[.agg #[.int .i64 a0_0, .int .i64 a0_1]] rfl ?_; (with_reducible refine (fleuronref01_Valid.calls k a0_0 a0_1 true _ A2.out).mono ?_); rintro e w7 ⟨rfl, hb⟩; refine ⟨_, rfl, ?_⟩; have n0_ := Fa.mk (blk_below (g := gb597) (o := .cells #[.int .i64 a0_0, .int .i64 a0_1] 23 (0, 0)) fa hb); have n1_ := Fa.mk (bst w hb); clear BK597; clear HB; have BK597 := n0_; have HB := n1_; clear n0_ n1_; (try clear hb); (try clear hb2); (try clear hk); (try clear hi); have hcz8_0 : w7.cell? ⟨gb597, 0, none⟩ = some (.int .i64 a0_0) := (blk_cell BK597.out 0).trans rfl; have hcz8_1 : w7.cell? ⟨gb597, 1, none⟩ = some (.int .i64 a0_1) := (blk_cell BK597.out 1).trans rfl; have hfz8_0 := blk_frozen BK597.out 0; have hfz8_1 := blk_frozen BK597.out 1) | ((with_reducible refine gate_callee (f := 67) rfl ?_); refine goesA (some 14) rfl rfl Tryd.func67 (by kernel_rfl) rfl #[.int .i64 a0_0, .int .i64 a0_1] rfl ?_; (with_reducible refine (fleuronref01_down.calls a0_0 a0_1 t599 t600 _ A4.out).mono ?_); rintro e w' ⟨rfl, ⟨nd, rfl⟩⟩; refine ⟨_, rfl, ?_⟩))
    go_ret2
    exact ⟨by first | rfl | (simp [errW_none, errW_some] <;> rfl) | (simp [*, errW_none, errW_some] <;> rfl), fa⟩
  · replace c3 := Bool.eq_false_iff.mpr c3
    subst c3
    have H1 : (some (0, 2)) = some (r1, r2) := by rw [if_neg (show ¬ (false = true) by decide)] at H; exact H
    clear H
    have H := H1
    clear H1
    simp only [Option.some.injEq, Prod.mk.injEq] at H
    obtain ⟨rfl, rfl⟩ := H
    go_enter Tryd.func41, Tryd.ntmps41
    go_wp2_with (first | ((with_reducible refine gate_dst (N := 1) rfl ?_); refine boxF (N := 1) (cs := #[.int .i64 a0_0, .int .i64 a0_1]) (t := 23) ?_; intro gb597 hg w9 hbox hb; have n0_ := Fa.mk (bst w hb); have n1_ := Fa.mk (hbox); have n2_ := Fa.mk (gle hg : w.heap.size ≤ gb597); have n3_ := n2_; clear HB; have HB := n0_; have BK597 := n1_; have GW597 := n2_; have GE597 := n3_; clear n0_ n1_ n2_ n3_; clear hb hbox hg; have hcz10_0 : w9.cell? ⟨gb597, 0, none⟩ = some (.int .i64 a0_0) := (blk_cell BK597.out 0).trans rfl; have hcz10_1 : w9.cell? ⟨gb597, 1, none⟩ = some (.int .i64 a0_1) := (blk_cell BK597.out 1).trans rfl; have hfz10_0 := blk_frozen BK597.out 0; have hfz10_1 := blk_frozen BK597.out 1) | ((with_reducible refine gate_callee (f := 16) rfl ?_); refine goesA (some 7) rfl rfl Tryd.func16 (by kernel_rfl) rfl #[.agg #[.int .i64 a0_0, .int .i64 a0_1]] rfl ?_; (with_reducible refine (fleuronref01_Valid.calls k a0_0 a0_1 false _ A2.out).mono ?_); rintro e w11 ⟨rfl, hb⟩; refine ⟨_, rfl, ?_⟩; have n0_ := Fa.mk (blk_below (g := gb597) (o := .cells #[.int .i64 a0_0, .int .i64 a0_1] 23 (0, 0)) fa hb); have n1_ := Fa.mk (bst w hb); clear BK597; clear HB; have BK597 := n0_; have HB := n1_; clear n0_ n1_; (try clear hb); (try clear hb2); (try clear hk); (try clear hi)))
    go_ret2
    exact ⟨by first | rfl | (simp [errW_none, errW_some] <;> rfl) | (simp [*, errW_none, errW_some] <;> rfl), fa⟩

/-! ### fleuronref01_Cmp: function 42 -/
def fleuronref01_Cmp.f (k : Nat) (a0_0 : Int) (a0_1 : Int) (a1_0 : Int) (a1_1 : Int) : Option (Int × Int) := (fleuronref01_both.f k a0_0 a0_1 a1_0 a1_1).bind fun t603 => (if t603 = true then (if (wrap64 (a0_0 * a1_1)) < (wrap64 (a1_0 * a0_1)) then (some ((-1), 0)) else (if (wrap64 (a0_0 * a1_1)) > (wrap64 (a1_0 * a0_1)) then (some (1, 0)) else (some (0, 0)))) else (some (0, 2)))
theorem fleuronref01_Cmp.mono : ∀ a0 a1 a2 a3 k, LeO (fleuronref01_Cmp.f k a0 a1 a2 a3) (fleuronref01_Cmp.f (k + 1) a0 a1 a2 a3) := by
  intro a0 a1 a2 a3 k
  unfold fleuronref01_Cmp.f
  repeat' first
      | (with_reducible exact fleuronref01_both.mono _ _ _ _ _)
      | (with_reducible exact LeO.refl _)
      | (with_reducible exact LeO.none _)
      | (with_reducible refine LeO.ite ?_ ?_)
      | (with_reducible refine LeO.bind ?_ (fun _ => ?_))
      | exact fleuronref01_both.mono _ _ _ _ _
      | exact LeO.none _
      | refine LeO.ite ?_ ?_
      | refine LeO.bind ?_ (fun _ => ?_)
set_option maxHeartbeats 8000000 in
set_option maxRecDepth 100000 in
theorem fleuronref01_Cmp.calls (k : Nat) (a0_0 : Int) (a0_1 : Int) (a1_0 : Int) (a1_1 : Int) (r1 : Int) (r2 : Int) (w : World) (h : fleuronref01_Cmp.f k a0_0 a0_1 a1_0 a1_1 = some (r1, r2)) :
    Calls Tryd.prog 42 #[.agg #[.int .i64 a0_0, .int .i64 a0_1], .agg #[.int .i64 a1_0, .int .i64 a1_1]] w fun e w' => e = .returned (.tuple #[.int .i64 r1, .int .i64 r2]) ∧ Below w.heap.size w w' := by
  have hu23 := Tryd.underlying23
  have HB := Fa.mk (Below.refl w.heap.size w)
  have H : ((fleuronref01_both.f k a0_0 a0_1 a1_0 a1_1).bind fun t603 => (if t603 = true then (if (wrap64 (a0_0 * a1_1)) < (wrap64 (a1_0 * a0_1)) then (some ((-1), 0)) else (if (wrap64 (a0_0 * a1_1)) > (wrap64 (a1_0 * a0_1)) then (some (1, 0)) else (some (0, 0)))) else (some (0, 2)))) = some (r1, r2) := h
  clear h
  replace H := Option.bind_eq_some_iff.mp H
  obtain ⟨t603, A30, H⟩ := H
  replace H : (if t603 = true then (if (wrap64 (a0_0 * a1_1)) < (wrap64 (a1_0 * a0_1)) then (some ((-1), 0)) else (if (wrap64 (a0_0 * a1_1)) > (wrap64 (a1_0 * a0_1)) then (some (1, 0)) else (some (0, 0)))) else (some (0, 2))) = some (r1, r2) := H
  have A3 := Fa.mk A30
  clear A30
  by_cases c4 : t603 = true
  · subst c4
    have H1 : (if (wrap64 (a0_0 * a1_1)) < (wrap64 (a1_0 * a0_1)) then (some ((-1), 0)) else (if (wrap64 (a0_0 * a1_1)) > (wrap64 (a1_0 * a0_1)) then (some (1, 0)) else (some (0, 0)))) = some (r1, r2) := by rw [if_pos rfl] at H; exact H
    clear H
    have H := H1
    clear H1
    by_cases c5 : (wrap64 (a0_0 * a1_1)) < (wrap64 (a1_0 * a0_1))
    · rw [if_pos c5] at H
      have c5b0 : decide ((wrap64 (a0_0 * a1_1)) < (wrap64 (a1_0 * a0_1))) = true := decide_eq_true c5
      clear c5
      simp only [Option.some.injEq, Prod.mk.injEq] at H
      obtain ⟨rfl, rfl⟩ := H
      go_enter Tryd.func42, Tryd.ntmps42
      iterate 4 (go_wp2_with (first | ((with_reducible refine gate_dst (N := 2) rfl ?_); refine boxF (N := 2) (cs := #[.int .i64 a0_0, .int .i64 a0_1]) (t := 23) ?_; intro gb601 hg w6 hbox hb; have n0_ := Fa.mk (bst w hb); have n1_ := Fa.mk (hbox); have n2_ := Fa.mk (gle hg : w.heap.size ≤ gb601); have n3_ := n2_; clear HB; have HB := n0_; have BK601 := n1_; have GW601 := n2_; have GE601 := n3_; clear n0_ n1_ n2_ n3_; clear hb hbox hg) | ((with_reducible refine gate_dst (N := 3) rfl ?_); refine boxF (N := 3) (cs := #[.int .i64 a1_0, .int .i64 a1_1]) (t := 23) ?_; intro gb602 hg w7 hbox hb; have n0_ := Fa.mk (blk_below (g := gb601) (o := .cells #[.int .i64 a0_0, .int .i64 a0_1] 23 (0, 0)) fa hb); have n1_ := Fa.mk (bst w hb); have n2_ := Fa.mk (hbox); have n3_ := Fa.mk (gle hg : w.heap.size ≤ gb602); have n4_ := n3_; have n5_ := Fa.mk (gne (o := .cells #[.int .i64 a0_0, .int .i64 a0_1] 23 (0, 0)) hg : gb601 ≠ gb602); have n6_ := Fa.mk n5_.out.symm; clear BK601; clear HB; have BK601 := n0_; have HB := n1_; have BK602 := n2_; have GW602 := n3_; have GE602 := n4_; have NB601_602 := n5_; have NB602_601 := n6_; clear n0_ n1_ n2_ n3_ n4_ n5_ n6_; clear hb hbox hg; have hnb8 := NB601_602.out; have hnc8 := NB602_601.out; have hcz9_0 : w7.cell? ⟨gb601, 0, none⟩ = some (.int .i64 a0_0) := (blk_cell BK601.out 0).trans rfl; have hcz9_1 : w7.cell? ⟨gb601, 1, none⟩ = some (.int .i64 a0_1) := (blk_cell BK601.out 1).trans rfl; have hfz9_0 := blk_frozen BK601.out 0; have hfz9_1 := blk_frozen BK601.out 1; have hcz10_0 : w7.cell? ⟨gb602, 0, none⟩ = some (.int .i64 a1_0) := (blk_cell BK602.out 0).trans rfl; have hcz10_1 : w7.cell? ⟨gb602, 1, none⟩ = some (.int .i64 a1_1) := (blk_cell BK602.out 1).trans rfl; have hfz10_0 := blk_frozen BK602.out 0; have hfz10_1 := blk_frozen BK602.out 1) | (go_at_call 68; (with_reducible refine (fleuronref01_both.calls k a0_0 a0_1 a1_0 a1_1 true _ A3.out).mono ?_); rintro e w11 ⟨rfl, hb⟩; have n0_ := Fa.mk (blk_below (g := gb601) (o := .cells #[.int .i64 a0_0, .int .i64 a0_1] 23 (0, 0)) fa hb); have n1_ := Fa.mk (blk_below (g := gb602) (o := .cells #[.int .i64 a1_0, .int .i64 a1_1] 23 (0, 0)) fa hb); have n2_ := Fa.mk (bst w hb); clear BK601; clear BK602; clear HB; have BK601 := n0_; have BK602 := n1_; have HB := n2_; clear n0_ n1_ n2_; (try clear hb); (try clear hb2); (try clear hk); (try clear hi); have hcz12_0 : w11.cell? ⟨gb601, 0, none⟩ = some (.int .i64 a0_0) := (blk_cell BK601.out 0).trans rfl; have hcz12_1 : w11.cell? ⟨gb601, 1, none⟩ = some (.int .i64 a0_1) := (blk_cell BK601.out 1).trans rfl; have hfz12_0 := blk_frozen BK601.out 0; have hfz12_1 := blk_frozen BK601.out 1; have hcz13_0 : w11.cell? ⟨gb602, 0, none⟩ = some (.int .i64 a1_0) := (blk_cell BK602.out 0).trans rfl; have hcz13_1 : w11.cell? ⟨gb602, 1, none⟩ = some (.int .i64 a1_1) := (blk_cell BK602.out 1).trans rfl; have hfz13_0 := blk_frozen BK602.out 0; have hfz13_1 := blk_frozen BK602.out 1)); (try go_quiet (fail)))
      go_ret2
      exact ⟨by first | rfl | (simp [errW_none, errW_some] <;> rfl) | (simp [*, errW_none, errW_some] <;> rfl), fa⟩
    · rw [if_neg c5] at H
      have c5b0 : decide ((wrap64 (a0_0 * a1_1)) < (wrap64 (a1_0 * a0_1))) = false := decide_eq_false c5
      clear c5
      by_cases c14 : (wrap64 (a0_0 * a1_1)) > (wrap64 (a1_0 * a0_1))
      · rw [if_pos c14] at H
        have c14b0 : decide ((wrap64 (a1_0 * a0_1)) < (wrap64 (a0_0 * a1_1))) = true := decide_eq_true c14
        clear c14
        simp only [Option.some.injEq, Prod.mk.injEq] at H
        obtain ⟨rfl, rfl⟩ := H
        go_enter Tryd.func42, Tryd.ntmps42
        iterate 4 (go_wp2_with (first | ((with_reducible refine gate_dst (N := 2) rfl ?_); refine boxF (N := 2) (cs := #[.int .i64 a0_0, .int .i64 a0_1]) (t := 23) ?_; intro gb601 hg w15 hbox hb; have n0_ := Fa.mk (bst w hb); have n1_ := Fa.mk (hbox); have n2_ := Fa.mk (gle hg : w.heap.size ≤ gb601); have n3_ := n2_; clear HB; have HB := n0_; have BK601 := n1_; have GW601 := n2_; have GE601 := n3_; clear n0_ n1_ n2_ n3_; clear hb hbox hg) | ((with_reducible refine gate_dst (N := 3) rfl ?_); refine boxF (N := 3) (cs := #[.int .i64 a1_0, .int .i64 a1_1]) (t := 23) ?_; intro gb602 hg w16 hbox hb; have n0_ := Fa.mk (blk_below (g := gb601) (o := .cells #[.int .i64 a0_0, .int .i64 a0_1] 23 (0, 0)) fa hb); have n1_ := Fa.mk (bst w hb); have n2_ := Fa.mk (hbox); have n3_ := Fa.mk (gle hg : w.heap.size ≤ gb602); have n4_ := n3_; have n5_ := Fa.mk (gne (o := .cells #[.int .i64 a0_0, .int .i64 a0_1] 23 (0, 0)) hg : gb601 ≠ gb602); have n6_ := Fa.mk n5_.out.symm; clear BK601; clear HB; have BK601 := n0_; have HB := n1_; have BK602 := n2_; have GW602 := n3_; have GE602 := n4_; have NB601_602 := n5_; have NB602_601 := n6_; clear n0_ n1_ n2_ n3_ n4_ n5_ n6_; clear hb hbox hg; have hnb17 := NB601_602.out; have hnc17 := NB602_601.out; have hcz18_0 : w16.cell? ⟨gb601, 0, none⟩ = some (.int .i64 a0_0) := (blk_cell BK601.out 0).trans rfl; have hcz18_1 : w16.cell? ⟨gb601, 1, none⟩ = some (.int .i64 a0_1) := (blk_cell BK601.out 1).trans rfl; have hfz18_0 := blk_frozen BK601.out 0; have hfz18_1 := blk_frozen BK601.out 1; have hcz19_0 : w16.cell? ⟨gb602, 0, none⟩ = some (.int .i64 a1_0) := (blk_cell BK602.out 0).trans rfl; have hcz19_1 : w16.cell? ⟨gb602, 1, none⟩ = some (.int .i64 a1_1) := (blk_cell BK602.out 1).trans rfl; have hfz19_0 := blk_frozen BK602.out 0; have hfz19_1 := blk_frozen BK602.out 1) | (go_at_call 68; (with_reducible refine (fleuronref01_both.calls k a0_0 a0_1 a1_0 a1_1 true _ A3.out).mono ?_); rintro e w20 ⟨rfl, hb⟩; have n0_ := Fa.mk (blk_below (g := gb601) (o := .cells #[.int .i64 a0_0, .int .i64 a0_1] 23 (0, 0)) fa hb); have n1_ := Fa.mk (blk_below (g := gb602) (o := .cells #[.int .i64 a1_0, .int .i64 a1_1] 23 (0, 0)) fa hb); have n2_ := Fa.mk (bst w hb); clear BK601; clear BK602; clear HB; have BK601 := n0_; have BK602 := n1_; have HB := n2_; clear n0_ n1_ n2_; (try clear hb); (try clear hb2); (try clear hk); (try clear hi); have hcz21_0 : w20.cell? ⟨gb601, 0, none⟩ = some (.int .i64 a0_0) := (blk_cell BK601.out 0).trans rfl; have hcz21_1 : w20.cell? ⟨gb601, 1, none⟩ = some (.int .i64 a0_1) := (blk_cell BK601.out 1).trans rfl; have hfz21_0 := blk_frozen BK601.out 0; have hfz21_1 := blk_frozen BK601.out 1; have hcz22_0 : w20.cell? ⟨gb602, 0, none⟩ = some (.int .i64 a1_0) := (blk_cell BK602.out 0).trans rfl; have hcz22_1 : w20.cell? ⟨gb602, 1, none⟩ = some (.int .i64 a1_1) := (blk_cell BK602.out 1).trans rfl; have hfz22_0 := blk_frozen BK602.out 0; have hfz22_1 := blk_frozen BK602.out 1)); (try go_quiet (fail)))
        go_ret2
        exact ⟨by first | rfl | (simp [errW_none, errW_some] <;> rfl) | (simp [*, errW_none, errW_some] <;> rfl), fa⟩
      · rw [if_neg c14] at H
        have c14b0 : decide ((wrap64 (a1_0 * a0_1)) < (wrap64 (a0_0 * a1_1))) = false := decide_eq_false c14
        clear c14
        simp only [Option.some.injEq, Prod.mk.injEq] at H
        obtain ⟨rfl, rfl⟩ := H
        go_enter Tryd.func42, Tryd.ntmps42
        iterate 4 (go_wp2_with (first | ((with_reducible refine gate_dst (N := 2) rfl ?_); refine boxF (N := 2) (cs := #[.int .i64 a0_0, .int .i64 a0_1]) (t := 23) ?_; intro gb601 hg w23 hbox hb; have n0_ := Fa.mk (bst w hb); have n1_ := Fa.mk (hbox); have n2_ := Fa.mk (gle hg : w.heap.size ≤ gb601); have n3_ := n2_; clear HB; have HB := n0_; have BK601 := n1_; have GW601 := n2_; have GE601 := n3_; clear n0_ n1_ n2_ n3_; clear hb hbox hg) | ((with_reducible refine gate_dst (N := 3) rfl ?_); refine boxF (N := 3) (cs := #[.int .i64 a1_0, .int .i64 a1_1]) (t := 23) ?_; intro gb602 hg w24 hbox hb; have n0_ := Fa.mk (blk_below (g := gb601) (o := .cells #[.int .i64 a0_0, .int .i64 a0_1] 23 (0, 0)) fa hb); have n1_ := Fa.mk (bst w hb); have n2_ := Fa.mk (hbox); have n3_ := Fa.mk (gle hg : w.heap.size ≤ gb602); have n4_ := n3_; have n5_ := Fa.mk (gne (o := .cells #[.int .i64 a0_0, .int .i64 a0_1] 23 (0, 0)) hg : gb601 ≠ gb602); have n6_ := Fa.mk n5_.out.symm; clear BK601; clear HB; have BK601 := n0_; have HB := n1_; have BK602 := n2_; have GW602 := n3_; have GE602 := n4_; have NB601_602 := n5_; have NB602_601 := n6_; clear n0_ n1_ n2_ n3_ n4_ n5_ n6_; clear hb hbox hg; have hnb25 := NB601_602.out; have hnc25 := NB602_601.out; have hcz26_0 : w24.cell? ⟨gb601, 0, none⟩ = some (.int .i64 a0_0) := (blk_cell BK601.out 0).trans rfl; have hcz26_1 : w24.cell? ⟨gb601, 1, none⟩ = some (.int .i64 a0_1) := (blk_cell BK601.out 1).trans rfl; have hfz26_0 := blk_frozen BK601.out 0; have hfz26_1 := blk_frozen BK601.out 1; have hcz27_0 : w24.cell? ⟨gb602, 0, none⟩ = some (.int .i64 a1_0) := (blk_cell BK602.out 0).trans rfl; have hcz27_1 : w24.cell? ⟨gb602, 1, none⟩ = some (.int .i64 a1_1) := (blk_cell BK602.out 1).trans rfl; have hfz27_0 := blk_frozen BK602.out 0; have hfz27_1 := blk_frozen BK602.out 1) | (go_at_call 68; (with_reducible refine (fleuronref01_both.calls k a0_0 a0_1 a1_0 a1_1 true _ A3.out).mono ?_); rintro e w28 ⟨rfl, hb⟩; have n0_ := Fa.mk (blk_below (g := gb601) (o := .cells #[.int .i64 a0_0, .int .i64 a0_1] 23 (0, 0)) fa hb); have n1_ := Fa.mk (blk_below (g := gb602) (o := .cells #[.int .i64 a1_0, .int .i64 a1_1] 23 (0, 0)) fa hb); have n2_ := Fa.mk (bst w hb); clear BK601; clear BK602; clear HB; have BK601 := n0_; have BK602 := n1_; have HB := n2_; clear n0_ n1_ n2_; (try clear hb); (try clear hb2); (try clear hk); (try clear hi); have hcz29_0 : w28.cell? ⟨gb601, 0, none⟩ = some (.int .i64 a0_0) := (blk_cell BK601.out 0).trans rfl; have hcz29_1 : w28.cell? ⟨gb601, 1, none⟩ = some (.int .i64 a0_1) := (blk_cell BK601.out 1).trans rfl; have hfz29_0 := blk_frozen BK601.out 0; have hfz29_1 := blk_frozen BK601.out 1; have hcz30_0 : w28.cell? ⟨gb602, 0, none⟩ = some (.int .i64 a1_0) := (blk_cell BK602.out 0).trans rfl; have hcz30_1 : w28.cell? ⟨gb602, 1, none⟩ = some (.int .i64 a1_1) := (blk_cell BK602.out 1).trans rfl; have hfz30_0 := blk_frozen BK602.out 0; have hfz30_1 := blk_frozen BK602.out 1)); (try go_quiet (fail)))
        go_ret2
        exact ⟨by first | rfl | (simp [errW_none, errW_some] <;> rfl) | (simp [*, errW_none, errW_some] <;> rfl), fa⟩
  · replace c4 := Bool.eq_false_iff.mpr c4
    subst c4
    have H1 : (some (0, 2)) = some (r1, r2) := by rw [if_neg (show ¬ (false = true) by decide)] at H; exact H
    clear H
    have H := H1
    clear H1
    simp only [Option.some.injEq, Prod.mk.injEq] at H
    obtain ⟨rfl, rfl⟩ := H
    go_enter Tryd.func42, Tryd.ntmps42
    iterate 4 (go_wp2_with (first | ((with_reducible refine gate_dst (N := 2) rfl ?_); refine boxF (N := 2) (cs := #[.int .i64 a0_0, .int .i64 a0_1]) (t := 23) ?_; intro gb601 hg w31 hbox hb; have n0_ := Fa.mk (bst w hb); have n1_ := Fa.mk (hbox); have n2_ := Fa.mk (gle hg : w.heap.size ≤ gb601); have n3_ := n2_; clear HB; have HB := n0_; have BK601 := n1_; have GW601 := n2_; have GE601 := n3_; clear n0_ n1_ n2_ n3_; clear hb hbox hg) | ((with_reducible refine gate_dst (N := 3) rfl ?_); refine boxF (N := 3) (cs := #[.int .i64 a1_0, .int .i64 a1_1]) (t := 23) ?_; intro gb602 hg w32 hbox hb; have n0_ := Fa.mk (blk_below (g := gb601) (o := .cells #[.int .i64 a0_0, .int .i64 a0_1] 23 (0, 0)) fa hb); have n1_ := Fa.mk (bst w hb); have n2_ := Fa.mk (hbox); have n3_ := Fa.mk (gle hg : w.heap.size ≤ gb602); have n4_ := n3_; have n5_ := Fa.mk (gne (o := .cells #[.int .i64 a0_0, .int .i64 a0_1] 23 (0, 0)) hg : gb601 ≠ gb602); have n6_ := Fa.mk n5_.out.symm; clear BK601; clear HB; have BK601 := n0_; have HB := n1_; have BK602 := n2_; have GW602 := n3_; have GE602 := n4_; have NB601_602 := n5_; have NB602_601 := n6_; clear n0_ n1_ n2_ n3_ n4_ n5_ n6_; clear hb hbox hg; have hnb33 := NB601_602.out; have hnc33 := NB602_601.out; have hcz34_0 : w32.cell? ⟨gb601, 0, none⟩ = some (.int .i64 a0_0) := (blk_cell BK601.out 0).trans rfl; have hcz34_1 : w32.cell? ⟨gb601, 1, none⟩ = some (.int .i64 a0_1) := (blk_cell BK601.out 1).trans rfl; have hfz34_0 := blk_frozen BK601.out 0; have hfz34_1 := blk_frozen BK601.out 1; have hcz35_0 : w32.cell? ⟨gb602, 0, none⟩ = some (.int .i64 a1_0) := (blk_cell BK602.out 0).trans rfl; have hcz35_1 : w32.cell? ⟨gb602, 1, none⟩ = some (.int .i64 a1_1) := (blk_cell BK602.out 1).trans rfl; have hfz35_0 := blk_frozen BK602.out 0; have hfz35_1 := blk_frozen BK602.out 1) | (go_at_call 68; (with_reducible refine (fleuronref01_both.calls k a0_0 a0_1 a1_0 a1_1 false _ A3.out).mono ?_); rintro e w36 ⟨rfl, hb⟩; have n0_ := Fa.mk (blk_below (g := gb601) (o := .cells #[.int .i64 a0_0, .int .i64 a0_1] 23 (0, 0)) fa hb); have n1_ := Fa.mk (blk_below (g := gb602) (o := .cells #[.int .i64 a1_0, .int .i64 a1_1] 23 (0, 0)) fa hb); have n2_ := Fa.mk (bst w hb); clear BK601; clear BK602; clear HB; have BK601 := n0_; have BK602 := n1_; have HB := n2_; clear n0_ n1_ n2_; (try clear hb); (try clear hb2); (try clear hk); (try clear hi))); (try go_quiet (fail)))
    go_ret2
    exact ⟨by first | rfl | (simp [errW_none, errW_some] <;> rfl) | (simp [*, errW_none, errW_some] <;> rfl), fa⟩

/-! ### fleuronref01_Fixed: function 43 -/
def fleuronref01_Fixed.f (k : Nat) (a0_0 : Int) (a0_1 : Int) : Option (Int × Int) := (fleuronref01_Valid.f k a0_0 a0_1).bind fun t605 => (if t605 = true then ((fleuronref01_fixed.f k a0_0 a0_1).bind fun bt606 => (some (bt606.1, 0))) else (some (0, 2)))
theorem fleuronref01_Fixed.mono : ∀ a0 a1 k, LeO (fleuronref01_Fixed.f k a0 a1) (fleuronref01_Fixed.f (k + 1) a0 a1) := by
  intro a0 a1 k
  unfold fleuronref01_Fixed.f
  repeat' first
      | (with_reducible exact fleuronref01_Valid.mono _ _ _)
      | (with_reducible exact fleuronref01_fixed.mono _ _ _)
      | (with_reducible exact LeO.refl _)
      | (with_reducible exact LeO.none _)
      | (with_reducible refine LeO.ite ?_ ?_)
      | (with_reducible refine LeO.bind ?_ (fun _ => ?_))
      | exact fleuronref01_Valid.mono _ _ _
      | exact fleuronref01_fixed.mono _ _ _
      | exact LeO.none _
      | refine LeO.ite ?_ ?_
      | refine LeO.bind ?_ (fun _ => ?_)
set_option maxHeartbeats 8000000 in
set_option maxRecDepth 100000 in
theorem fleuronref01_Fixed.calls (k : Nat) (a0_0 : Int) (a0_1 : Int) (r1 : Int) (r2 : Int) (w : World) (h : fleuronref01_Fixed.f k a0_0 a0_1 = some (r1, r2)) :
    Calls Tryd.prog 43 #[.agg #[.int .i64 a0_0, .int .i64 a0_1]] w fun e w' => e = .returned (.tuple #[.int .i64 r1, .int .i64 r2]) ∧ Below w.heap.size w w' := by
  have hu23 := Tryd.underlying23
  have HB := Fa.mk (Below.refl w.heap.size w)
  have H : ((fleuronref01_Valid.f k a0_0 a0_1).bind fun t605 => (if t605 = true then ((fleuronref01_fixed.f k a0_0 a0_1).bind fun bt606 => (some (bt606.1, 0))) else (some (0, 2)))) = some (r1, r2) := h
  clear h
  replace H := Option.bind_eq_some_iff.mp H
  obtain ⟨t605, A20, H⟩ := H
  replace H : (if t605 = true then ((fleuronref01_fixed.f k a0_0 a0_1).bind fun bt606 => (some (bt606.1, 0))) else (some (0, 2))) = some (r1, r2) := H
  have A2 := Fa.mk A20
  clear A20
  by_cases c3 : t605 = true
  · subst c3
    have H1 : ((fleuronref01_fixed.f k a0_0 a0_1).bind fun bt606 => (some (bt606.1, 0))) = some (r1, r2) := by rw [if_pos rfl] at H; exact H
    clear H
    have H := H1
    clear H1
    replace H := Option.bind_eq_some_iff.mp H
    obtain ⟨⟨t606, t607⟩, A40, H⟩ := H
    replace H : (some (t606, 0)) = some (r1, r2) := H
    have A4 := Fa.mk A40
    clear A40
    simp only [Option.some.injEq, Prod.mk.injEq] at H
    obtain ⟨rfl, rfl⟩ := H
    go_enter Tryd.func43, Tryd.ntmps43
    go_wp2_with (first | ((with_reducible refine gate_dst (N := 1) rfl ?_); refine boxF (N := 1) (cs := #[.int .i64 a0_0, .int .i64 a0_1]) (t := 23) ?_; intro gb604 hg w5 hbox hb; have n0_ := Fa.mk (bst w hb); have n1_ := Fa.mk (hbox); have n2_ := Fa.mk (gle hg : w.heap.size ≤ gb604); have n3_ := n2_; clear HB; have HB := n0_; have BK604 := n1_; have GW604 := n2_; have GE604 := n3_; clear n0_ n1_ n2_ n3_; clear hb hbox hg; have hcz6_0 : w5.cell? ⟨gb604, 0, none⟩ = some (.int .i64 a0_0) := (blk_cell BK604.out 0).trans rfl; have hcz6_1 : w5.cell? ⟨gb604, 1, none⟩ = some (.int .i64 a0_1) := (blk_cell BK604.out 1).trans rfl; have hfz6_0 := blk_frozen BK604.out 0; have hfz6_1 := blk_frozen BK604.out 1) | ((with_reducible refine gate_callee (f := 16) rfl ?_); refine goesA (some 7) rfl rfl Tryd.func16 (by kernel_rfl) rfl #[.agg #[.int .i64 a0_0, .int .i64 a0_1]] rfl ?_; (with_reducible refine (fleuronref01_Valid.calls k a0_0 a0_1 true _ A2.out).mono ?_); rintro e w7 ⟨rfl, hb⟩; refine ⟨_, rfl, ?_⟩; have n0_ := Fa.mk (blk_below (g := gb604) (o := .cells #[.int .i64 a0_0, .int .i64 a0_1] 23 (0, 0)) fa hb); have n1_ := Fa.mk (bst w hb); clear BK604; clear HB; have BK604 := n0_; have HB := n1_; clear n0_ n1_; (try clear hb); (try clear hb2); (try clear hk); (try clear hi); have hcz8_0 : w7.cell? ⟨gb604, 0, none⟩ = some (.int .i64 a0_0) := (blk_cell BK604.out 0).trans rfl; have hcz8_1 : w7.cell? ⟨gb604, 1, none⟩ = some (.int .i64 a0_1) := (blk_cell BK604.out 1).trans rfl; have hfz8_0 := blk_frozen BK604.out 0; have hfz8_1 := blk_frozen BK604.out 1) | ((with_reducible refine gate_callee (f := 54) rfl ?_); refine goesA (some 14) rfl rfl Tryd.func54 (by kernel_rfl) rfl #[.int .i64 a0_0, .int .i64 a0_1] rfl ?_; (with_reducible refine (fleuronref01_fixed.calls k a0_0 a0_1 t606 t607 _ A4.out).mono ?_); rintro e w' ⟨rfl, ⟨nd, rfl⟩⟩; refine ⟨_, rfl, ?_⟩))
    go_ret2
    exact ⟨by first | rfl | (simp [errW_none, errW_some] <;> rfl) | (simp [*, errW_none, errW_some] <;> rfl), fa⟩
  · replace c3 := Bool.eq_false_iff.mpr c3
    subst c3
    have H1 : (some (0, 2)) = some (r1, r2) := by rw [if_neg (show ¬ (false = true) by decide)] at H; exact H
    clear H
    have H := H1
    clear H1
    simp only [Option.some.injEq, Prod.mk.injEq] at H
    obtain ⟨rfl, rfl⟩ := H
    go_enter Tryd.func43, Tryd.ntmps43
    go_wp2_with (first | ((with_reducible refine gate_dst (N := 1) rfl ?_); refine boxF (N := 1) (cs := #[.int .i64 a0_0, .int .i64 a0_1]) (t := 23) ?_; intro gb604 hg w9 hbox hb; have n0_ := Fa.mk (bst w hb); have n1_ := Fa.mk (hbox); have n2_ := Fa.mk (gle hg : w.heap.size ≤ gb604); have n3_ := n2_; clear HB; have HB := n0_; have BK604 := n1_; have GW604 := n2_; have GE604 := n3_; clear n0_ n1_ n2_ n3_; clear hb hbox hg; have hcz10_0 : w9.cell? ⟨gb604, 0, none⟩ = some (.int .i64 a0_0) := (blk_cell BK604.out 0).trans rfl; have hcz10_1 : w9.cell? ⟨gb604, 1, none⟩ = some (.int .i64 a0_1) := (blk_cell BK604.out 1).trans rfl; have hfz10_0 := blk_frozen BK604.out 0; have hfz10_1 := blk_frozen BK604.out 1) | ((with_reducible refine gate_callee (f := 16) rfl ?_); refine goesA (some 7) rfl rfl Tryd.func16 (by kernel_rfl) rfl #[.agg #[.int .i64 a0_0, .int .i64 a0_1]] rfl ?_; (with_reducible refine (fleuronref01_Valid.calls k a0_0 a0_1 false _ A2.out).mono ?_); rintro e w11 ⟨rfl, hb⟩; refine ⟨_, rfl, ?_⟩; have n0_ := Fa.mk (blk_below (g := gb604) (o := .cells #[.int .i64 a0_0, .int .i64 a0_1] 23 (0, 0)) fa hb); have n1_ := Fa.mk (bst w hb); clear BK604; clear HB; have BK604 := n0_; have HB := n1_; clear n0_ n1_; (try clear hb); (try clear hb2); (try clear hk); (try clear hi)))
    go_ret2
    exact ⟨by first | rfl | (simp [errW_none, errW_some] <;> rfl) | (simp [*, errW_none, errW_some] <;> rfl), fa⟩

/-! ### fleuronref01_FromFixed: function 44 -/
def fleuronref01_FromFixed.f (k : Nat) (a0 : Int) : Option (Int × Int × Int) := (fleuronref01_Make.f k a0 65536).bind fun bt609 => (some (bt609.1, bt609.2.1, bt609.2.2))
theorem fleuronref01_FromFixed.mono : ∀ a0 k, LeO (fleuronref01_FromFixed.f k a0) (fleuronref01_FromFixed.f (k + 1) a0) := by
  intro a0 k
  unfold fleuronref01_FromFixed.f
  repeat' first
      | (with_reducible exact fleuronref01_Make.mono _ _ _)
      | (with_reducible exact LeO.refl _)
      | (with_reducible exact LeO.none _)
      | (with_reducible refine LeO.ite ?_ ?_)
      | (with_reducible refine LeO.bind ?_ (fun _ => ?_))
      | exact fleuronref01_Make.mono _ _ _
      | exact LeO.none _
      | refine LeO.ite ?_ ?_
      | refine LeO.bind ?_ (fun _ => ?_)
set_option maxHeartbeats 8000000 in
set_option maxRecDepth 100000 in
theorem fleuronref01_FromFixed.calls (k : Nat) (a0 : Int) (r1 : Int) (r2 : Int) (r3 : Int) (w : World) (h : fleuronref01_FromFixed.f k a0 = some (r1, r2, r3)) :
    Calls Tryd.prog 44 #[.int .i64 a0] w fun e w' => e = .returned (.tuple #[.agg #[.int .i64 r1, .int .i64 r2], .int .i64 r3]) ∧ Below w.heap.size w w' := by
  have hu23 := Tryd.underlying23
  have HB := Fa.mk (Below.refl w.heap.size w)
  have H : ((fleuronref01_Make.f k a0 65536).bind fun bt609 => (some (bt609.1, bt609.2.1, bt609.2.2))) = some (r1, r2, r3) := h
  clear h
  replace H := Option.bind_eq_some_iff.mp H
  obtain ⟨⟨t609, t610, t611⟩, A20, H⟩ := H
  replace H : (some (t609, t610, t611)) = some (r1, r2, r3) := H
  have A2 := Fa.mk A20
  clear A20
  simp only [Option.some.injEq, Prod.mk.injEq] at H
  obtain ⟨rfl, rfl, rfl⟩ := H
  go_enter Tryd.func44, Tryd.ntmps44
  go_wp2_with (first | ((with_reducible refine gate_dst (N := 2) rfl ?_); refine boxF (N := 2) (cs := #[.int .i64 0, .int .i64 0]) (t := 23) ?_; intro gb608 hg w3 hbox hb; have n0_ := Fa.mk (bst w hb); have n1_ := Fa.mk (hbox); have n2_ := Fa.mk (gle hg : w.heap.size ≤ gb608); have n3_ := n2_; clear HB; have HB := n0_; have BK608 := n1_; have GW608 := n2_; have GE608 := n3_; clear n0_ n1_ n2_ n3_; clear hb hbox hg) | ((with_reducible refine gate_callee (f := 14) rfl ?_); refine goesA (some 5) rfl rfl Tryd.func14 (by kernel_rfl) rfl #[.int .i64 a0, .int .i64 65536] rfl ?_; (with_reducible refine (fleuronref01_Make.calls k a0 65536 t609 t610 t611 _ A2.out).mono ?_); rintro e w4 ⟨rfl, hb⟩; refine ⟨_, rfl, ?_⟩; have n0_ := Fa.mk (blk_below (g := gb608) (o := .cells #[.int .i64 0, .int .i64 0] 23 (0, 0)) fa hb); have n1_ := Fa.mk (bst w hb); clear BK608; clear HB; have BK608 := n0_; have HB := n1_; clear n0_ n1_; (try clear hb); (try clear hb2); (try clear hk); (try clear hi); have hcz5_0 : w4.cell? ⟨gb608, 0, none⟩ = some (.int .i64 0) := (blk_cell BK608.out 0).trans rfl; have hcz5_1 : w4.cell? ⟨gb608, 1, none⟩ = some (.int .i64 0) := (blk_cell BK608.out 1).trans rfl; have hfz5_0 := blk_frozen BK608.out 0; have hfz5_1 := blk_frozen BK608.out 1))
  refine bodyPost_ret (results_ct rfl _ _ gb608 23 #[.int .i64 t609, .int .i64 t610] (0, 0) _ rfl (by (with_reducible repeat (first | refine blk_drewN ?_ _ | refine blk_drew ?_ | refine blk_alloc ?_ _)); refine blk_put (cs := #[.int .i64 t609, .int .i64 0]) ?_ 1 _ rfl; (with_reducible repeat (first | refine blk_drewN ?_ _ | refine blk_drew ?_ | refine blk_alloc ?_ _)); refine blk_put (cs := #[.int .i64 0, .int .i64 0]) ?_ 0 _ rfl; (with_reducible repeat (first | refine blk_drewN ?_ _ | refine blk_drew ?_ | refine blk_alloc ?_ _)); exact BK608.out) Tryd.underlying23 rfl (by kernel_rfl)) rfl ?_
  exact ⟨by first | rfl | (simp [errW_none, errW_some] <;> rfl) | (simp [*, errW_none, errW_some] <;> rfl), fa⟩

/-! ### fleuronlaw01_NumFloors: function 11 -/
def fleuronlaw01_NumFloors.f (k : Nat) (a0_0 : Int) (a0_1 : Int) (a1_0 : Int) (a1_1 : Int) (a2 : Int) : Option (Bool) := (num_Floor.f k a0_0 a0_1).bind fun bt614 => ((fleuronref01_Floor.f k a0_0 a0_1).bind fun bt616 => ((num_Cmp.f k a0_0 a0_1 a1_0 a1_1).bind fun bt618 => ((fleuronref01_Cmp.f k a0_0 a0_1 a1_0 a1_1).bind fun bt620 => ((num_Fixed.f k a0_0 a0_1).bind fun bt622 => ((fleuronref01_Fixed.f k a0_0 a0_1).bind fun bt624 => ((num_FromFixed.f k a2).bind fun bt626 => ((fleuronref01_FromFixed.f k a2).bind fun bt630 => (if bt614.1 = bt616.1 then (if bt614.2 = bt616.2 then (if bt618.1 = bt620.1 then (if bt618.2 = bt620.2 then (if bt622.1 = bt624.1 then (if bt622.2 = bt624.2 then (if (bt626.1 == bt630.1 && (bt626.2.1 == bt630.2.1)) = true then (if bt626.2.2 = bt630.2.2 then ((fleuronlaw01_awake.f k).bind fun t634 => (some t634)) else (none)) else (none)) else (none)) else (none)) else (none)) else (none)) else (none)) else (none)))))))))
theorem fleuronlaw01_NumFloors.mono : ∀ a0 a1 a2 a3 a4 k, LeO (fleuronlaw01_NumFloors.f k a0 a1 a2 a3 a4) (fleuronlaw01_NumFloors.f (k + 1) a0 a1 a2 a3 a4) := by
  intro a0 a1 a2 a3 a4 k
  unfold fleuronlaw01_NumFloors.f
  repeat' first
      | (with_reducible exact fleuronlaw01_awake.mono _)
      | (with_reducible exact fleuronref01_Cmp.mono _ _ _ _ _)
      | (with_reducible exact fleuronref01_Fixed.mono _ _ _)
      | (with_reducible exact fleuronref01_Floor.mono _ _ _)
      | (with_reducible exact fleuronref01_FromFixed.mono _ _)
      | (with_reducible exact num_Cmp.mono _ _ _ _ _)
      | (with_reducible exact num_Fixed.mono _ _ _)
      | (with_reducible exact num_Floor.mono _ _ _)
      | (with_reducible exact num_FromFixed.mono _ _)
      | (with_reducible exact LeO.refl _)
      | (with_reducible exact LeO.none _)
      | (with_reducible refine LeO.ite ?_ ?_)
      | (with_reducible refine LeO.bind ?_ (fun _ => ?_))
      | exact fleuronlaw01_awake.mono _
      | exact fleuronref01_Cmp.mono _ _ _ _ _
      | exact fleuronref01_Fixed.mono _ _ _
      | exact fleuronref01_Floor.mono _ _ _
      | exact fleuronref01_FromFixed.mono _ _
      | exact num_Cmp.mono _ _ _ _ _
      | exact num_Fixed.mono _ _ _
      | exact num_Floor.mono _ _ _
      | exact num_FromFixed.mono _ _
      | exact LeO.none _
      | refine LeO.ite ?_ ?_
      | refine LeO.bind ?_ (fun _ => ?_)
set_option maxHeartbeats 8000000 in
set_option maxRecDepth 100000 in
theorem fleuronlaw01_NumFloors.calls (k : Nat) (a0_0 : Int) (a0_1 : Int) (a1_0 : Int) (a1_1 : Int) (a2 : Int) (r : Bool) (w : World) (h : fleuronlaw01_NumFloors.f k a0_0 a0_1 a1_0 a1_1 a2 = some r) (hG : Glob w) :
    Calls Tryd.prog 11 #[.agg #[.int .i64 a0_0, .int .i64 a0_1], .agg #[.int .i64 a1_0, .int .i64 a1_1], .int .i64 a2] w fun e w' => e = .returned (.bool r) ∧ Below w.heap.size w w' := by
  have HG := Fa.mk hG
  clear hG
  have hu23 := Tryd.underlying23
  have HB := Fa.mk (Below.refl w.heap.size w)
  have H : ((num_Floor.f k a0_0 a0_1).bind fun bt614 => ((fleuronref01_Floor.f k a0_0 a0_1).bind fun bt616 => ((num_Cmp.f k a0_0 a0_1 a1_0 a1_1).bind fun bt618 => ((fleuronref01_Cmp.f k a0_0 a0_1 a1_0 a1_1).bind fun bt620 => ((num_Fixed.f k a0_0 a0_1).bind fun bt622 => ((fleuronref01_Fixed.f k a0_0 a0_1).bind fun bt624 => ((num_FromFixed.f k a2).bind fun bt626 => ((fleuronref01_FromFixed.f k a2).bind fun bt630 => (if bt614.1 = bt616.1 then (if bt614.2 = bt616.2 then (if bt618.1 = bt620.1 then (if bt618.2 = bt620.2 then (if bt622.1 = bt624.1 then (if bt622.2 = bt624.2 then (if (bt626.1 == bt630.1 && (bt626.2.1 == bt630.2.1)) = true then (if bt626.2.2 = bt630.2.2 then ((fleuronlaw01_awake.f k).bind fun t634 => (some t634)) else (none)) else (none)) else (none)) else (none)) else (none)) else (none)) else (none)) else (none)))))))))) = some r := h
  clear h
  replace H := Option.bind_eq_some_iff.mp H
  obtain ⟨⟨t614, t615⟩, A40, H⟩ := H
  replace H : ((fleuronref01_Floor.f k a0_0 a0_1).bind fun bt616 => ((num_Cmp.f k a0_0 a0_1 a1_0 a1_1).bind fun bt618 => ((fleuronref01_Cmp.f k a0_0 a0_1 a1_0 a1_1).bind fun bt620 => ((num_Fixed.f k a0_0 a0_1).bind fun bt622 => ((fleuronref01_Fixed.f k a0_0 a0_1).bind fun bt624 => ((num_FromFixed.f k a2).bind fun bt626 => ((fleuronref01_FromFixed.f k a2).bind fun bt630 => (if t614 = bt616.1 then (if t615 = bt616.2 then (if bt618.1 = bt620.1 then (if bt618.2 = bt620.2 then (if bt622.1 = bt624.1 then (if bt622.2 = bt624.2 then (if (bt626.1 == bt630.1 && (bt626.2.1 == bt630.2.1)) = true then (if bt626.2.2 = bt630.2.2 then ((fleuronlaw01_awake.f k).bind fun t634 => (some t634)) else (none)) else (none)) else (none)) else (none)) else (none)) else (none)) else (none)) else (none))))))))) = some r := H
  have A4 := Fa.mk A40
  clear A40
  replace H := Option.bind_eq_some_iff.mp H
  obtain ⟨⟨t616, t617⟩, A50, H⟩ := H
  replace H : ((num_Cmp.f k a0_0 a0_1 a1_0 a1_1).bind fun bt618 => ((fleuronref01_Cmp.f k a0_0 a0_1 a1_0 a1_1).bind fun bt620 => ((num_Fixed.f k a0_0 a0_1).bind fun bt622 => ((fleuronref01_Fixed.f k a0_0 a0_1).bind fun bt624 => ((num_FromFixed.f k a2).bind fun bt626 => ((fleuronref01_FromFixed.f k a2).bind fun bt630 => (if t614 = t616 then (if t615 = t617 then (if bt618.1 = bt620.1 then (if bt618.2 = bt620.2 then (if bt622.1 = bt624.1 then (if bt622.2 = bt624.2 then (if (bt626.1 == bt630.1 && (bt626.2.1 == bt630.2.1)) = true then (if bt626.2.2 = bt630.2.2 then ((fleuronlaw01_awake.f k).bind fun t634 => (some t634)) else (none)) else (none)) else (none)) else (none)) else (none)) else (none)) else (none)) else (none)))))))) = some r := H
  have A5 := Fa.mk A50
  clear A50
  replace H := Option.bind_eq_some_iff.mp H
  obtain ⟨⟨t618, t619⟩, A60, H⟩ := H
  replace H : ((fleuronref01_Cmp.f k a0_0 a0_1 a1_0 a1_1).bind fun bt620 => ((num_Fixed.f k a0_0 a0_1).bind fun bt622 => ((fleuronref01_Fixed.f k a0_0 a0_1).bind fun bt624 => ((num_FromFixed.f k a2).bind fun bt626 => ((fleuronref01_FromFixed.f k a2).bind fun bt630 => (if t614 = t616 then (if t615 = t617 then (if t618 = bt620.1 then (if t619 = bt620.2 then (if bt622.1 = bt624.1 then (if bt622.2 = bt624.2 then (if (bt626.1 == bt630.1 && (bt626.2.1 == bt630.2.1)) = true then (if bt626.2.2 = bt630.2.2 then ((fleuronlaw01_awake.f k).bind fun t634 => (some t634)) else (none)) else (none)) else (none)) else (none)) else (none)) else (none)) else (none)) else (none))))))) = some r := H
  have A6 := Fa.mk A60
  clear A60
  replace H := Option.bind_eq_some_iff.mp H
  obtain ⟨⟨t620, t621⟩, A70, H⟩ := H
  replace H : ((num_Fixed.f k a0_0 a0_1).bind fun bt622 => ((fleuronref01_Fixed.f k a0_0 a0_1).bind fun bt624 => ((num_FromFixed.f k a2).bind fun bt626 => ((fleuronref01_FromFixed.f k a2).bind fun bt630 => (if t614 = t616 then (if t615 = t617 then (if t618 = t620 then (if t619 = t621 then (if bt622.1 = bt624.1 then (if bt622.2 = bt624.2 then (if (bt626.1 == bt630.1 && (bt626.2.1 == bt630.2.1)) = true then (if bt626.2.2 = bt630.2.2 then ((fleuronlaw01_awake.f k).bind fun t634 => (some t634)) else (none)) else (none)) else (none)) else (none)) else (none)) else (none)) else (none)) else (none)))))) = some r := H
  have A7 := Fa.mk A70
  clear A70
  replace H := Option.bind_eq_some_iff.mp H
  obtain ⟨⟨t622, t623⟩, A80, H⟩ := H
  replace H : ((fleuronref01_Fixed.f k a0_0 a0_1).bind fun bt624 => ((num_FromFixed.f k a2).bind fun bt626 => ((fleuronref01_FromFixed.f k a2).bind fun bt630 => (if t614 = t616 then (if t615 = t617 then (if t618 = t620 then (if t619 = t621 then (if t622 = bt624.1 then (if t623 = bt624.2 then (if (bt626.1 == bt630.1 && (bt626.2.1 == bt630.2.1)) = true then (if bt626.2.2 = bt630.2.2 then ((fleuronlaw01_awake.f k).bind fun t634 => (some t634)) else (none)) else (none)) else (none)) else (none)) else (none)) else (none)) else (none)) else (none))))) = some r := H
  have A8 := Fa.mk A80
  clear A80
  replace H := Option.bind_eq_some_iff.mp H
  obtain ⟨⟨t624, t625⟩, A90, H⟩ := H
  replace H : ((num_FromFixed.f k a2).bind fun bt626 => ((fleuronref01_FromFixed.f k a2).bind fun bt630 => (if t614 = t616 then (if t615 = t617 then (if t618 = t620 then (if t619 = t621 then (if t622 = t624 then (if t623 = t625 then (if (bt626.1 == bt630.1 && (bt626.2.1 == bt630.2.1)) = true then (if bt626.2.2 = bt630.2.2 then ((fleuronlaw01_awake.f k).bind fun t634 => (some t634)) else (none)) else (none)) else (none)) else (none)) else (none)) else (none)) else (none)) else (none)))) = some r := H
  have A9 := Fa.mk A90
  clear A90
  replace H := Option.bind_eq_some_iff.mp H
  obtain ⟨⟨t626, t627, t628⟩, A100, H⟩ := H
  replace H : ((fleuronref01_FromFixed.f k a2).bind fun bt630 => (if t614 = t616 then (if t615 = t617 then (if t618 = t620 then (if t619 = t621 then (if t622 = t624 then (if t623 = t625 then (if (t626 == bt630.1 && (t627 == bt630.2.1)) = true then (if t628 = bt630.2.2 then ((fleuronlaw01_awake.f k).bind fun t634 => (some t634)) else (none)) else (none)) else (none)) else (none)) else (none)) else (none)) else (none)) else (none))) = some r := H
  have A10 := Fa.mk A100
  clear A100
  replace H := Option.bind_eq_some_iff.mp H
  obtain ⟨⟨t630, t631, t632⟩, A110, H⟩ := H
  replace H : (if t614 = t616 then (if t615 = t617 then (if t618 = t620 then (if t619 = t621 then (if t622 = t624 then (if t623 = t625 then (if (t626 == t630 && (t627 == t631)) = true then (if t628 = t632 then ((fleuronlaw01_awake.f k).bind fun t634 => (some t634)) else (none)) else (none)) else (none)) else (none)) else (none)) else (none)) else (none)) else (none)) = some r := H
  have A11 := Fa.mk A110
  clear A110
  by_cases c12 : t614 = t616
  · rw [if_pos c12] at H
    have c12b0 : (t614 == t616) = true := beq_iff_eq.mpr c12
    have c12b1 : (t614 != t616) = false := bne_eq_false_iff_eq.mpr c12
    clear c12
    by_cases c13 : t615 = t617
    · rw [if_pos c13] at H
      have c13b0 : (t615 == t617) = true := beq_iff_eq.mpr c13
      have c13b1 : (t615 != t617) = false := bne_eq_false_iff_eq.mpr c13
      clear c13
      by_cases c14 : t618 = t620
      · rw [if_pos c14] at H
        have c14b0 : (t618 == t620) = true := beq_iff_eq.mpr c14
        have c14b1 : (t618 != t620) = false := bne_eq_false_iff_eq.mpr c14
        clear c14
        by_cases c15 : t619 = t621
        · rw [if_pos c15] at H
          have c15b0 : (t619 == t621) = true := beq_iff_eq.mpr c15
          have c15b1 : (t619 != t621) = false := bne_eq_false_iff_eq.mpr c15
          clear c15
          by_cases c16 : t622 = t624
          · rw [if_pos c16] at H
            have c16b0 : (t622 == t624) = true := beq_iff_eq.mpr c16
            have c16b1 : (t622 != t624) = false := bne_eq_false_iff_eq.mpr c16
            clear c16
            by_cases c17 : t623 = t625
            · rw [if_pos c17] at H
              have c17b0 : (t623 == t625) = true := beq_iff_eq.mpr c17
              have c17b1 : (t623 != t625) = false := bne_eq_false_iff_eq.mpr c17
              clear c17
              by_cases c18 : (t626 == t630 && (t627 == t631)) = true
              · rw [if_pos c18] at H
                have c18b0 : (t626 == t630 && (t627 == t631)) = true := c18
                (try (have c18b1 : decide (t626 = t630 && (t627 == t631)) = true := by simpa using c18))
                (try (have c18b2 : (t626 == t630 && (t627 == t631)) = true := by simpa using c18))
                clear c18
                by_cases c19 : t628 = t632
                · rw [if_pos c19] at H
                  have c19b0 : (t628 == t632) = true := beq_iff_eq.mpr c19
                  have c19b1 : (t628 != t632) = false := bne_eq_false_iff_eq.mpr c19
                  clear c19
                  replace H := Option.bind_eq_some_iff.mp H
                  obtain ⟨t634, A200, H⟩ := H
                  replace H : (some t634) = some r := H
                  have A20 := Fa.mk A200
                  clear A200
                  obtain rfl := Option.some.inj H
                  go_enter Tryd.func11, Tryd.ntmps11
                  go_wp2_with (first | ((with_reducible refine gate_dst (N := 3) rfl ?_); refine boxF (N := 3) (cs := #[.int .i64 a0_0, .int .i64 a0_1]) (t := 23) ?_; intro gb612 hg w21 hbox hb; have n0_ := Fa.mk (bst w hb); have n1_ := Fa.mk (hbox); have n2_ := Fa.mk (gle hg : w.heap.size ≤ gb612); have n3_ := n2_; clear HB; have HB := n0_; have BK612 := n1_; have GW612 := n2_; have GE612 := n3_; clear n0_ n1_ n2_ n3_; clear hb hbox hg) | ((with_reducible refine gate_dst (N := 4) rfl ?_); refine boxF (N := 4) (cs := #[.int .i64 a1_0, .int .i64 a1_1]) (t := 23) ?_; intro gb613 hg w22 hbox hb; have n0_ := Fa.mk (blk_below (g := gb612) (o := .cells #[.int .i64 a0_0, .int .i64 a0_1] 23 (0, 0)) fa hb); have n1_ := Fa.mk (bst w hb); have n2_ := Fa.mk (hbox); have n3_ := Fa.mk (gle hg : w.heap.size ≤ gb613); have n4_ := n3_; have n5_ := Fa.mk (gne (o := .cells #[.int .i64 a0_0, .int .i64 a0_1] 23 (0, 0)) hg : gb612 ≠ gb613); have n6_ := Fa.mk n5_.out.symm; clear BK612; clear HB; have BK612 := n0_; have HB := n1_; have BK613 := n2_; have GW613 := n3_; have GE613 := n4_; have NB612_613 := n5_; have NB613_612 := n6_; clear n0_ n1_ n2_ n3_ n4_ n5_ n6_; clear hb hbox hg; have hnb23 := NB612_613.out; have hnc23 := NB613_612.out; have hcz24_0 : w22.cell? ⟨gb612, 0, none⟩ = some (.int .i64 a0_0) := (blk_cell BK612.out 0).trans rfl; have hcz24_1 : w22.cell? ⟨gb612, 1, none⟩ = some (.int .i64 a0_1) := (blk_cell BK612.out 1).trans rfl; have hfz24_0 := blk_frozen BK612.out 0; have hfz24_1 := blk_frozen BK612.out 1) | ((with_reducible refine gate_callee (f := 39) rfl ?_); refine goesA (some 25) rfl rfl Tryd.func39 (by kernel_rfl) rfl #[.agg #[.int .i64 a0_0, .int .i64 a0_1]] rfl ?_; (with_reducible refine (num_Floor.calls k a0_0 a0_1 t614 t615 _ A4.out).mono ?_); rintro e w25 ⟨rfl, hb⟩; refine ⟨_, rfl, ?_⟩; have n0_ := Fa.mk (blk_below (g := gb612) (o := .cells #[.int .i64 a0_0, .int .i64 a0_1] 23 (0, 0)) fa hb); have n1_ := Fa.mk (blk_below (g := gb613) (o := .cells #[.int .i64 a1_0, .int .i64 a1_1] 23 (0, 0)) fa hb); have n2_ := Fa.mk (bst w hb); clear BK612; clear BK613; clear HB; have BK612 := n0_; have BK613 := n1_; have HB := n2_; clear n0_ n1_ n2_; (try clear hb); (try clear hb2); (try clear hk); (try clear hi); have hcz26_0 : w25.cell? ⟨gb612, 0, none⟩ = some (.int .i64 a0_0) := (blk_cell BK612.out 0).trans rfl; have hcz26_1 : w25.cell? ⟨gb612, 1, none⟩ = some (.int .i64 a0_1) := (blk_cell BK612.out 1).trans rfl; have hfz26_0 := blk_frozen BK612.out 0; have hfz26_1 := blk_frozen BK612.out 1) | ((with_reducible refine gate_callee (f := 41) rfl ?_); refine goesA (some 30) rfl rfl Tryd.func41 (by kernel_rfl) rfl #[.agg #[.int .i64 a0_0, .int .i64 a0_1]] rfl ?_; (with_reducible refine (fleuronref01_Floor.calls k a0_0 a0_1 t616 t617 _ A5.out).mono ?_); rintro e w27 ⟨rfl, hb⟩; refine ⟨_, rfl, ?_⟩; have n0_ := Fa.mk (blk_below (g := gb612) (o := .cells #[.int .i64 a0_0, .int .i64 a0_1] 23 (0, 0)) fa hb); have n1_ := Fa.mk (blk_below (g := gb613) (o := .cells #[.int .i64 a1_0, .int .i64 a1_1] 23 (0, 0)) fa hb); have n2_ := Fa.mk (bst w hb); clear BK612; clear BK613; clear HB; have BK612 := n0_; have BK613 := n1_; have HB := n2_; clear n0_ n1_ n2_; (try clear hb); (try clear hb2); (try clear hk); (try clear hi); have hcz28_0 : w27.cell? ⟨gb612, 0, none⟩ = some (.int .i64 a0_0) := (blk_cell BK612.out 0).trans rfl; have hcz28_1 : w27.cell? ⟨gb612, 1, none⟩ = some (.int .i64 a0_1) := (blk_cell BK612.out 1).trans rfl; have hfz28_0 := blk_frozen BK612.out 0; have hfz28_1 := blk_frozen BK612.out 1; have hcz29_0 : w27.cell? ⟨gb613, 0, none⟩ = some (.int .i64 a1_0) := (blk_cell BK613.out 0).trans rfl; have hcz29_1 : w27.cell? ⟨gb613, 1, none⟩ = some (.int .i64 a1_1) := (blk_cell BK613.out 1).trans rfl; have hfz29_0 := blk_frozen BK613.out 0; have hfz29_1 := blk_frozen BK613.out 1) | ((with_reducible refine gate_callee (f := 38) rfl ?_); refine goesA (some 36) rfl rfl Tryd.func38 (by kernel_rfl) rfl #[.agg #[.int .i64 a0_0, .int .i64 a0_1], .agg #[.int .i64 a1_0, .int .i64 a1_1]] rfl ?_; (with_reducible refine (num_Cmp.calls k a0_0 a0_1 a1_0 a1_1 t618 t619 _ A6.out).mono ?_); rintro e w30 ⟨rfl, hb⟩; refine ⟨_, rfl, ?_⟩; have n0_ := Fa.mk (blk_below (g := gb612) (o := .cells #[.int .i64 a0_0, .int .i64 a0_1] 23 (0, 0)) fa hb); have n1_ := Fa.mk (blk_below (g := gb613) (o := .cells #[.int .i64 a1_0, .int .i64 a1_1] 23 (0, 0)) fa hb); have n2_ := Fa.mk (bst w hb); clear BK612; clear BK613; clear HB; have BK612 := n0_; have BK613 := n1_; have HB := n2_; clear n0_ n1_ n2_; (try clear hb); (try clear hb2); (try clear hk); (try clear hi); have hcz31_0 : w30.cell? ⟨gb612, 0, none⟩ = some (.int .i64 a0_0) := (blk_cell BK612.out 0).trans rfl; have hcz31_1 : w30.cell? ⟨gb612, 1, none⟩ = some (.int .i64 a0_1) := (blk_cell BK612.out 1).trans rfl; have hfz31_0 := blk_frozen BK612.out 0; have hfz31_1 := blk_frozen BK612.out 1; have hcz32_0 : w30.cell? ⟨gb613, 0, none⟩ = some (.int .i64 a1_0) := (blk_cell BK613.out 0).trans rfl; have hcz32_1 : w30.cell? ⟨gb613, 1, none⟩ = some (.int .i64 a1_1) := (blk_cell BK613.out 1).trans rfl; have hfz32_0 := blk_frozen BK613.out 0; have hfz32_1 := blk_frozen BK613.out 1) | ((with_reducible refine gate_callee (f := 42) rfl ?_); refine goesA (some 42) rfl rfl Tryd.func42 (by kernel_rfl) rfl #[.agg #[.int .i64 a0_0, .int .i64 a0_1], .agg #[.int .i64 a1_0, .int .i64 a1_1]] rfl ?_; (with_reducible refine (fleuronref01_Cmp.calls k a0_0 a0_1 a1_0 a1_1 t620 t621 _ A7.out).mono ?_); rintro e w33 ⟨rfl, hb⟩; refine ⟨_, rfl, ?_⟩; have n0_ := Fa.mk (blk_below (g := gb612) (o := .cells #[.int .i64 a0_0, .int .i64 a0_1] 23 (0, 0)) fa hb); have n1_ := Fa.mk (blk_below (g := gb613) (o := .cells #[.int .i64 a1_0, .int .i64 a1_1] 23 (0, 0)) fa hb); have n2_ := Fa.mk (bst w hb); clear BK612; clear BK613; clear HB; have BK612 := n0_; have BK613 := n1_; have HB := n2_; clear n0_ n1_ n2_; (try clear hb); (try clear hb2); (try clear hk); (try clear hi); have hcz34_0 : w33.cell? ⟨gb612, 0, none⟩ = some (.int .i64 a0_0) := (blk_cell BK612.out 0).trans rfl; have hcz34_1 : w33.cell? ⟨gb612, 1, none⟩ = some (.int .i64 a0_1) := (blk_cell BK612.out 1).trans rfl; have hfz34_0 := blk_frozen BK612.out 0; have hfz34_1 := blk_frozen BK612.out 1) | ((with_reducible refine gate_callee (f := 21) rfl ?_); refine goesA (some 47) rfl rfl Tryd.func21 (by kernel_rfl) rfl #[.agg #[.int .i64 a0_0, .int .i64 a0_1]] rfl ?_; (with_reducible refine (num_Fixed.calls k a0_0 a0_1 t622 t623 _ A8.out).mono ?_); rintro e w35 ⟨rfl, hb⟩; refine ⟨_, rfl, ?_⟩; have n0_ := Fa.mk (blk_below (g := gb612) (o := .cells #[.int .i64 a0_0, .int .i64 a0_1] 23 (0, 0)) fa hb); have n1_ := Fa.mk (blk_below (g := gb613) (o := .cells #[.int .i64 a1_0, .int .i64 a1_1] 23 (0, 0)) fa hb); have n2_ := Fa.mk (bst w hb); clear BK612; clear BK613; clear HB; have BK612 := n0_; have BK613 := n1_; have HB := n2_; clear n0_ n1_ n2_; (try clear hb); (try clear hb2); (try clear hk); (try clear hi); have hcz36_0 : w35.cell? ⟨gb612, 0, none⟩ = some (.int .i64 a0_0) := (blk_cell BK612.out 0).trans rfl; have hcz36_1 : w35.cell? ⟨gb612, 1, none⟩ = some (.int .i64 a0_1) := (blk_cell BK612.out 1).trans rfl; have hfz36_0 := blk_frozen BK612.out 0; have hfz36_1 := blk_frozen BK612.out 1) | ((with_reducible refine gate_callee (f := 43) rfl ?_); refine goesA (some 52) rfl rfl Tryd.func43 (by kernel_rfl) rfl #[.agg #[.int .i64 a0_0, .int .i64 a0_1]] rfl ?_; (with_reducible refine (fleuronref01_Fixed.calls k a0_0 a0_1 t624 t625 _ A9.out).mono ?_); rintro e w37 ⟨rfl, hb⟩; refine ⟨_, rfl, ?_⟩; have n0_ := Fa.mk (blk_below (g := gb612) (o := .cells #[.int .i64 a0_0, .int .i64 a0_1] 23 (0, 0)) fa hb); have n1_ := Fa.mk (blk_below (g := gb613) (o := .cells #[.int .i64 a1_0, .int .i64 a1_1] 23 (0, 0)) fa hb); have n2_ := Fa.mk (bst w hb); clear BK612; clear BK613; clear HB; have BK612 := n0_; have BK613 := n1_; have HB := n2_; clear n0_ n1_ n2_; (try clear hb); (try clear hb2); (try clear hk); (try clear hi)) | ((with_reducible refine gate_callee (f := 20) rfl ?_); refine goesA (some 57) rfl rfl Tryd.func20 (by kernel_rfl) rfl #[.int .i64 a2] rfl ?_; (with_reducible refine (num_FromFixed.calls k a2 t626 t627 t628 _ A10.out).mono ?_); rintro e w38 ⟨rfl, hb⟩; refine ⟨_, rfl, ?_⟩; have n0_ := Fa.mk (blk_below (g := gb612) (o := .cells #[.int .i64 a0_0, .int .i64 a0_1] 23 (0, 0)) fa hb); have n1_ := Fa.mk (blk_below (g := gb613) (o := .cells #[.int .i64 a1_0, .int .i64 a1_1] 23 (0, 0)) fa hb); have n2_ := Fa.mk (bst w hb); clear BK612; clear BK613; clear HB; have BK612 := n0_; have BK613 := n1_; have HB := n2_; clear n0_ n1_ n2_; (try clear hb); (try clear hb2); (try clear hk); (try clear hi)) | ((with_reducible refine gate_dst (N := 19) rfl ?_); refine boxF (N := 19) (cs := #[.int .i64 0, .int .i64 0]) (t := 23) ?_; intro gb629 hg w39 hbox hb; have n0_ := Fa.mk (blk_below (g := gb612) (o := .cells #[.int .i64 a0_0, .int .i64 a0_1] 23 (0, 0)) fa hb); have n1_ := Fa.mk (blk_below (g := gb613) (o := .cells #[.int .i64 a1_0, .int .i64 a1_1] 23 (0, 0)) fa hb); have n2_ := Fa.mk (bst w hb); have n3_ := Fa.mk (hbox); have n4_ := Fa.mk (gle hg : w.heap.size ≤ gb629); have n5_ := n4_; have n6_ := Fa.mk (gne (o := .cells #[.int .i64 a0_0, .int .i64 a0_1] 23 (0, 0)) hg : gb612 ≠ gb629); have n7_ := Fa.mk n6_.out.symm; have n8_ := Fa.mk (gne (o := .cells #[.int .i64 a1_0, .int .i64 a1_1] 23 (0, 0)) hg : gb613 ≠ gb629); have n9_ := Fa.mk n8_.out.symm; clear BK612; clear BK613; clear HB; have BK612 := n0_; have BK613 := n1_; have HB := n2_; have BK629 := n3_; have GW629 := n4_; have GE629 := n5_; have NB612_629 := n6_; have NB629_612 := n7_; have NB613_629 := n8_; have NB629_613 := n9_; clear n0_ n1_ n2_ n3_ n4_ n5_ n6_ n7_ n8_ n9_; clear hb hbox hg; have hnb40 := NB629_612.out; have hnc40 := NB612_629.out; have hnb41 := NB629_613.out; have hnc41 := NB613_629.out; have hcz42_0 : w39.cell? ⟨gb629, 0, none⟩ = some (.int .i64 0) := (blk_cell BK629.out 0).trans rfl; have hcz42_1 : w39.cell? ⟨gb629, 1, none⟩ = some (.int .i64 0) := (blk_cell BK629.out 1).trans rfl; have hfz42_0 := blk_frozen BK629.out 0; have hfz42_1 := blk_frozen BK629.out 1) | ((with_reducible refine gate_callee (f := 44) rfl ?_); refine goesA (some 62) rfl rfl Tryd.func44 (by kernel_rfl) rfl #[.int .i64 a2] rfl ?_; (with_reducible refine (fleuronref01_FromFixed.calls k a2 t630 t631 t632 _ A11.out).mono ?_); rintro e w43 ⟨rfl, hb⟩; refine ⟨_, rfl, ?_⟩; have n0_ := Fa.mk (blk_below (g := gb612) (o := .cells #[.int .i64 a0_0, .int .i64 a0_1] 23 (0, 0)) (by (with_reducible repeat (first | refine blk_drewN ?_ _ | refine blk_drew ?_ | refine blk_alloc ?_ _)); refine blk_far ?_ NB612_629.out _; (with_reducible repeat (first | refine blk_drewN ?_ _ | refine blk_drew ?_ | refine blk_alloc ?_ _)); refine blk_far ?_ NB612_629.out _; (with_reducible repeat (first | refine blk_drewN ?_ _ | refine blk_drew ?_ | refine blk_alloc ?_ _)); exact BK612.out) hb); have n1_ := Fa.mk (blk_below (g := gb613) (o := .cells #[.int .i64 a1_0, .int .i64 a1_1] 23 (0, 0)) (by (with_reducible repeat (first | refine blk_drewN ?_ _ | refine blk_drew ?_ | refine blk_alloc ?_ _)); refine blk_far ?_ NB613_629.out _; (with_reducible repeat (first | refine blk_drewN ?_ _ | refine blk_drew ?_ | refine blk_alloc ?_ _)); refine blk_far ?_ NB613_629.out _; (with_reducible repeat (first | refine blk_drewN ?_ _ | refine blk_drew ?_ | refine blk_alloc ?_ _)); exact BK613.out) hb); have n2_ := Fa.mk (blk_below (g := gb629) (o := .cells #[.int .i64 t626, .int .i64 t627] 23 (0, 0)) (by (with_reducible repeat (first | refine blk_drewN ?_ _ | refine blk_drew ?_ | refine blk_alloc ?_ _)); refine blk_put (cs := #[.int .i64 t626, .int .i64 0]) ?_ 1 _ rfl; (with_reducible repeat (first | refine blk_drewN ?_ _ | refine blk_drew ?_ | refine blk_alloc ?_ _)); refine blk_put (cs := #[.int .i64 0, .int .i64 0]) ?_ 0 _ rfl; (with_reducible repeat (first | refine blk_drewN ?_ _ | refine blk_drew ?_ | refine blk_alloc ?_ _)); exact BK629.out) hb); have n3_ := Fa.mk (bst w hb); clear BK612; clear BK613; clear BK629; clear HB; have BK612 := n0_; have BK613 := n1_; have BK629 := n2_; have HB := n3_; clear n0_ n1_ n2_ n3_; (try clear hb); (try clear hb2); (try clear hk); (try clear hi)) | ((with_reducible refine gate_dst (N := 21) rfl ?_); refine boxF (N := 21) (cs := #[.int .i64 0, .int .i64 0]) (t := 23) ?_; intro gb633 hg w44 hbox hb; have n0_ := Fa.mk (blk_below (g := gb612) (o := .cells #[.int .i64 a0_0, .int .i64 a0_1] 23 (0, 0)) fa hb); have n1_ := Fa.mk (blk_below (g := gb613) (o := .cells #[.int .i64 a1_0, .int .i64 a1_1] 23 (0, 0)) fa hb); have n2_ := Fa.mk (blk_below (g := gb629) (o := .cells #[.int .i64 t626, .int .i64 t627] 23 (0, 0)) fa hb); have n3_ := Fa.mk (bst w hb); have n4_ := Fa.mk (hbox); have n5_ := Fa.mk (gle hg : w.heap.size ≤ gb633); have n6_ := n5_; have n7_ := Fa.mk (gne (o := .cells #[.int .i64 a0_0, .int .i64 a0_1] 23 (0, 0)) hg : gb612 ≠ gb633); have n8_ := Fa.mk n7_.out.symm; have n9_ := Fa.mk (gne (o := .cells #[.int .i64 a1_0, .int .i64 a1_1] 23 (0, 0)) hg : gb613 ≠ gb633); have n10_ := Fa.mk n9_.out.symm; have n11_ := Fa.mk (gne (o := .cells #[.int .i64 t626, .int .i64 t627] 23 (0, 0)) hg : gb629 ≠ gb633); have n12_ := Fa.mk n11_.out.symm; clear BK612; clear BK613; clear BK629; clear HB; have BK612 := n0_; have BK613 := n1_; have BK629 := n2_; have HB := n3_; have BK633 := n4_; have GW633 := n5_; have GE633 := n6_; have NB612_633 := n7_; have NB633_612 := n8_; have NB613_633 := n9_; have NB633_613 := n10_; have NB629_633 := n11_; have NB633_629 := n12_; clear n0_ n1_ n2_ n3_ n4_ n5_ n6_ n7_ n8_ n9_ n10_ n11_ n12_; clear hb hbox hg; have hnb45 := NB633_612.out; have hnc45 := NB612_633.out; have hnb46 := NB633_613.out; have hnc46 := NB613_633.out; have hnb47 := NB633_629.out; have hnc47 := NB629_633.out; have hcz48_0 : w44.cell? ⟨gb633, 0, none⟩ = some (.int .i64 0) := (blk_cell BK633.out 0).trans rfl; have hcz48_1 : w44.cell? ⟨gb633, 1, none⟩ = some (.int .i64 0) := (blk_cell BK633.out 1).trans rfl; have hfz48_0 := blk_frozen BK633.out 0; have hfz48_1 := blk_frozen BK633.out 1; have hcz49_0 : w44.cell? ⟨gb629, 0, none⟩ = some (.int .i64 t626) := (blk_cell BK629.out 0).trans rfl; have hcz49_1 : w44.cell? ⟨gb629, 1, none⟩ = some (.int .i64 t627) := (blk_cell BK629.out 1).trans rfl; have hfz49_0 := blk_frozen BK629.out 0; have hfz49_1 := blk_frozen BK629.out 1) | (go_at_call 17; (with_reducible refine (fleuronlaw01_awake.calls k  t634 _ A20.out (HG.out.below fa)).mono ?_); rintro e w50 ⟨rfl, hb⟩; have n0_ := Fa.mk (blk_below (g := gb612) (o := .cells #[.int .i64 a0_0, .int .i64 a0_1] 23 (0, 0)) (by (with_reducible repeat (first | refine blk_drewN ?_ _ | refine blk_drew ?_ | refine blk_alloc ?_ _)); refine blk_far ?_ NB612_633.out _; (with_reducible repeat (first | refine blk_drewN ?_ _ | refine blk_drew ?_ | refine blk_alloc ?_ _)); refine blk_far ?_ NB612_633.out _; (with_reducible repeat (first | refine blk_drewN ?_ _ | refine blk_drew ?_ | refine blk_alloc ?_ _)); exact BK612.out) hb); have n1_ := Fa.mk (blk_below (g := gb613) (o := .cells #[.int .i64 a1_0, .int .i64 a1_1] 23 (0, 0)) (by (with_reducible repeat (first | refine blk_drewN ?_ _ | refine blk_drew ?_ | refine blk_alloc ?_ _)); refine blk_far ?_ NB613_633.out _; (with_reducible repeat (first | refine blk_drewN ?_ _ | refine blk_drew ?_ | refine blk_alloc ?_ _)); refine blk_far ?_ NB613_633.out _; (with_reducible repeat (first | refine blk_drewN ?_ _ | refine blk_drew ?_ | refine blk_alloc ?_ _)); exact BK613.out) hb); have n2_ := Fa.mk (blk_below (g := gb629) (o := .cells #[.int .i64 t626, .int .i64 t627] 23 (0, 0)) (by (with_reducible repeat (first | refine blk_drewN ?_ _ | refine blk_drew ?_ | refine blk_alloc ?_ _)); refine blk_far ?_ NB629_633.out _; (with_reducible repeat (first | refine blk_drewN ?_ _ | refine blk_drew ?_ | refine blk_alloc ?_ _)); refine blk_far ?_ NB629_633.out _; (with_reducible repeat (first | refine blk_drewN ?_ _ | refine blk_drew ?_ | refine blk_alloc ?_ _)); exact BK629.out) hb); have n3_ := Fa.mk (blk_below (g := gb633) (o := .cells #[.int .i64 t630, .int .i64 t631] 23 (0, 0)) (by (with_reducible repeat (first | refine blk_drewN ?_ _ | refine blk_drew ?_ | refine blk_alloc ?_ _)); refine blk_put (cs := #[.int .i64 t630, .int .i64 0]) ?_ 1 _ rfl; (with_reducible repeat (first | refine blk_drewN ?_ _ | refine blk_drew ?_ | refine blk_alloc ?_ _)); refine blk_put (cs := #[.int .i64 0, .int .i64 0]) ?_ 0 _ rfl; (with_reducible repeat (first | refine blk_drewN ?_ _ | refine blk_drew ?_ | refine blk_alloc ?_ _)); exact BK633.out) hb); have n4_ := Fa.mk (bst w hb); clear BK612; clear BK613; clear BK629; clear BK633; clear HB; have BK612 := n0_; have BK613 := n1_; have BK629 := n2_; have BK633 := n3_; have HB := n4_; clear n0_ n1_ n2_ n3_ n4_; (try clear hb); (try clear hb2); (try clear hk); (try clear hi)))
                  go_ret
                  exact ⟨by first | rfl | (simp [errW_none, errW_some] <;> rfl) | (simp [*, errW_none, errW_some] <;> rfl), fa⟩
                · rw [if_neg c19] at H
                  exact absurd H (by simp)
              · rw [if_neg c18] at H
                exact absurd H (by simp)
            · rw [if_neg c17] at H
              exact absurd H (by simp)
          · rw [if_neg c16] at H
            exact absurd H (by simp)
        · rw [if_neg c15] at H
          exact absurd H (by simp)
      · rw [if_neg c14] at H
        exact absurd H (by simp)
    · rw [if_neg c13] at H
      exact absurd H (by simp)
  · rw [if_neg c12] at H
    exact absurd H (by simp)

end Go.Proofs.YtndbdnkpnjibkaaDoor.P
