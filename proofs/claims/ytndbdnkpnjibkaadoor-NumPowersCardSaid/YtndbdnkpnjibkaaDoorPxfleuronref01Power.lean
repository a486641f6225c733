-- PRINTED by print.py (a twelfth state) out of the translation. Not trusted: Lean checks it.
import Derived.Test.YtndbdnkpnjibkaaDoorPx0
import Derived.Test.YtndbdnkpnjibkaaDoorPxEq1
import Derived.Test.YtndbdnkpnjibkaaDoorPxrationalsize
import Derived.Test.YtndbdnkpnjibkaaDoorPxnumDecimal
import Derived.Test.YtndbdnkpnjibkaaDoorPxfleuronlaw01awake
import Derived.Test.YtndbdnkpnjibkaaDoorPxfleuronref01lowest
import Derived.Test.YtndbdnkpnjibkaaDoorPxfleuronref01Mul
import Derived.Test.YtndbdnkpnjibkaaDoorPxfleuronref01Mod
namespace Go.Proofs.YtndbdnkpnjibkaaDoor.P
open Go.RowKit Go.Proofs.YtndbdnkpnjibkaaDoorW.PrintWords Go.Proofs.YtndbdnkpnjibkaaDoorW.PrintLast Go.Proofs.YtndbdnkpnjibkaaDoorW.PrintMore
attribute [local go_sem] max2_int min2_int max_two min_two max_three min_three max_four min_four   -- for this text's walks alone
set_option linter.unusedVariables false
set_option linter.unusedSimpArgs false

attribute [local go_sem high] eqA23
/-! ### fleuronref01_Power: function 47 -/
mutual
def fleuronref01_Power.j0 : Nat → Int → Bool → Int → Int → Option (Int × Int × Int)
  | 0, _, _, _, _ => none
  | k + 1, x1, x20, x660000, x660001 => if x20 = true then (some (0, 0, 2)) else (if x660000 = 0 then (fleuronref01_Power.j1 k x1 (decide (x1 < 0)) x660000 x660001) else (fleuronref01_Power.j1 k x1 false x660000 x660001))
def fleuronref01_Power.j1 : Nat → Int → Bool → Int → Int → Option (Int × Int × Int)
  | 0, _, _, _, _ => none
  | k + 1, x1, x28, x660000, x660001 => if x28 = true then (some (0, 0, 18)) else (if x1 < 0 then ((fleuronref01_Make.f k x660001 x660000).bind fun bt662 => (fleuronref01_Power.j2 k (wrap64 (-x1)) bt662.1 bt662.2.1)) else (fleuronref01_Power.j2 k x1 x660000 x660001))
def fleuronref01_Power.j2 : Nat → Int → Int → Int → Option (Int × Int × Int)
  | 0, _, _, _ => none
  | k + 1, x1, x660000, x660001 => fleuronref01_Power.l0 k x1 0 x660000 x660001 1 1
def fleuronref01_Power.l0 : Nat → Int → Int → Int → Int → Int → Int → Option (Int × Int × Int)
  | 0, _, _, _, _, _, _ => none
  | k + 1, x1, x7, x660000, x660001, x666000, x666001 => if x7 < x1 then ((fleuronref01_Mul.f k x666000 x666001 x660000 x660001).bind fun bt666 => (if bt666.2.2 = 0 then (fleuronref01_Power.l0 k x1 (wrap64 (x7 + 1)) x660000 x660001 bt666.1 bt666.2.1) else (some (0, 0, bt666.2.2)))) else (some (x666000, x666001, 0))
end
def fleuronref01_Power.f (k : Nat) (a0_0 : Int) (a0_1 : Int) (a1 : Int) : Option (Int × Int × Int) := (fleuronref01_Valid.f k a0_0 a0_1).bind fun t661 => (if t661 = true then (if a1 < (-64) then (fleuronref01_Power.j0 k a1 true a0_0 a0_1) else (fleuronref01_Power.j0 k a1 (decide (a1 > 64)) a0_0 a0_1)) else (fleuronref01_Power.j0 k a1 true a0_0 a0_1))
theorem fleuronref01_Power.mono_l : ∀ k, (∀ y0 y1 y2 y3, LeO (fleuronref01_Power.j0 k y0 y1 y2 y3) (fleuronref01_Power.j0 (k + 1) y0 y1 y2 y3)) ∧ (∀ y0 y1 y2 y3, LeO (fleuronref01_Power.j1 k y0 y1 y2 y3) (fleuronref01_Power.j1 (k + 1) y0 y1 y2 y3)) ∧ (∀ y0 y1 y2, LeO (fleuronref01_Power.j2 k y0 y1 y2) (fleuronref01_Power.j2 (k + 1) y0 y1 y2)) ∧ (∀ y0 y1 y2 y3 y4 y5, LeO (fleuronref01_Power.l0 k y0 y1 y2 y3 y4 y5) (fleuronref01_Power.l0 (k + 1) y0 y1 y2 y3 y4 y5))
  | 0 => ⟨fun _ _ _ _ r h => by simp [fleuronref01_Power.j0] at h, fun _ _ _ _ r h => by simp [fleuronref01_Power.j1] at h, fun _ _ _ r h => by simp [fleuronref01_Power.j2] at h, fun _ _ _ _ _ _ r h => by simp [fleuronref01_Power.l0] at h⟩
  | k + 1 => by
    obtain ⟨ih0, ih1, ih2, ih3⟩ := fleuronref01_Power.mono_l k
    refine ⟨?_, ?_, ?_, ?_⟩
    · intro y0 y1 y2 y3
      unfold fleuronref01_Power.j0
      repeat' first
      | (with_reducible exact ih0 _ _ _ _)
      | (with_reducible exact ih1 _ _ _ _)
      | (with_reducible exact ih2 _ _ _)
      | (with_reducible exact ih3 _ _ _ _ _ _)
      | (with_reducible exact fleuronref01_Make.mono _ _ _)
      | (with_reducible exact fleuronref01_Mul.mono _ _ _ _ _)
      | (with_reducible exact fleuronref01_Valid.mono _ _ _)
      | (with_reducible exact LeO.refl _)
      | (with_reducible exact LeO.none _)
      | (with_reducible refine LeO.ite ?_ ?_)
      | (with_reducible refine LeO.bind ?_ (fun _ => ?_))
      | exact ih0 _ _ _ _
      | exact ih1 _ _ _ _
      | exact ih2 _ _ _
      | exact ih3 _ _ _ _ _ _
      | exact fleuronref01_Make.mono _ _ _
      | exact fleuronref01_Mul.mono _ _ _ _ _
      | exact fleuronref01_Valid.mono _ _ _
      | exact LeO.none _
      | refine LeO.ite ?_ ?_
      | refine LeO.bind ?_ (fun _ => ?_)
    · intro y0 y1 y2 y3
      unfold fleuronref01_Power.j1
      repeat' first
      | (with_reducible exact ih0 _ _ _ _)
      | (with_reducible exact ih1 _ _ _ _)
      | (with_reducible exact ih2 _ _ _)
      | (with_reducible exact ih3 _ _ _ _ _ _)
      | (with_reducible exact fleuronref01_Make.mono _ _ _)
      | (with_reducible exact fleuronref01_Mul.mono _ _ _ _ _)
      | (with_reducible exact fleuronref01_Valid.mono _ _ _)
      | (with_reducible exact LeO.refl _)
      | (with_reducible exact LeO.none _)
      | (with_reducible refine LeO.ite ?_ ?_)
      | (with_reducible refine LeO.bind ?_ (fun _ => ?_))
      | exact ih0 _ _ _ _
      | exact ih1 _ _ _ _
      | exact ih2 _ _ _
      | exact ih3 _ _ _ _ _ _
      | exact fleuronref01_Make.mono _ _ _
      | exact fleuronref01_Mul.mono _ _ _ _ _
      | exact fleuronref01_Valid.mono _ _ _
      | exact LeO.none _
      | refine LeO.ite ?_ ?_
      | refine LeO.bind ?_ (fun _ => ?_)
    · intro y0 y1 y2
      unfold fleuronref01_Power.j2
      repeat' first
      | (with_reducible exact ih0 _ _ _ _)
      | (with_reducible exact ih1 _ _ _ _)
      | (with_reducible exact ih2 _ _ _)
      | (with_reducible exact ih3 _ _ _ _ _ _)
      | (with_reducible exact fleuronref01_Make.mono _ _ _)
      | (with_reducible exact fleuronref01_Mul.mono _ _ _ _ _)
      | (with_reducible exact fleuronref01_Valid.mono _ _ _)
      | (with_reducible exact LeO.refl _)
      | (with_reducible exact LeO.none _)
      | (with_reducible refine LeO.ite ?_ ?_)
      | (with_reducible refine LeO.bind ?_ (fun _ => ?_))
      | exact ih0 _ _ _ _
      | exact ih1 _ _ _ _
      | exact ih2 _ _ _
      | exact ih3 _ _ _ _ _ _
      | exact fleuronref01_Make.mono _ _ _
      | exact fleuronref01_Mul.mono _ _ _ _ _
      | exact fleuronref01_Valid.mono _ _ _
      | exact LeO.none _
      | refine LeO.ite ?_ ?_
      | refine LeO.bind ?_ (fun _ => ?_)
    · intro y0 y1 y2 y3 y4 y5
      unfold fleuronref01_Power.l0
      repeat' first
      | (with_reducible exact ih0 _ _ _ _)
      | (with_reducible exact ih1 _ _ _ _)
      | (with_reducible exact ih2 _ _ _)
      | (with_reducible exact ih3 _ _ _ _ _ _)
      | (with_reducible exact fleuronref01_Make.mono _ _ _)
      | (with_reducible exact fleuronref01_Mul.mono _ _ _ _ _)
      | (with_reducible exact fleuronref01_Valid.mono _ _ _)
      | (with_reducible exact LeO.refl _)
      | (with_reducible exact LeO.none _)
      | (with_reducible refine LeO.ite ?_ ?_)
      | (with_reducible refine LeO.bind ?_ (fun _ => ?_))
      | exact ih0 _ _ _ _
      | exact ih1 _ _ _ _
      | exact ih2 _ _ _
      | exact ih3 _ _ _ _ _ _
      | exact fleuronref01_Make.mono _ _ _
      | exact fleuronref01_Mul.mono _ _ _ _ _
      | exact fleuronref01_Valid.mono _ _ _
      | exact LeO.none _
      | refine LeO.ite ?_ ?_
      | refine LeO.bind ?_ (fun _ => ?_)
theorem fleuronref01_Power.mono : ∀ a0 a1 a2 k, LeO (fleuronref01_Power.f k a0 a1 a2) (fleuronref01_Power.f (k + 1) a0 a1 a2) := by
  intro a0 a1 a2 k
  obtain ⟨ih0, ih1, ih2, ih3⟩ := fleuronref01_Power.mono_l k
  unfold fleuronref01_Power.f
  repeat' first
      | (with_reducible exact ih0 _ _ _ _)
      | (with_reducible exact ih1 _ _ _ _)
      | (with_reducible exact ih2 _ _ _)
      | (with_reducible exact ih3 _ _ _ _ _ _)
      | (with_reducible exact fleuronref01_Make.mono _ _ _)
      | (with_reducible exact fleuronref01_Mul.mono _ _ _ _ _)
      | (with_reducible exact fleuronref01_Valid.mono _ _ _)
      | (with_reducible exact LeO.refl _)
      | (with_reducible exact LeO.none _)
      | (with_reducible refine LeO.ite ?_ ?_)
      | (with_reducible refine LeO.bind ?_ (fun _ => ?_))
      | exact ih0 _ _ _ _
      | exact ih1 _ _ _ _
      | exact ih2 _ _ _
      | exact ih3 _ _ _ _ _ _
      | exact fleuronref01_Make.mono _ _ _
      | exact fleuronref01_Mul.mono _ _ _ _ _
      | exact fleuronref01_Valid.mono _ _ _
      | exact LeO.none _
      | refine LeO.ite ?_ ?_
      | refine LeO.bind ?_ (fun _ => ?_)
set_option maxHeartbeats 8000000 in
set_option maxRecDepth 100000 in
theorem fleuronref01_Power.calls (k : Nat) (a0_0 : Int) (a0_1 : Int) (a1 : Int) (r1 : Int) (r2 : Int) (r3 : Int) (w : World) (h : fleuronref01_Power.f k a0_0 a0_1 a1 = some (r1, r2, r3)) :
    Calls Tryd.prog 47 #[.agg #[.int .i64 a0_0, .int .i64 a0_1], .int .i64 a1] w fun e w' => e = .returned (.tuple #[.agg #[.int .i64 r1, .int .i64 r2], .int .i64 r3]) ∧ Below w.heap.size w w' := by
  have hu23 := Tryd.underlying23
  have HB := Fa.mk (Below.refl w.heap.size w)
  have H : ((fleuronref01_Valid.f k a0_0 a0_1).bind fun t661 => (if t661 = true then (if a1 < (-64) then (fleuronref01_Power.j0 k a1 true a0_0 a0_1) else (fleuronref01_Power.j0 k a1 (decide (a1 > 64)) a0_0 a0_1)) else (fleuronref01_Power.j0 k a1 true a0_0 a0_1))) = some (r1, r2, r3) := h
  clear h
  have HC3 := Fa.mk H
  clear H
  go_enter Tryd.func47, Tryd.ntmps47
  go_upto_region 1 with (first | ((with_reducible refine gate_dst (N := 2) rfl ?_); refine boxF (N := 2) (cs := #[.int .i64 a0_0, .int .i64 a0_1]) (t := 23) ?_; intro gb659 hg w4 hbox hb; have n0_ := Fa.mk (bst w hb); have n1_ := Fa.mk (hbox); have n2_ := Fa.mk (gle hg : w.heap.size ≤ gb659); have n3_ := n2_; clear HB; have HB := n0_; have BK659 := n1_; have GW659 := n2_; have GE659 := n3_; clear n0_ n1_ n2_ n3_; clear hb hbox hg) | ((with_reducible refine gate_dst (N := 4) rfl ?_); refine boxF (N := 4) (cs := #[.int .i64 0, .int .i64 0]) (t := 23) ?_; intro gb660 hg w5 hbox hb; have n0_ := Fa.mk (blk_below (g := gb659) (o := .cells #[.int .i64 a0_0, .int .i64 a0_1] 23 (0, 0)) fa hb); have n1_ := Fa.mk (bst w hb); have n2_ := Fa.mk (hbox); have n3_ := Fa.mk (gle hg : w.heap.size ≤ gb660); have n4_ := n3_; have n5_ := Fa.mk (gne (o := .cells #[.int .i64 a0_0, .int .i64 a0_1] 23 (0, 0)) hg : gb659 ≠ gb660); have n6_ := Fa.mk n5_.out.symm; clear BK659; clear HB; have BK659 := n0_; have HB := n1_; have BK660 := n2_; have GW660 := n3_; have GE660 := n4_; have NB659_660 := n5_; have NB660_659 := n6_; clear n0_ n1_ n2_ n3_ n4_ n5_ n6_; clear hb hbox hg))
  (try simp only [Act.put, List.setIfInBounds_toArray, List.set_cons_zero, List.set_cons_succ])
  go_cut [20] (fun v20 wc => ∃ (kq : Nat) (x20_2 : Bool), v20 = .bool x20_2 ∧ Fa (fleuronref01_Power.j0 kq a1 x20_2 a0_0 a0_1 = some (r1, r2, r3)) ∧ Fa (kq ≤ k) ∧ Fa (wc.heap[gb659]? = some (.cells #[.int .i64 a0_0, .int .i64 a0_1] 23 (0, 0))) ∧ Fa (wc.heap[gb660]? = some (.cells #[.int .i64 0, .int .i64 0] 23 (0, 0))) ∧ Fa (Below w.heap.size w wc))
  case first =>
    have H := HC3.out
    clear HC3
    replace H := Option.bind_eq_some_iff.mp H
    obtain ⟨t661, A60, H⟩ := H
    replace H : (if t661 = true then (if a1 < (-64) then (fleuronref01_Power.j0 k a1 true a0_0 a0_1) else (fleuronref01_Power.j0 k a1 (decide (a1 > 64)) a0_0 a0_1)) else (fleuronref01_Power.j0 k a1 true a0_0 a0_1)) = some (r1, r2, r3) := H
    have A6 := Fa.mk A60
    clear A60
    by_cases c7 : t661 = true
    · subst c7
      have H1 : (if a1 < (-64) then (fleuronref01_Power.j0 k a1 true a0_0 a0_1) else (fleuronref01_Power.j0 k a1 (decide (a1 > 64)) a0_0 a0_1)) = some (r1, r2, r3) := by rw [if_pos rfl] at H; exact H
      clear H
      have H := H1
      clear H1
      by_cases c8 : a1 < (-64)
      · rw [if_pos c8] at H
        have c8b0 : decide (a1 < (-64)) = true := decide_eq_true c8
        clear c8
        (first | rw [c8b0] | (simp only [i64_w, i32_w]; rw [c8b0]) | skip)
        have H' := Fa.mk H
        clear H
        have hnb9 := NB659_660.out
        have hnc9 := NB660_659.out
        have hcz10_0 : w5.cell? ⟨gb659, 0, none⟩ = some (.int .i64 a0_0) := (blk_cell BK659.out 0).trans rfl
        have hcz10_1 : w5.cell? ⟨gb659, 1, none⟩ = some (.int .i64 a0_1) := (blk_cell BK659.out 1).trans rfl
        have hfz10_0 := blk_frozen BK659.out 0
        have hfz10_1 := blk_frozen BK659.out 1
        go_wp2_with (first | ((with_reducible refine gate_callee (f := 16) rfl ?_); refine goesA (some 11) rfl rfl Tryd.func16 (by kernel_rfl) rfl #[.agg #[.int .i64 a0_0, .int .i64 a0_1]] rfl ?_; (with_reducible refine (fleuronref01_Valid.calls k a0_0 a0_1 true _ A6.out).mono ?_); rintro e w11 ⟨rfl, hb⟩; refine ⟨_, rfl, ?_⟩; have n0_ := Fa.mk (blk_below (g := gb659) (o := .cells #[.int .i64 a0_0, .int .i64 a0_1] 23 (0, 0)) fa hb); have n1_ := Fa.mk (blk_below (g := gb660) (o := .cells #[.int .i64 0, .int .i64 0] 23 (0, 0)) fa hb); have n2_ := Fa.mk (bst w hb); clear BK659; clear BK660; clear HB; have BK659 := n0_; have BK660 := n1_; have HB := n2_; clear n0_ n1_ n2_; (try clear hb); (try clear hb2); (try clear hk); (try clear hi)))
        go_meet
        case rel => exact ⟨_, (true), (by first | rfl | (simp; done) | (simp [*]; done)), H', ⟨by first | omega | exact Nat.le_refl _⟩, ⟨by (with_reducible repeat (first | refine blk_drewN ?_ _ | refine blk_drew ?_ | refine blk_alloc ?_ _)); exact BK659.out⟩, ⟨by (with_reducible repeat (first | refine blk_drewN ?_ _ | refine blk_drew ?_ | refine blk_alloc ?_ _)); exact BK660.out⟩, ⟨fa⟩⟩
      · rw [if_neg c8] at H
        have c8b0 : decide (a1 < (-64)) = false := decide_eq_false c8
        clear c8
        (first | rw [c8b0] | (simp only [i64_w, i32_w]; rw [c8b0]) | skip)
        have H' := Fa.mk H
        clear H
        have hnb12 := NB659_660.out
        have hnc12 := NB660_659.out
        have hcz13_0 : w5.cell? ⟨gb659, 0, none⟩ = some (.int .i64 a0_0) := (blk_cell BK659.out 0).trans rfl
        have hcz13_1 : w5.cell? ⟨gb659, 1, none⟩ = some (.int .i64 a0_1) := (blk_cell BK659.out 1).trans rfl
        have hfz13_0 := blk_frozen BK659.out 0
        have hfz13_1 := blk_frozen BK659.out 1
        go_wp2_with (first | ((with_reducible refine gate_callee (f := 16) rfl ?_); refine goesA (some 11) rfl rfl Tryd.func16 (by kernel_rfl) rfl #[.agg #[.int .i64 a0_0, .int .i64 a0_1]] rfl ?_; (with_reducible refine (fleuronref01_Valid.calls k a0_0 a0_1 true _ A6.out).mono ?_); rintro e w14 ⟨rfl, hb⟩; refine ⟨_, rfl, ?_⟩; have n0_ := Fa.mk (blk_below (g := gb659) (o := .cells #[.int .i64 a0_0, .int .i64 a0_1] 23 (0, 0)) fa hb); have n1_ := Fa.mk (blk_below (g := gb660) (o := .cells #[.int .i64 0, .int .i64 0] 23 (0, 0)) fa hb); have n2_ := Fa.mk (bst w hb); clear BK659; clear BK660; clear HB; have BK659 := n0_; have BK660 := n1_; have HB := n2_; clear n0_ n1_ n2_; (try clear hb); (try clear hb2); (try clear hk); (try clear hi)))
        go_meet
        case rel => exact ⟨_, (decide (a1 > 64)), (by first | rfl | (simp; done) | (simp [*]; done)), H', ⟨by first | omega | exact Nat.le_refl _⟩, ⟨by (with_reducible repeat (first | refine blk_drewN ?_ _ | refine blk_drew ?_ | refine blk_alloc ?_ _)); exact BK659.out⟩, ⟨by (with_reducible repeat (first | refine blk_drewN ?_ _ | refine blk_drew ?_ | refine blk_alloc ?_ _)); exact BK660.out⟩, ⟨fa⟩⟩
    · replace c7 := Bool.eq_false_iff.mpr c7
      subst c7
      have H1 : (fleuronref01_Power.j0 k a1 true a0_0 a0_1) = some (r1, r2, r3) := by rw [if_neg (show ¬ (false = true) by decide)] at H; exact H
      clear H
      have H := H1
      clear H1
      have H' := Fa.mk H
      clear H
      have hnb15 := NB659_660.out
      have hnc15 := NB660_659.out
      have hcz16_0 : w5.cell? ⟨gb659, 0, none⟩ = some (.int .i64 a0_0) := (blk_cell BK659.out 0).trans rfl
      have hcz16_1 : w5.cell? ⟨gb659, 1, none⟩ = some (.int .i64 a0_1) := (blk_cell BK659.out 1).trans rfl
      have hfz16_0 := blk_frozen BK659.out 0
      have hfz16_1 := blk_frozen BK659.out 1
      go_wp2_with (first | ((with_reducible refine gate_callee (f := 16) rfl ?_); refine goesA (some 11) rfl rfl Tryd.func16 (by kernel_rfl) rfl #[.agg #[.int .i64 a0_0, .int .i64 a0_1]] rfl ?_; (with_reducible refine (fleuronref01_Valid.calls k a0_0 a0_1 false _ A6.out).mono ?_); rintro e w17 ⟨rfl, hb⟩; refine ⟨_, rfl, ?_⟩; have n0_ := Fa.mk (blk_below (g := gb659) (o := .cells #[.int .i64 a0_0, .int .i64 a0_1] 23 (0, 0)) fa hb); have n1_ := Fa.mk (blk_below (g := gb660) (o := .cells #[.int .i64 0, .int .i64 0] 23 (0, 0)) fa hb); have n2_ := Fa.mk (bst w hb); clear BK659; clear BK660; clear HB; have BK659 := n0_; have BK660 := n1_; have HB := n2_; clear n0_ n1_ n2_; (try clear hb); (try clear hb2); (try clear hk); (try clear hi)))
      go_meet
      case rel => exact ⟨_, (true), (by first | rfl | (simp; done) | (simp [*]; done)), H', ⟨by first | omega | exact Nat.le_refl _⟩, ⟨by (with_reducible repeat (first | refine blk_drewN ?_ _ | refine blk_drew ?_ | refine blk_alloc ?_ _)); exact BK659.out⟩, ⟨by (with_reducible repeat (first | refine blk_drewN ?_ _ | refine blk_drew ?_ | refine blk_alloc ?_ _)); exact BK660.out⟩, ⟨fa⟩⟩
  case rest =>
    clear HC3
    try clear c1
    try clear p2
    try clear c4
    try clear c7
    try clear c8
    try clear c8b0
    try clear c9
    try clear c12
    try clear c15
    try clear c16
    try clear hcz10_0
    try clear hcz10_1
    try clear hcz13_0
    try clear hcz13_1
    try clear hcz16_0
    try clear hcz16_1
    try clear hfz10_0
    try clear hfz10_1
    try clear hfz13_0
    try clear hfz13_1
    try clear hfz16_0
    try clear hfz16_1
    obtain ⟨kq, x20_2, rfl, HA, HJ2, BK659, BK660, HB⟩ := hcut
    cases kq with
    | zero => exact absurd HA.out (by simp [fleuronref01_Power.j0])
    | succ kj2 =>
      have H := HA.out
      clear HA
      simp only [fleuronref01_Power.j0] at H
      by_cases c18 : x20_2 = true
      · subst c18
        have H1 : (some (0, 0, 2)) = some (r1, r2, r3) := by rw [if_pos rfl] at H; exact H
        clear H
        have H := H1
        clear H1
        simp only [Option.some.injEq, Prod.mk.injEq] at H
        obtain ⟨rfl, rfl, rfl⟩ := H
        have hnb19 := NB660_659.out
        have hnc19 := NB659_660.out
        have hcz20_0 : wc.cell? ⟨gb660, 0, none⟩ = some (.int .i64 0) := (blk_cell BK660.out 0).trans rfl
        have hcz20_1 : wc.cell? ⟨gb660, 1, none⟩ = some (.int .i64 0) := (blk_cell BK660.out 1).trans rfl
        have hfz20_0 := blk_frozen BK660.out 0
        have hfz20_1 := blk_frozen BK660.out 1
        go_wp2
        refine bodyPost_ret (results_ct rfl _ _ gb660 23 #[.int .i64 0, .int .i64 0] (0, 0) _ rfl (by (with_reducible repeat (first | refine blk_drewN ?_ _ | refine blk_drew ?_ | refine blk_alloc ?_ _)); refine blk_put (cs := #[.int .i64 0, .int .i64 0]) ?_ 1 _ rfl; (with_reducible repeat (first | refine blk_drewN ?_ _ | refine blk_drew ?_ | refine blk_alloc ?_ _)); refine blk_put (cs := #[.int .i64 0, .int .i64 0]) ?_ 0 _ rfl; (with_reducible repeat (first | refine blk_drewN ?_ _ | refine blk_drew ?_ | refine blk_alloc ?_ _)); exact BK660.out) Tryd.underlying23 rfl (by kernel_rfl)) rfl ?_
        exact ⟨by first | rfl | (simp [errW_none, errW_some] <;> rfl) | (simp [*, errW_none, errW_some] <;> rfl), fa⟩
      · replace c18 := Bool.eq_false_iff.mpr c18
        subst c18
        have H1 : (if a0_0 = 0 then (fleuronref01_Power.j1 kj2 a1 (decide (a1 < 0)) a0_0 a0_1) else (fleuronref01_Power.j1 kj2 a1 false a0_0 a0_1)) = some (r1, r2, r3) := by rw [if_neg (show ¬ (false = true) by decide)] at H; exact H
        clear H
        have H := H1
        clear H1
        have HC21 := Fa.mk H
        clear H
        go_upto_region 3 with (fail)
        go_cut [28] (fun v28 wc => ∃ (kq : Nat) (x28_20 : Bool), v28 = .bool x28_20 ∧ Fa (fleuronref01_Power.j1 kq a1 x28_20 a0_0 a0_1 = some (r1, r2, r3)) ∧ Fa (kq ≤ kj2) ∧ Fa (wc.heap[gb659]? = some (.cells #[.int .i64 a0_0, .int .i64 a0_1] 23 (0, 0))) ∧ Fa (wc.heap[gb660]? = some (.cells #[.int .i64 0, .int .i64 0] 23 (0, 0))) ∧ Fa (Below w.heap.size w wc))
        case first =>
          have H := HC21.out
          clear HC21
          by_cases c22 : a0_0 = 0
          · rw [if_pos c22] at H
            have c22b0 : (a0_0 == 0) = true := beq_iff_eq.mpr c22
            have c22b1 : (a0_0 != 0) = false := bne_eq_false_iff_eq.mpr c22
            clear c22
            (first | rw [c22b0] | (simp only [i64_w, i32_w]; rw [c22b0]) | skip)
            have H' := Fa.mk H
            clear H
            have hnb23 := NB659_660.out
            have hnc23 := NB660_659.out
            have hcz24_0 : wc.cell? ⟨gb659, 0, none⟩ = some (.int .i64 a0_0) := (blk_cell BK659.out 0).trans rfl
            have hcz24_1 : wc.cell? ⟨gb659, 1, none⟩ = some (.int .i64 a0_1) := (blk_cell BK659.out 1).trans rfl
            have hfz24_0 := blk_frozen BK659.out 0
            have hfz24_1 := blk_frozen BK659.out 1
            go_wp2
            go_meet
            case rel => exact ⟨_, (decide (a1 < 0)), (by first | rfl | (simp; done) | (simp [*]; done)), H', ⟨by have := HJ2.out; first | omega | exact Nat.le_refl _⟩, ⟨by (with_reducible repeat (first | refine blk_drewN ?_ _ | refine blk_drew ?_ | refine blk_alloc ?_ _)); exact BK659.out⟩, ⟨by (with_reducible repeat (first | refine blk_drewN ?_ _ | refine blk_drew ?_ | refine blk_alloc ?_ _)); exact BK660.out⟩, ⟨fa⟩⟩
          · rw [if_neg c22] at H
            have c22b0 : (a0_0 == 0) = false := beq_eq_false_iff_ne.mpr c22
            have c22b1 : (a0_0 != 0) = true := bne_iff_ne.mpr c22
            (first | rw [c22b0] | (simp only [i64_w, i32_w]; rw [c22b0]) | skip)
            have H' := Fa.mk H
            clear H
            have hnb25 := NB659_660.out
            have hnc25 := NB660_659.out
            have hcz26_0 : wc.cell? ⟨gb659, 0, none⟩ = some (.int .i64 a0_0) := (blk_cell BK659.out 0).trans rfl
            have hcz26_1 : wc.cell? ⟨gb659, 1, none⟩ = some (.int .i64 a0_1) := (blk_cell BK659.out 1).trans rfl
            have hfz26_0 := blk_frozen BK659.out 0
            have hfz26_1 := blk_frozen BK659.out 1
            go_wp2
            go_meet
            case rel => exact ⟨_, (false), (by first | rfl | (simp; done) | (simp [*]; done)), H', ⟨by have := HJ2.out; first | omega | exact Nat.le_refl _⟩, ⟨by (with_reducible repeat (first | refine blk_drewN ?_ _ | refine blk_drew ?_ | refine blk_alloc ?_ _)); exact BK659.out⟩, ⟨by (with_reducible repeat (first | refine blk_drewN ?_ _ | refine blk_drew ?_ | refine blk_alloc ?_ _)); exact BK660.out⟩, ⟨fa⟩⟩
        case rest =>
          clear HC21
          try clear c1
          try clear c2
          try clear p2
          try clear c4
          try clear c7
          try clear c8
          try clear c8b0
          try clear c9
          try clear c12
          try clear c15
          try clear c16
          try clear c18
          try clear c19
          try clear c22
          try clear c22b0
          try clear c22b1
          try clear c23
          try clear c25
          try clear hcz10_0
          try clear hcz10_1
          try clear hcz13_0
          try clear hcz13_1
          try clear hcz16_0
          try clear hcz16_1
          try clear hcz20_0
          try clear hcz20_1
          try clear hcz24_0
          try clear hcz24_1
          try clear hcz26_0
          try clear hcz26_1
          try clear hfz10_0
          try clear hfz10_1
          try clear hfz13_0
          try clear hfz13_1
          try clear hfz16_0
          try clear hfz16_1
          try clear hfz20_0
          try clear hfz20_1
          try clear hfz24_0
          try clear hfz24_1
          try clear hfz26_0
          try clear hfz26_1
          try clear p2
          obtain ⟨kq, x28_20, rfl, HA, HJ20, BK659, BK660, HB⟩ := hcut
          cases kq with
          | zero => exact absurd HA.out (by simp [fleuronref01_Power.j1])
          | succ kj20 =>
            have H := HA.out
            clear HA
            simp only [fleuronref01_Power.j1] at H
            by_cases c27 : x28_20 = true
            · subst c27
              have H1 : (some (0, 0, 18)) = some (r1, r2, r3) := by rw [if_pos rfl] at H; exact H
              clear H
              have H := H1
              clear H1
              simp only [Option.some.injEq, Prod.mk.injEq] at H
              obtain ⟨rfl, rfl, rfl⟩ := H
              have hnb28 := NB660_659.out
              have hnc28 := NB659_660.out
              have hcz29_0 : wc.cell? ⟨gb660, 0, none⟩ = some (.int .i64 0) := (blk_cell BK660.out 0).trans rfl
              have hcz29_1 : wc.cell? ⟨gb660, 1, none⟩ = some (.int .i64 0) := (blk_cell BK660.out 1).trans rfl
              have hfz29_0 := blk_frozen BK660.out 0
              have hfz29_1 := blk_frozen BK660.out 1
              go_wp2
              refine bodyPost_ret (results_ct rfl _ _ gb660 23 #[.int .i64 0, .int .i64 0] (0, 0) _ rfl (by (with_reducible repeat (first | refine blk_drewN ?_ _ | refine blk_drew ?_ | refine blk_alloc ?_ _)); refine blk_put (cs := #[.int .i64 0, .int .i64 0]) ?_ 1 _ rfl; (with_reducible repeat (first | refine blk_drewN ?_ _ | refine blk_drew ?_ | refine blk_alloc ?_ _)); refine blk_put (cs := #[.int .i64 0, .int .i64 0]) ?_ 0 _ rfl; (with_reducible repeat (first | refine blk_drewN ?_ _ | refine blk_drew ?_ | refine blk_alloc ?_ _)); exact BK660.out) Tryd.underlying23 rfl (by kernel_rfl)) rfl ?_
              exact ⟨by first | rfl | (simp [errW_none, errW_some] <;> rfl) | (simp [*, errW_none, errW_some] <;> rfl), fa⟩
            · replace c27 := Bool.eq_false_iff.mpr c27
              subst c27
              have H1 : (if a1 < 0 then ((fleuronref01_Make.f kj20 a0_1 a0_0).bind fun bt662 => (fleuronref01_Power.j2 kj20 (wrap64 (-a1)) bt662.1 bt662.2.1)) else (fleuronref01_Power.j2 kj20 a1 a0_0 a0_1)) = some (r1, r2, r3) := by rw [if_neg (show ¬ (false = true) by decide)] at H; exact H
              clear H
              have H := H1
              clear H1
              have HC30 := Fa.mk H
              clear H
              go_upto_if 31 with (fail)
              go_cut [1] (fun v1 wc => ∃ (kq : Nat) (x1_29 : Int) (x660000_29 : Int) (x660001_29 : Int), v1 = .int .i64 x1_29 ∧ Fa (fleuronref01_Power.j2 kq x1_29 x660000_29 x660001_29 = some (r1, r2, r3)) ∧ Fa (kq ≤ kj20) ∧ Fa (wc.heap[gb659]? = some (.cells #[.int .i64 x660000_29, .int .i64 x660001_29] 23 (0, 0))) ∧ Fa (wc.heap[gb660]? = some (.cells #[.int .i64 0, .int .i64 0] 23 (0, 0))) ∧ Fa (Below w.heap.size w wc))
              case first =>
                have H := HC30.out
                clear HC30
                by_cases c31 : a1 < 0
                · rw [if_pos c31] at H
                  have c31b0 : decide (a1 < 0) = true := decide_eq_true c31
                  clear c31
                  (first | rw [c31b0] | (simp only [i64_w, i32_w]; rw [c31b0]) | skip)
                  replace H := Option.bind_eq_some_iff.mp H
                  obtain ⟨⟨t662, t663, t664⟩, A320, H⟩ := H
                  replace H : (fleuronref01_Power.j2 kj20 (wrap64 (-a1)) t662 t663) = some (r1, r2, r3) := H
                  have A32 := Fa.mk A320
                  clear A320
                  have H' := Fa.mk H
                  clear H
                  have hnb33 := NB659_660.out
                  have hnc33 := NB660_659.out
                  have hcz34_0 : wc.cell? ⟨gb659, 0, none⟩ = some (.int .i64 a0_0) := (blk_cell BK659.out 0).trans rfl
                  have hcz34_1 : wc.cell? ⟨gb659, 1, none⟩ = some (.int .i64 a0_1) := (blk_cell BK659.out 1).trans rfl
                  have hfz34_0 := blk_frozen BK659.out 0
                  have hfz34_1 := blk_frozen BK659.out 1
                  go_wp2_with (first | ((with_reducible refine gate_callee (f := 14) rfl ?_); refine goesA (some 37) rfl rfl Tryd.func14 (by kernel_rfl) rfl #[.int .i64 a0_1, .int .i64 a0_0] rfl ?_; (with_reducible refine (fleuronref01_Make.calls kj20 a0_1 a0_0 t662 t663 t664 _ A32.out).mono ?_); rintro e w35 ⟨rfl, hb⟩; refine ⟨_, rfl, ?_⟩; have n0_ := Fa.mk (blk_below (g := gb659) (o := .cells #[.int .i64 a0_0, .int .i64 a0_1] 23 (0, 0)) fa hb); have n1_ := Fa.mk (blk_below (g := gb660) (o := .cells #[.int .i64 0, .int .i64 0] 23 (0, 0)) fa hb); have n2_ := Fa.mk (bst w hb); clear BK659; clear BK660; clear HB; have BK659 := n0_; have BK660 := n1_; have HB := n2_; clear n0_ n1_ n2_; (try clear hb); (try clear hb2); (try clear hk); (try clear hi); have hcz36_0 : w35.cell? ⟨gb659, 0, none⟩ = some (.int .i64 a0_0) := (blk_cell BK659.out 0).trans rfl; have hcz36_1 : w35.cell? ⟨gb659, 1, none⟩ = some (.int .i64 a0_1) := (blk_cell BK659.out 1).trans rfl; have hfz36_0 := blk_frozen BK659.out 0; have hfz36_1 := blk_frozen BK659.out 1))
                  go_meet
                  case rel => exact ⟨_, (wrap64 (-a1)), (t662), (t663), (by first | rfl | (simp; done) | (simp [*]; done)), H', ⟨by have := HJ2.out; have := HJ20.out; first | omega | exact Nat.le_refl _⟩, ⟨by (with_reducible repeat (first | refine blk_drewN ?_ _ | refine blk_drew ?_ | refine blk_alloc ?_ _)); refine blk_put (cs := #[.int .i64 t662, .int .i64 a0_1]) ?_ 1 _ rfl; (with_reducible repeat (first | refine blk_drewN ?_ _ | refine blk_drew ?_ | refine blk_alloc ?_ _)); refine blk_put (cs := #[.int .i64 a0_0, .int .i64 a0_1]) ?_ 0 _ rfl; (with_reducible repeat (first | refine blk_drewN ?_ _ | refine blk_drew ?_ | refine blk_alloc ?_ _)); exact BK659.out⟩, ⟨by (with_reducible repeat (first | refine blk_drewN ?_ _ | refine blk_drew ?_ | refine blk_alloc ?_ _)); refine blk_far ?_ NB660_659.out _; (with_reducible repeat (first | refine blk_drewN ?_ _ | refine blk_drew ?_ | refine blk_alloc ?_ _)); refine blk_far ?_ NB660_659.out _; (with_reducible repeat (first | refine blk_drewN ?_ _ | refine blk_drew ?_ | refine blk_alloc ?_ _)); exact BK660.out⟩, ⟨fa⟩⟩
                · rw [if_neg c31] at H
                  have c31b0 : decide (a1 < 0) = false := decide_eq_false c31
                  clear c31
                  (first | rw [c31b0] | (simp only [i64_w, i32_w]; rw [c31b0]) | skip)
                  have H' := Fa.mk H
                  clear H
                  go_wp2
                  go_meet
                  case rel => exact ⟨_, (a1), (a0_0), (a0_1), (by first | rfl | (simp; done) | (simp [*]; done)), H', ⟨by have := HJ2.out; have := HJ20.out; first | omega | exact Nat.le_refl _⟩, ⟨by (with_reducible repeat (first | refine blk_drewN ?_ _ | refine blk_drew ?_ | refine blk_alloc ?_ _)); exact BK659.out⟩, ⟨by (with_reducible repeat (first | refine blk_drewN ?_ _ | refine blk_drew ?_ | refine blk_alloc ?_ _)); exact BK660.out⟩, ⟨fa⟩⟩
              case rest =>
                clear HC30
                try clear c1
                try clear c2
                try clear p2
                try clear c3
                try clear c4
                try clear p6
                try clear c7
                try clear c8
                try clear c8b0
                try clear c9
                try clear c12
                try clear c14
                try clear c15
                try clear c16
                try clear c18
                try clear c19
                try clear c22
                try clear c22b0
                try clear c22b1
                try clear c23
                try clear c25
                try clear c27
                try clear c28
                try clear c31
                try clear c31b0
                try clear c33
                try clear hcz10_0
                try clear hcz10_1
                try clear hcz13_0
                try clear hcz13_1
                try clear hcz16_0
                try clear hcz16_1
                try clear hcz20_0
                try clear hcz20_1
                try clear hcz24_0
                try clear hcz24_1
                try clear hcz26_0
                try clear hcz26_1
                try clear hcz29_0
                try clear hcz29_1
                try clear hcz34_0
                try clear hcz34_1
                try clear hcz36_0
                try clear hcz36_1
                try clear hfz10_0
                try clear hfz10_1
                try clear hfz13_0
                try clear hfz13_1
                try clear hfz16_0
                try clear hfz16_1
                try clear hfz20_0
                try clear hfz20_1
                try clear hfz24_0
                try clear hfz24_1
                try clear hfz26_0
                try clear hfz26_1
                try clear hfz29_0
                try clear hfz29_1
                try clear hfz34_0
                try clear hfz34_1
                try clear hfz36_0
                try clear hfz36_1
                try clear p2
                obtain ⟨kq, x1_29, x660000_29, x660001_29, rfl, HA, HJ29, BK659, BK660, HB⟩ := hcut
                cases kq with
                | zero => exact absurd HA.out (by simp [fleuronref01_Power.j2])
                | succ kj29 =>
                  have H := HA.out
                  clear HA
                  simp only [fleuronref01_Power.j2] at H
                  have H' := Fa.mk H
                  clear H
                  go_wp2_with (first | ((with_reducible refine gate_dst (N := 6) rfl ?_); refine boxF (N := 6) (cs := #[.int .i64 0, .int .i64 0]) (t := 23) ?_; intro gb665 hg w37 hbox hb; have n0_ := Fa.mk (blk_below (g := gb659) (o := .cells #[.int .i64 x660000_29, .int .i64 x660001_29] 23 (0, 0)) fa hb); have n1_ := Fa.mk (blk_below (g := gb660) (o := .cells #[.int .i64 0, .int .i64 0] 23 (0, 0)) fa hb); have n2_ := Fa.mk (bst w hb); have n3_ := Fa.mk (hbox); have n4_ := Fa.mk (gle hg : w.heap.size ≤ gb665); have n5_ := n4_; have n6_ := Fa.mk (gne (o := .cells #[.int .i64 x660000_29, .int .i64 x660001_29] 23 (0, 0)) hg : gb659 ≠ gb665); have n7_ := Fa.mk n6_.out.symm; have n8_ := Fa.mk (gne (o := .cells #[.int .i64 0, .int .i64 0] 23 (0, 0)) hg : gb660 ≠ gb665); have n9_ := Fa.mk n8_.out.symm; clear BK659; clear BK660; clear HB; have BK659 := n0_; have BK660 := n1_; have HB := n2_; have BK665 := n3_; have GW665 := n4_; have GE665 := n5_; have NB659_665 := n6_; have NB665_659 := n7_; have NB660_665 := n8_; have NB665_660 := n9_; clear n0_ n1_ n2_ n3_ n4_ n5_ n6_ n7_ n8_ n9_; clear hb hbox hg; have hnb38 := NB665_659.out; have hnc38 := NB659_665.out; have hnb39 := NB665_660.out; have hnc39 := NB660_665.out; have hcz40_0 : w37.cell? ⟨gb665, 0, none⟩ = some (.int .i64 0) := (blk_cell BK665.out 0).trans rfl; have hcz40_1 : w37.cell? ⟨gb665, 1, none⟩ = some (.int .i64 0) := (blk_cell BK665.out 1).trans rfl; have hfz40_0 := blk_frozen BK665.out 0; have hfz40_1 := blk_frozen BK665.out 1))
                  go_loopg [7] kj29 (fun kq v7 w' => ∃ (x7_4 : Int) (x661000_4 : Int) (x661001_4 : Int) (x666000_4 : Int) (x666001_4 : Int), v7 = .int .i64 x7_4 ∧ Fa (fleuronref01_Power.l0 kq x1_29 x7_4 x660000_29 x660001_29 x666000_4 x666001_4 = some (r1, r2, r3)) ∧ Fa (kq ≤ kj29) ∧ Fa (w'.heap[gb659]? = some (.cells #[.int .i64 x660000_29, .int .i64 x660001_29] 23 (0, 0))) ∧ Fa (w'.heap[gb660]? = some (.cells #[.int .i64 x661000_4, .int .i64 x661001_4] 23 (0, 0))) ∧ Fa (w'.heap[gb665]? = some (.cells #[.int .i64 x666000_4, .int .i64 x666001_4] 23 (0, 0))) ∧ Fa (Below w.heap.size w w'))
                  case atStart => exact ⟨(0), (0), (0), (1), (1), (by first | rfl | (simp; done) | (simp [*]; done)), H', ⟨Nat.le_refl _⟩, ⟨by (with_reducible repeat (first | refine blk_drewN ?_ _ | refine blk_drew ?_ | refine blk_alloc ?_ _)); refine blk_far ?_ NB659_665.out _; (with_reducible repeat (first | refine blk_drewN ?_ _ | refine blk_drew ?_ | refine blk_alloc ?_ _)); refine blk_far ?_ NB659_665.out _; (with_reducible repeat (first | refine blk_drewN ?_ _ | refine blk_drew ?_ | refine blk_alloc ?_ _)); exact BK659.out⟩, ⟨by (with_reducible repeat (first | refine blk_drewN ?_ _ | refine blk_drew ?_ | refine blk_alloc ?_ _)); refine blk_far ?_ NB660_665.out _; (with_reducible repeat (first | refine blk_drewN ?_ _ | refine blk_drew ?_ | refine blk_alloc ?_ _)); refine blk_far ?_ NB660_665.out _; (with_reducible repeat (first | refine blk_drewN ?_ _ | refine blk_drew ?_ | refine blk_alloc ?_ _)); exact BK660.out⟩, ⟨by (with_reducible repeat (first | refine blk_drewN ?_ _ | refine blk_drew ?_ | refine blk_alloc ?_ _)); refine blk_put (cs := #[.int .i64 1, .int .i64 0]) ?_ 1 _ rfl; (with_reducible repeat (first | refine blk_drewN ?_ _ | refine blk_drew ?_ | refine blk_alloc ?_ _)); refine blk_put (cs := #[.int .i64 0, .int .i64 0]) ?_ 0 _ rfl; (with_reducible repeat (first | refine blk_drewN ?_ _ | refine blk_drew ?_ | refine blk_alloc ?_ _)); exact BK665.out⟩, ⟨fa⟩⟩
                  case round =>
                    clear H'
                    try clear c1
                    try clear c2
                    try clear p2
                    try clear c3
                    try clear c4
                    try clear p6
                    try clear c7
                    try clear c8
                    try clear c8b0
                    try clear c9
                    try clear c12
                    try clear c14
                    try clear c15
                    try clear c16
                    try clear c18
                    try clear c19
                    try clear c22
                    try clear c22b0
                    try clear c22b1
                    try clear c23
                    try clear c25
                    try clear c27
                    try clear c28
                    try clear c31
                    try clear c31b0
                    try clear c33
                    try clear c38
                    try clear c39
                    try clear hcz10_0
                    try clear hcz10_1
                    try clear hcz13_0
                    try clear hcz13_1
                    try clear hcz16_0
                    try clear hcz16_1
                    try clear hcz20_0
                    try clear hcz20_1
                    try clear hcz24_0
                    try clear hcz24_1
                    try clear hcz26_0
                    try clear hcz26_1
                    try clear hcz29_0
                    try clear hcz29_1
                    try clear hcz34_0
                    try clear hcz34_1
                    try clear hcz36_0
                    try clear hcz36_1
                    try clear hcz40_0
                    try clear hcz40_1
                    try clear hfz10_0
                    try clear hfz10_1
                    try clear hfz13_0
                    try clear hfz13_1
                    try clear hfz16_0
                    try clear hfz16_1
                    try clear hfz20_0
                    try clear hfz20_1
                    try clear hfz24_0
                    try clear hfz24_1
                    try clear hfz26_0
                    try clear hfz26_1
                    try clear hfz29_0
                    try clear hfz29_1
                    try clear hfz34_0
                    try clear hfz34_1
                    try clear hfz36_0
                    try clear hfz36_1
                    try clear hfz40_0
                    try clear hfz40_1
                    try clear p2
                    try clear p6
                    obtain ⟨x7_4, x661000_4, x661001_4, x666000_4, x666001_4, rfl, HA, HK4, BK659, BK660, BK665, HB⟩ := hrel
                    cases gk with
                    | zero => exact absurd HA.out (by simp [fleuronref01_Power.l0])
                    | succ k4 =>
                      have H := HA.out
                      clear HA
                      simp only [fleuronref01_Power.l0] at H
                      by_cases c41 : x7_4 < x1_29
                      · rw [if_pos c41] at H
                        have c41b0 : decide (x7_4 < x1_29) = true := decide_eq_true c41
                        clear c41
                        replace H := Option.bind_eq_some_iff.mp H
                        obtain ⟨⟨t666, t667, t668⟩, A420, H⟩ := H
                        replace H : (if t668 = 0 then (fleuronref01_Power.l0 k4 x1_29 (wrap64 (x7_4 + 1)) x660000_29 x660001_29 t666 t667) else (some (0, 0, t668))) = some (r1, r2, r3) := H
                        have A42 := Fa.mk A420
                        clear A420
                        by_cases c43 : t668 = 0
                        · rw [if_pos c43] at H
                          have c43b0 : (t668 == 0) = true := beq_iff_eq.mpr c43
                          have c43b1 : (t668 != 0) = false := bne_eq_false_iff_eq.mpr c43
                          clear c43
                          have H' := Fa.mk H
                          clear H
                          have hnb44 := NB665_659.out
                          have hnc44 := NB659_665.out
                          have hnb45 := NB665_660.out
                          have hnc45 := NB660_665.out
                          have hcz46_0 : wr.cell? ⟨gb665, 0, none⟩ = some (.int .i64 x666000_4) := (blk_cell BK665.out 0).trans rfl
                          have hcz46_1 : wr.cell? ⟨gb665, 1, none⟩ = some (.int .i64 x666001_4) := (blk_cell BK665.out 1).trans rfl
                          have hfz46_0 := blk_frozen BK665.out 0
                          have hfz46_1 := blk_frozen BK665.out 1
                          have hnb47 := NB659_660.out
                          have hnc47 := NB660_659.out
                          have hcz48_0 : wr.cell? ⟨gb659, 0, none⟩ = some (.int .i64 x660000_29) := (blk_cell BK659.out 0).trans rfl
                          have hcz48_1 : wr.cell? ⟨gb659, 1, none⟩ = some (.int .i64 x660001_29) := (blk_cell BK659.out 1).trans rfl
                          have hfz48_0 := blk_frozen BK659.out 0
                          have hfz48_1 := blk_frozen BK659.out 1
                          go_wp2_with (first | ((with_reducible refine gate_callee (f := 27) rfl ?_); refine goesA (some 51) rfl rfl Tryd.func27 (by kernel_rfl) rfl #[.agg #[.int .i64 x666000_4, .int .i64 x666001_4], .agg #[.int .i64 x660000_29, .int .i64 x660001_29]] rfl ?_; (with_reducible refine (fleuronref01_Mul.calls k4 x666000_4 x666001_4 x660000_29 x660001_29 t666 t667 t668 _ A42.out).mono ?_); rintro e w49 ⟨rfl, hb⟩; refine ⟨_, rfl, ?_⟩; have n0_ := Fa.mk (blk_below (g := gb659) (o := .cells #[.int .i64 x660000_29, .int .i64 x660001_29] 23 (0, 0)) fa hb); have n1_ := Fa.mk (blk_below (g := gb660) (o := .cells #[.int .i64 x661000_4, .int .i64 x661001_4] 23 (0, 0)) fa hb); have n2_ := Fa.mk (blk_below (g := gb665) (o := .cells #[.int .i64 x666000_4, .int .i64 x666001_4] 23 (0, 0)) fa hb); have n3_ := Fa.mk (bst w hb); clear BK659; clear BK660; clear BK665; clear HB; have BK659 := n0_; have BK660 := n1_; have BK665 := n2_; have HB := n3_; clear n0_ n1_ n2_ n3_; (try clear hb); (try clear hb2); (try clear hk); (try clear hi)) | ((with_reducible refine gate_dst (N := 8) rfl ?_); refine boxF (N := 8) (cs := #[.int .i64 0, .int .i64 0]) (t := 23) ?_; intro gb669 hg w50 hbox hb; have n0_ := Fa.mk (blk_below (g := gb659) (o := .cells #[.int .i64 x660000_29, .int .i64 x660001_29] 23 (0, 0)) fa hb); have n1_ := Fa.mk (blk_below (g := gb660) (o := .cells #[.int .i64 x661000_4, .int .i64 x661001_4] 23 (0, 0)) fa hb); have n2_ := Fa.mk (blk_below (g := gb665) (o := .cells #[.int .i64 x666000_4, .int .i64 x666001_4] 23 (0, 0)) fa hb); have n3_ := Fa.mk (bst w hb); have n4_ := Fa.mk (hbox); have n5_ := Fa.mk (gle hg : w.heap.size ≤ gb669); have n6_ := n5_; have n7_ := Fa.mk (gne (o := .cells #[.int .i64 x660000_29, .int .i64 x660001_29] 23 (0, 0)) hg : gb659 ≠ gb669); have n8_ := Fa.mk n7_.out.symm; have n9_ := Fa.mk (gne (o := .cells #[.int .i64 x661000_4, .int .i64 x661001_4] 23 (0, 0)) hg : gb660 ≠ gb669); have n10_ := Fa.mk n9_.out.symm; have n11_ := Fa.mk (gne (o := .cells #[.int .i64 x666000_4, .int .i64 x666001_4] 23 (0, 0)) hg : gb665 ≠ gb669); have n12_ := Fa.mk n11_.out.symm; clear BK659; clear BK660; clear BK665; clear HB; have BK659 := n0_; have BK660 := n1_; have BK665 := n2_; have HB := n3_; have BK669 := n4_; have GW669 := n5_; have GE669 := n6_; have NB659_669 := n7_; have NB669_659 := n8_; have NB660_669 := n9_; have NB669_660 := n10_; have NB665_669 := n11_; have NB669_665 := n12_; clear n0_ n1_ n2_ n3_ n4_ n5_ n6_ n7_ n8_ n9_ n10_ n11_ n12_; clear hb hbox hg; have hnb51 := NB669_659.out; have hnc51 := NB659_669.out; have hnb52 := NB669_660.out; have hnc52 := NB660_669.out; have hnb53 := NB669_665.out; have hnc53 := NB665_669.out; have hcz54_0 : w50.cell? ⟨gb669, 0, none⟩ = some (.int .i64 0) := (blk_cell BK669.out 0).trans rfl; have hcz54_1 : w50.cell? ⟨gb669, 1, none⟩ = some (.int .i64 0) := (blk_cell BK669.out 1).trans rfl; have hfz54_0 := blk_frozen BK669.out 0; have hfz54_1 := blk_frozen BK669.out 1; have hcz55_0 : w50.cell? ⟨gb665, 0, none⟩ = some (.int .i64 x666000_4) := (blk_cell BK665.out 0).trans rfl; have hcz55_1 : w50.cell? ⟨gb665, 1, none⟩ = some (.int .i64 x666001_4) := (blk_cell BK665.out 1).trans rfl; have hfz55_0 := blk_frozen BK665.out 0; have hfz55_1 := blk_frozen BK665.out 1))
                          go_roundg k4
                          case measure => have := HJ2.out; have := HJ20.out; have := HJ29.out; have := HK4.out; omega
                          case rel => exact ⟨(wrap64 (x7_4 + 1)), (x661000_4), (x661001_4), (t666), (t667), (by first | rfl | (simp; done) | (simp [*]; done)), H', ⟨by have := HJ2.out; have := HJ20.out; have := HJ29.out; have := HK4.out; omega⟩, ⟨by (with_reducible repeat (first | refine blk_drewN ?_ _ | refine blk_drew ?_ | refine blk_alloc ?_ _)); refine blk_far ?_ NB659_665.out _; (with_reducible repeat (first | refine blk_drewN ?_ _ | refine blk_drew ?_ | refine blk_alloc ?_ _)); refine blk_far ?_ NB659_665.out _; (with_reducible repeat (first | refine blk_drewN ?_ _ | refine blk_drew ?_ | refine blk_alloc ?_ _)); refine blk_far ?_ NB659_669.out _; (with_reducible repeat (first | refine blk_drewN ?_ _ | refine blk_drew ?_ | refine blk_alloc ?_ _)); refine blk_far ?_ NB659_669.out _; (with_reducible repeat (first | refine blk_drewN ?_ _ | refine blk_drew ?_ | refine blk_alloc ?_ _)); exact BK659.out⟩, ⟨by (with_reducible repeat (first | refine blk_drewN ?_ _ | refine blk_drew ?_ | refine blk_alloc ?_ _)); refine blk_far ?_ NB660_665.out _; (with_reducible repeat (first | refine blk_drewN ?_ _ | refine blk_drew ?_ | refine blk_alloc ?_ _)); refine blk_far ?_ NB660_665.out _; (with_reducible repeat (first | refine blk_drewN ?_ _ | refine blk_drew ?_ | refine blk_alloc ?_ _)); refine blk_far ?_ NB660_669.out _; (with_reducible repeat (first | refine blk_drewN ?_ _ | refine blk_drew ?_ | refine blk_alloc ?_ _)); refine blk_far ?_ NB660_669.out _; (with_reducible repeat (first | refine blk_drewN ?_ _ | refine blk_drew ?_ | refine blk_alloc ?_ _)); exact BK660.out⟩, ⟨by (with_reducible repeat (first | refine blk_drewN ?_ _ | refine blk_drew ?_ | refine blk_alloc ?_ _)); refine blk_put (cs := #[.int .i64 t666, .int .i64 x666001_4]) ?_ 1 _ rfl; (with_reducible repeat (first | refine blk_drewN ?_ _ | refine blk_drew ?_ | refine blk_alloc ?_ _)); refine blk_put (cs := #[.int .i64 x666000_4, .int .i64 x666001_4]) ?_ 0 _ rfl; (with_reducible repeat (first | refine blk_drewN ?_ _ | refine blk_drew ?_ | refine blk_alloc ?_ _)); refine blk_far ?_ NB665_669.out _; (with_reducible repeat (first | refine blk_drewN ?_ _ | refine blk_drew ?_ | refine blk_alloc ?_ _)); refine blk_far ?_ NB665_669.out _; (with_reducible repeat (first | refine blk_drewN ?_ _ | refine blk_drew ?_ | refine blk_alloc ?_ _)); exact BK665.out⟩, ⟨fa⟩⟩
                        · rw [if_neg c43] at H
                          have c43b0 : (t668 == 0) = false := beq_eq_false_iff_ne.mpr c43
                          have c43b1 : (t668 != 0) = true := bne_iff_ne.mpr c43
                          simp only [Option.some.injEq, Prod.mk.injEq] at H
                          obtain ⟨rfl, rfl, rfl⟩ := H
                          have hnb56 := NB665_659.out
                          have hnc56 := NB659_665.out
                          have hnb57 := NB665_660.out
                          have hnc57 := NB660_665.out
                          have hcz58_0 : wr.cell? ⟨gb665, 0, none⟩ = some (.int .i64 x666000_4) := (blk_cell BK665.out 0).trans rfl
                          have hcz58_1 : wr.cell? ⟨gb665, 1, none⟩ = some (.int .i64 x666001_4) := (blk_cell BK665.out 1).trans rfl
                          have hfz58_0 := blk_frozen BK665.out 0
                          have hfz58_1 := blk_frozen BK665.out 1
                          have hnb59 := NB659_660.out
                          have hnc59 := NB660_659.out
                          have hcz60_0 : wr.cell? ⟨gb659, 0, none⟩ = some (.int .i64 x660000_29) := (blk_cell BK659.out 0).trans rfl
                          have hcz60_1 : wr.cell? ⟨gb659, 1, none⟩ = some (.int .i64 x660001_29) := (blk_cell BK659.out 1).trans rfl
                          have hfz60_0 := blk_frozen BK659.out 0
                          have hfz60_1 := blk_frozen BK659.out 1
                          go_wp2_with (first | ((with_reducible refine gate_callee (f := 27) rfl ?_); refine goesA (some 51) rfl rfl Tryd.func27 (by kernel_rfl) rfl #[.agg #[.int .i64 x666000_4, .int .i64 x666001_4], .agg #[.int .i64 x660000_29, .int .i64 x660001_29]] rfl ?_; (with_reducible refine (fleuronref01_Mul.calls k4 x666000_4 x666001_4 x660000_29 x660001_29 t666 t667 t668 _ A42.out).mono ?_); rintro e w61 ⟨rfl, hb⟩; refine ⟨_, rfl, ?_⟩; have n0_ := Fa.mk (blk_below (g := gb659) (o := .cells #[.int .i64 x660000_29, .int .i64 x660001_29] 23 (0, 0)) fa hb); have n1_ := Fa.mk (blk_below (g := gb660) (o := .cells #[.int .i64 x661000_4, .int .i64 x661001_4] 23 (0, 0)) fa hb); have n2_ := Fa.mk (blk_below (g := gb665) (o := .cells #[.int .i64 x666000_4, .int .i64 x666001_4] 23 (0, 0)) fa hb); have n3_ := Fa.mk (bst w hb); clear BK659; clear BK660; clear BK665; clear HB; have BK659 := n0_; have BK660 := n1_; have BK665 := n2_; have HB := n3_; clear n0_ n1_ n2_ n3_; (try clear hb); (try clear hb2); (try clear hk); (try clear hi)) | ((with_reducible refine gate_dst (N := 8) rfl ?_); refine boxF (N := 8) (cs := #[.int .i64 0, .int .i64 0]) (t := 23) ?_; intro gb669 hg w62 hbox hb; have n0_ := Fa.mk (blk_below (g := gb659) (o := .cells #[.int .i64 x660000_29, .int .i64 x660001_29] 23 (0, 0)) fa hb); have n1_ := Fa.mk (blk_below (g := gb660) (o := .cells #[.int .i64 x661000_4, .int .i64 x661001_4] 23 (0, 0)) fa hb); have n2_ := Fa.mk (blk_below (g := gb665) (o := .cells #[.int .i64 x666000_4, .int .i64 x666001_4] 23 (0, 0)) fa hb); have n3_ := Fa.mk (bst w hb); have n4_ := Fa.mk (hbox); have n5_ := Fa.mk (gle hg : w.heap.size ≤ gb669); have n6_ := n5_; have n7_ := Fa.mk (gne (o := .cells #[.int .i64 x660000_29, .int .i64 x660001_29] 23 (0, 0)) hg : gb659 ≠ gb669); have n8_ := Fa.mk n7_.out.symm; have n9_ := Fa.mk (gne (o := .cells #[.int .i64 x661000_4, .int .i64 x661001_4] 23 (0, 0)) hg : gb660 ≠ gb669); have n10_ := Fa.mk n9_.out.symm; have n11_ := Fa.mk (gne (o := .cells #[.int .i64 x666000_4, .int .i64 x666001_4] 23 (0, 0)) hg : gb665 ≠ gb669); have n12_ := Fa.mk n11_.out.symm; clear BK659; clear BK660; clear BK665; clear HB; have BK659 := n0_; have BK660 := n1_; have BK665 := n2_; have HB := n3_; have BK669 := n4_; have GW669 := n5_; have GE669 := n6_; have NB659_669 := n7_; have NB669_659 := n8_; have NB660_669 := n9_; have NB669_660 := n10_; have NB665_669 := n11_; have NB669_665 := n12_; clear n0_ n1_ n2_ n3_ n4_ n5_ n6_ n7_ n8_ n9_ n10_ n11_ n12_; clear hb hbox hg; have hnb63 := NB669_659.out; have hnc63 := NB659_669.out; have hnb64 := NB669_660.out; have hnc64 := NB660_669.out; have hnb65 := NB669_665.out; have hnc65 := NB665_669.out; have hcz66_0 : w62.cell? ⟨gb669, 0, none⟩ = some (.int .i64 0) := (blk_cell BK669.out 0).trans rfl; have hcz66_1 : w62.cell? ⟨gb669, 1, none⟩ = some (.int .i64 0) := (blk_cell BK669.out 1).trans rfl; have hfz66_0 := blk_frozen BK669.out 0; have hfz66_1 := blk_frozen BK669.out 1; have hcz67_0 : w62.cell? ⟨gb660, 0, none⟩ = some (.int .i64 x661000_4) := (blk_cell BK660.out 0).trans rfl; have hcz67_1 : w62.cell? ⟨gb660, 1, none⟩ = some (.int .i64 x661001_4) := (blk_cell BK660.out 1).trans rfl; have hfz67_0 := blk_frozen BK660.out 0; have hfz67_1 := blk_frozen BK660.out 1))
                          refine bodyPost_ret (results_ct rfl _ _ gb660 23 #[.int .i64 0, .int .i64 0] (0, 0) _ rfl (by (with_reducible repeat (first | refine blk_drewN ?_ _ | refine blk_drew ?_ | refine blk_alloc ?_ _)); refine blk_put (cs := #[.int .i64 0, .int .i64 x661001_4]) ?_ 1 _ rfl; (with_reducible repeat (first | refine blk_drewN ?_ _ | refine blk_drew ?_ | refine blk_alloc ?_ _)); refine blk_put (cs := #[.int .i64 x661000_4, .int .i64 x661001_4]) ?_ 0 _ rfl; (with_reducible repeat (first | refine blk_drewN ?_ _ | refine blk_drew ?_ | refine blk_alloc ?_ _)); refine blk_far ?_ NB660_669.out _; (with_reducible repeat (first | refine blk_drewN ?_ _ | refine blk_drew ?_ | refine blk_alloc ?_ _)); refine blk_far ?_ NB660_669.out _; (with_reducible repeat (first | refine blk_drewN ?_ _ | refine blk_drew ?_ | refine blk_alloc ?_ _)); exact BK660.out) Tryd.underlying23 rfl (by kernel_rfl)) rfl ?_
                          exact ⟨by first | rfl | (simp [errW_none, errW_some] <;> rfl) | (simp [*, errW_none, errW_some] <;> rfl), fa⟩
                      · rw [if_neg c41] at H
                        have c41b0 : decide (x7_4 < x1_29) = false := decide_eq_false c41
                        clear c41
                        simp only [Option.some.injEq, Prod.mk.injEq] at H
                        obtain ⟨rfl, rfl, rfl⟩ := H
                        have hnb68 := NB665_659.out
                        have hnc68 := NB659_665.out
                        have hnb69 := NB665_660.out
                        have hnc69 := NB660_665.out
                        have hcz70_0 : wr.cell? ⟨gb665, 0, none⟩ = some (.int .i64 x666000_4) := (blk_cell BK665.out 0).trans rfl
                        have hcz70_1 : wr.cell? ⟨gb665, 1, none⟩ = some (.int .i64 x666001_4) := (blk_cell BK665.out 1).trans rfl
                        have hfz70_0 := blk_frozen BK665.out 0
                        have hfz70_1 := blk_frozen BK665.out 1
                        have hnb71 := NB660_659.out
                        have hnc71 := NB659_660.out
                        have hcz72_0 : wr.cell? ⟨gb660, 0, none⟩ = some (.int .i64 x661000_4) := (blk_cell BK660.out 0).trans rfl
                        have hcz72_1 : wr.cell? ⟨gb660, 1, none⟩ = some (.int .i64 x661001_4) := (blk_cell BK660.out 1).trans rfl
                        have hfz72_0 := blk_frozen BK660.out 0
                        have hfz72_1 := blk_frozen BK660.out 1
                        go_wp2
                        refine bodyPost_ret (results_ct rfl _ _ gb660 23 #[.int .i64 x666000_4, .int .i64 x666001_4] (0, 0) _ rfl (by (with_reducible repeat (first | refine blk_drewN ?_ _ | refine blk_drew ?_ | refine blk_alloc ?_ _)); refine blk_put (cs := #[.int .i64 x666000_4, .int .i64 x661001_4]) ?_ 1 _ rfl; (with_reducible repeat (first | refine blk_drewN ?_ _ | refine blk_drew ?_ | refine blk_alloc ?_ _)); refine blk_put (cs := #[.int .i64 x661000_4, .int .i64 x661001_4]) ?_ 0 _ rfl; (with_reducible repeat (first | refine blk_drewN ?_ _ | refine blk_drew ?_ | refine blk_alloc ?_ _)); exact BK660.out) Tryd.underlying23 rfl (by kernel_rfl)) rfl ?_
                        exact ⟨by first | rfl | (simp [errW_none, errW_some] <;> rfl) | (simp [*, errW_none, errW_some] <;> rfl), fa⟩

/-! ### fleuronlaw01_NumPowers: function 12 -/
def fleuronlaw01_NumPowers.f (k : Nat) (a0_0 : Int) (a0_1 : Int) (a1_0 : Int) (a1_1 : Int) (a2 : Int) : Option (Bool) := (num_Mod.f k a0_0 a0_1 a1_0 a1_1).bind fun bt672 => ((fleuronref01_Mod.f k a0_0 a0_1 a1_0 a1_1).bind fun bt676 => ((num_Power.f k a0_0 a0_1 a2).bind fun bt680 => ((fleuronref01_Power.f k a0_0 a0_1 a2).bind fun bt684 => (if (bt672.1 == bt676.1 && (bt672.2.1 == bt676.2.1)) = true then (if bt672.2.2 = bt676.2.2 then (if (bt680.1 == bt684.1 && (bt680.2.1 == bt684.2.1)) = true then (if bt680.2.2 = bt684.2.2 then ((fleuronlaw01_awake.f k).bind fun t688 => (some t688)) else (none)) else (none)) else (none)) else (none)))))
theorem fleuronlaw01_NumPowers.mono : ∀ a0 a1 a2 a3 a4 k, LeO (fleuronlaw01_NumPowers.f k a0 a1 a2 a3 a4) (fleuronlaw01_NumPowers.f (k + 1) a0 a1 a2 a3 a4) := by
  intro a0 a1 a2 a3 a4 k
  unfold fleuronlaw01_NumPowers.f
  repeat' first
      | (with_reducible exact fleuronlaw01_awake.mono _)
      | (with_reducible exact fleuronref01_Mod.mono _ _ _ _ _)
      | (with_reducible exact fleuronref01_Power.mono _ _ _ _)
      | (with_reducible exact num_Mod.mono _ _ _ _ _)
      | (with_reducible exact num_Power.mono _ _ _ _)
      | (with_reducible exact LeO.refl _)
      | (with_reducible exact LeO.none _)
      | (with_reducible refine LeO.ite ?_ ?_)
      | (with_reducible refine LeO.bind ?_ (fun _ => ?_))
      | exact fleuronlaw01_awake.mono _
      | exact fleuronref01_Mod.mono _ _ _ _ _
      | exact fleuronref01_Power.mono _ _ _ _
      | exact num_Mod.mono _ _ _ _ _
      | exact num_Power.mono _ _ _ _
      | exact LeO.none _
      | refine LeO.ite ?_ ?_
      | refine LeO.bind ?_ (fun _ => ?_)
set_option maxHeartbeats 8000000 in
set_option maxRecDepth 100000 in
theorem fleuronlaw01_NumPowers.calls (k : Nat) (a0_0 : Int) (a0_1 : Int) (a1_0 : Int) (a1_1 : Int) (a2 : Int) (r : Bool) (w : World) (h : fleuronlaw01_NumPowers.f k a0_0 a0_1 a1_0 a1_1 a2 = some r) (hG : Glob w) :
    Calls Tryd.prog 12 #[.agg #[.int .i64 a0_0, .int .i64 a0_1], .agg #[.int .i64 a1_0, .int .i64 a1_1], .int .i64 a2] w fun e w' => e = .returned (.bool r) ∧ Below w.heap.size w w' := by
  have HG := Fa.mk hG
  clear hG
  have hu23 := Tryd.underlying23
  have HB := Fa.mk (Below.refl w.heap.size w)
  have H : ((num_Mod.f k a0_0 a0_1 a1_0 a1_1).bind fun bt672 => ((fleuronref01_Mod.f k a0_0 a0_1 a1_0 a1_1).bind fun bt676 => ((num_Power.f k a0_0 a0_1 a2).bind fun bt680 => ((fleuronref01_Power.f k a0_0 a0_1 a2).bind fun bt684 => (if (bt672.1 == bt676.1 && (bt672.2.1 == bt676.2.1)) = true then (if bt672.2.2 = bt676.2.2 then (if (bt680.1 == bt684.1 && (bt680.2.1 == bt684.2.1)) = true then (if bt680.2.2 = bt684.2.2 then ((fleuronlaw01_awake.f k).bind fun t688 => (some t688)) else (none)) else (none)) else (none)) else (none)))))) = some r := h
  clear h
  replace H := Option.bind_eq_some_iff.mp H
  obtain ⟨⟨t672, t673, t674⟩, A40, H⟩ := H
  replace H : ((fleuronref01_Mod.f k a0_0 a0_1 a1_0 a1_1).bind fun bt676 => ((num_Power.f k a0_0 a0_1 a2).bind fun bt680 => ((fleuronref01_Power.f k a0_0 a0_1 a2).bind fun bt684 => (if (t672 == bt676.1 && (t673 == bt676.2.1)) = true then (if t674 = bt676.2.2 then (if (bt680.1 == bt684.1 && (bt680.2.1 == bt684.2.1)) = true then (if bt680.2.2 = bt684.2.2 then ((fleuronlaw01_awake.f k).bind fun t688 => (some t688)) else (none)) else (none)) else (none)) else (none))))) = some r := H
  have A4 := Fa.mk A40
  clear A40
  replace H := Option.bind_eq_some_iff.mp H
  obtain ⟨⟨t676, t677, t678⟩, A50, H⟩ := H
  replace H : ((num_Power.f k a0_0 a0_1 a2).bind fun bt680 => ((fleuronref01_Power.f k a0_0 a0_1 a2).bind fun bt684 => (if (t672 == t676 && (t673 == t677)) = true then (if t674 = t678 then (if (bt680.1 == bt684.1 && (bt680.2.1 == bt684.2.1)) = true then (if bt680.2.2 = bt684.2.2 then ((fleuronlaw01_awake.f k).bind fun t688 => (some t688)) else (none)) else (none)) else (none)) else (none)))) = some r := H
  have A5 := Fa.mk A50
  clear A50
  replace H := Option.bind_eq_some_iff.mp H
  obtain ⟨⟨t680, t681, t682⟩, A60, H⟩ := H
  replace H : ((fleuronref01_Power.f k a0_0 a0_1 a2).bind fun bt684 => (if (t672 == t676 && (t673 == t677)) = true then (if t674 = t678 then (if (t680 == bt684.1 && (t681 == bt684.2.1)) = true then (if t682 = bt684.2.2 then ((fleuronlaw01_awake.f k).bind fun t688 => (some t688)) else (none)) else (none)) else (none)) else (none))) = some r := H
  have A6 := Fa.mk A60
  clear A60
  replace H := Option.bind_eq_some_iff.mp H
  obtain ⟨⟨t684, t685, t686⟩, A70, H⟩ := H
  replace H : (if (t672 == t676 && (t673 == t677)) = true then (if t674 = t678 then (if (t680 == t684 && (t681 == t685)) = true then (if t682 = t686 then ((fleuronlaw01_awake.f k).bind fun t688 => (some t688)) else (none)) else (none)) else (none)) else (none)) = some r := H
  have A7 := Fa.mk A70
  clear A70
  by_cases c8 : (t672 == t676 && (t673 == t677)) = true
  · rw [if_pos c8] at H
    have c8b0 : (t672 == t676 && (t673 == t677)) = true := c8
    (try (have c8b1 : decide (t672 = t676 && (t673 == t677)) = true := by simpa using c8))
    (try (have c8b2 : (t672 == t676 && (t673 == t677)) = true := by simpa using c8))
    clear c8
    by_cases c9 : t674 = t678
    · rw [if_pos c9] at H
      have c9b0 : (t674 == t678) = true := beq_iff_eq.mpr c9
      have c9b1 : (t674 != t678) = false := bne_eq_false_iff_eq.mpr c9
      clear c9
      by_cases c10 : (t680 == t684 && (t681 == t685)) = true
      · rw [if_pos c10] at H
        have c10b0 : (t680 == t684 && (t681 == t685)) = true := c10
        (try (have c10b1 : decide (t680 = t684 && (t681 == t685)) = true := by simpa using c10))
        (try (have c10b2 : (t680 == t684 && (t681 == t685)) = true := by simpa using c10))
        clear c10
        by_cases c11 : t682 = t686
        · rw [if_pos c11] at H
          have c11b0 : (t682 == t686) = true := beq_iff_eq.mpr c11
          have c11b1 : (t682 != t686) = false := bne_eq_false_iff_eq.mpr c11
          clear c11
          replace H := Option.bind_eq_some_iff.mp H
          obtain ⟨t688, A120, H⟩ := H
          replace H : (some t688) = some r := H
          have A12 := Fa.mk A120
          clear A120
          obtain rfl := Option.some.inj H
          go_enter Tryd.func12, Tryd.ntmps12
          go_wp2_with (first | ((with_reducible refine gate_dst (N := 3) rfl ?_); refine boxF (N := 3) (cs := #[.int .i64 a0_0, .int .i64 a0_1]) (t := 23) ?_; intro gb670 hg w13 hbox hb; have n0_ := Fa.mk (bst w hb); have n1_ := Fa.mk (hbox); have n2_ := Fa.mk (gle hg : w.heap.size ≤ gb670); have n3_ := n2_; clear HB; have HB := n0_; have BK670 := n1_; have GW670 := n2_; have GE670 := n3_; clear n0_ n1_ n2_ n3_; clear hb hbox hg) | ((with_reducible refine gate_dst (N := 4) rfl ?_); refine boxF (N := 4) (cs := #[.int .i64 a1_0, .int .i64 a1_1]) (t := 23) ?_; intro gb671 hg w14 hbox hb; have n0_ := Fa.mk (blk_below (g := gb670) (o := .cells #[.int .i64 a0_0, .int .i64 a0_1] 23 (0, 0)) fa hb); have n1_ := Fa.mk (bst w hb); have n2_ := Fa.mk (hbox); have n3_ := Fa.mk (gle hg : w.heap.size ≤ gb671); have n4_ := n3_; have n5_ := Fa.mk (gne (o := .cells #[.int .i64 a0_0, .int .i64 a0_1] 23 (0, 0)) hg : gb670 ≠ gb671); have n6_ := Fa.mk n5_.out.symm; clear BK670; clear HB; have BK670 := n0_; have HB := n1_; have BK671 := n2_; have GW671 := n3_; have GE671 := n4_; have NB670_671 := n5_; have NB671_670 := n6_; clear n0_ n1_ n2_ n3_ n4_ n5_ n6_; clear hb hbox hg; have hnb15 := NB670_671.out; have hnc15 := NB671_670.out; have hcz16_0 : w14.cell? ⟨gb670, 0, none⟩ = some (.int .i64 a0_0) := (blk_cell BK670.out 0).trans rfl; have hcz16_1 : w14.cell? ⟨gb670, 1, none⟩ = some (.int .i64 a0_1) := (blk_cell BK670.out 1).trans rfl; have hfz16_0 := blk_frozen BK670.out 0; have hfz16_1 := blk_frozen BK670.out 1; have hcz17_0 : w14.cell? ⟨gb671, 0, none⟩ = some (.int .i64 a1_0) := (blk_cell BK671.out 0).trans rfl; have hcz17_1 : w14.cell? ⟨gb671, 1, none⟩ = some (.int .i64 a1_1) := (blk_cell BK671.out 1).trans rfl; have hfz17_0 := blk_frozen BK671.out 0; have hfz17_1 := blk_frozen BK671.out 1) | ((with_reducible refine gate_callee (f := 40) rfl ?_); refine goesA (some 18) rfl rfl Tryd.func40 (by kernel_rfl) rfl #[.agg #[.int .i64 a0_0, .int .i64 a0_1], .agg #[.int .i64 a1_0, .int .i64 a1_1]] rfl ?_; (with_reducible refine (num_Mod.calls k a0_0 a0_1 a1_0 a1_1 t672 t673 t674 _ A4.out).mono ?_); rintro e w18 ⟨rfl, hb⟩; refine ⟨_, rfl, ?_⟩; have n0_ := Fa.mk (blk_below (g := gb670) (o := .cells #[.int .i64 a0_0, .int .i64 a0_1] 23 (0, 0)) fa hb); have n1_ := Fa.mk (blk_below (g := gb671) (o := .cells #[.int .i64 a1_0, .int .i64 a1_1] 23 (0, 0)) fa hb); have n2_ := Fa.mk (bst w hb); clear BK670; clear BK671; clear HB; have BK670 := n0_; have BK671 := n1_; have HB := n2_; clear n0_ n1_ n2_; (try clear hb); (try clear hb2); (try clear hk); (try clear hi)) | ((with_reducible refine gate_dst (N := 7) rfl ?_); refine boxF (N := 7) (cs := #[.int .i64 0, .int .i64 0]) (t := 23) ?_; intro gb675 hg w19 hbox hb; have n0_ := Fa.mk (blk_below (g := gb670) (o := .cells #[.int .i64 a0_0, .int .i64 a0_1] 23 (0, 0)) fa hb); have n1_ := Fa.mk (blk_below (g := gb671) (o := .cells #[.int .i64 a1_0, .int .i64 a1_1] 23 (0, 0)) fa hb); have n2_ := Fa.mk (bst w hb); have n3_ := Fa.mk (hbox); have n4_ := Fa.mk (gle hg : w.heap.size ≤ gb675); have n5_ := n4_; have n6_ := Fa.mk (gne (o := .cells #[.int .i64 a0_0, .int .i64 a0_1] 23 (0, 0)) hg : gb670 ≠ gb675); have n7_ := Fa.mk n6_.out.symm; have n8_ := Fa.mk (gne (o := .cells #[.int .i64 a1_0, .int .i64 a1_1] 23 (0, 0)) hg : gb671 ≠ gb675); have n9_ := Fa.mk n8_.out.symm; clear BK670; clear BK671; clear HB; have BK670 := n0_; have BK671 := n1_; have HB := n2_; have BK675 := n3_; have GW675 := n4_; have GE675 := n5_; have NB670_675 := n6_; have NB675_670 := n7_; have NB671_675 := n8_; have NB675_671 := n9_; clear n0_ n1_ n2_ n3_ n4_ n5_ n6_ n7_ n8_ n9_; clear hb hbox hg; have hnb20 := NB675_670.out; have hnc20 := NB670_675.out; have hnb21 := NB675_671.out; have hnc21 := NB671_675.out; have hcz22_0 : w19.cell? ⟨gb675, 0, none⟩ = some (.int .i64 0) := (blk_cell BK675.out 0).trans rfl; have hcz22_1 : w19.cell? ⟨gb675, 1, none⟩ = some (.int .i64 0) := (blk_cell BK675.out 1).trans rfl; have hfz22_0 := blk_frozen BK675.out 0; have hfz22_1 := blk_frozen BK675.out 1; have hcz23_0 : w19.cell? ⟨gb670, 0, none⟩ = some (.int .i64 a0_0) := (blk_cell BK670.out 0).trans rfl; have hcz23_1 : w19.cell? ⟨gb670, 1, none⟩ = some (.int .i64 a0_1) := (blk_cell BK670.out 1).trans rfl; have hfz23_0 := blk_frozen BK670.out 0; have hfz23_1 := blk_frozen BK670.out 1; have hcz24_0 : w19.cell? ⟨gb671, 0, none⟩ = some (.int .i64 a1_0) := (blk_cell BK671.out 0).trans rfl; have hcz24_1 : w19.cell? ⟨gb671, 1, none⟩ = some (.int .i64 a1_1) := (blk_cell BK671.out 1).trans rfl; have hfz24_0 := blk_frozen BK671.out 0; have hfz24_1 := blk_frozen BK671.out 1) | ((with_reducible refine gate_callee (f := 45) rfl ?_); refine goesA (some 24) rfl rfl Tryd.func45 (by kernel_rfl) rfl #[.agg #[.int .i64 a0_0, .int .i64 a0_1], .agg #[.int .i64 a1_0, .int .i64 a1_1]] rfl ?_; (with_reducible refine (fleuronref01_Mod.calls k a0_0 a0_1 a1_0 a1_1 t676 t677 t678 _ A5.out).mono ?_); rintro e w25 ⟨rfl, hb⟩; refine ⟨_, rfl, ?_⟩; have n0_ := Fa.mk (blk_below (g := gb670) (o := .cells #[.int .i64 a0_0, .int .i64 a0_1] 23 (0, 0)) (by (with_reducible repeat (first | refine blk_drewN ?_ _ | refine blk_drew ?_ | refine blk_alloc ?_ _)); refine blk_far ?_ NB670_675.out _; (with_reducible repeat (first | refine blk_drewN ?_ _ | refine blk_drew ?_ | refine blk_alloc ?_ _)); refine blk_far ?_ NB670_675.out _; (with_reducible repeat (first | refine blk_drewN ?_ _ | refine blk_drew ?_ | refine blk_alloc ?_ _)); exact BK670.out) hb); have n1_ := Fa.mk (blk_below (g := gb671) (o := .cells #[.int .i64 a1_0, .int .i64 a1_1] 23 (0, 0)) (by (with_reducible repeat (first | refine blk_drewN ?_ _ | refine blk_drew ?_ | refine blk_alloc ?_ _)); refine blk_far ?_ NB671_675.out _; (with_reducible repeat (first | refine blk_drewN ?_ _ | refine blk_drew ?_ | refine blk_alloc ?_ _)); refine blk_far ?_ NB671_675.out _; (with_reducible repeat (first | refine blk_drewN ?_ _ | refine blk_drew ?_ | refine blk_alloc ?_ _)); exact BK671.out) hb); have n2_ := Fa.mk (blk_below (g := gb675) (o := .cells #[.int .i64 t672, .int .i64 t673] 23 (0, 0)) (by (with_reducible repeat (first | refine blk_drewN ?_ _ | refine blk_drew ?_ | refine blk_alloc ?_ _)); refine blk_put (cs := #[.int .i64 t672, .int .i64 0]) ?_ 1 _ rfl; (with_reducible repeat (first | refine blk_drewN ?_ _ | refine blk_drew ?_ | refine blk_alloc ?_ _)); refine blk_put (cs := #[.int .i64 0, .int .i64 0]) ?_ 0 _ rfl; (with_reducible repeat (first | refine blk_drewN ?_ _ | refine blk_drew ?_ | refine blk_alloc ?_ _)); exact BK675.out) hb); have n3_ := Fa.mk (bst w hb); clear BK670; clear BK671; clear BK675; clear HB; have BK670 := n0_; have BK671 := n1_; have BK675 := n2_; have HB := n3_; clear n0_ n1_ n2_ n3_; (try clear hb); (try clear hb2); (try clear hk); (try clear hi)) | ((with_reducible refine gate_dst (N := 9) rfl ?_); refine boxF (N := 9) (cs := #[.int .i64 0, .int .i64 0]) (t := 23) ?_; intro gb679 hg w26 hbox hb; have n0_ := Fa.mk (blk_below (g := gb670) (o := .cells #[.int .i64 a0_0, .int .i64 a0_1] 23 (0, 0)) fa hb); have n1_ := Fa.mk (blk_below (g := gb671) (o := .cells #[.int .i64 a1_0, .int .i64 a1_1] 23 (0, 0)) fa hb); have n2_ := Fa.mk (blk_below (g := gb675) (o := .cells #[.int .i64 t672, .int .i64 t673] 23 (0, 0)) fa hb); have n3_ := Fa.mk (bst w hb); have n4_ := Fa.mk (hbox); have n5_ := Fa.mk (gle hg : w.heap.size ≤ gb679); have n6_ := n5_; have n7_ := Fa.mk (gne (o := .cells #[.int .i64 a0_0, .int .i64 a0_1] 23 (0, 0)) hg : gb670 ≠ gb679); have n8_ := Fa.mk n7_.out.symm; have n9_ := Fa.mk (gne (o := .cells #[.int .i64 a1_0, .int .i64 a1_1] 23 (0, 0)) hg : gb671 ≠ gb679); have n10_ := Fa.mk n9_.out.symm; have n11_ := Fa.mk (gne (o := .cells #[.int .i64 t672, .int .i64 t673] 23 (0, 0)) hg : gb675 ≠ gb679); have n12_ := Fa.mk n11_.out.symm; clear BK670; clear BK671; clear BK675; clear HB; have BK670 := n0_; have BK671 := n1_; have BK675 := n2_; have HB := n3_; have BK679 := n4_; have GW679 := n5_; have GE679 := n6_; have NB670_679 := n7_; have NB679_670 := n8_; have NB671_679 := n9_; have NB679_671 := n10_; have NB675_679 := n11_; have NB679_675 := n12_; clear n0_ n1_ n2_ n3_ n4_ n5_ n6_ n7_ n8_ n9_ n10_ n11_ n12_; clear hb hbox hg; have hnb27 := NB679_670.out; have hnc27 := NB670_679.out; have hnb28 := NB679_671.out; have hnc28 := NB671_679.out; have hnb29 := NB679_675.out; have hnc29 := NB675_679.out; have hcz30_0 : w26.cell? ⟨gb679, 0, none⟩ = some (.int .i64 0) := (blk_cell BK679.out 0).trans rfl; have hcz30_1 : w26.cell? ⟨gb679, 1, none⟩ = some (.int .i64 0) := (blk_cell BK679.out 1).trans rfl; have hfz30_0 := blk_frozen BK679.out 0; have hfz30_1 := blk_frozen BK679.out 1; have hcz31_0 : w26.cell? ⟨gb670, 0, none⟩ = some (.int .i64 a0_0) := (blk_cell BK670.out 0).trans rfl; have hcz31_1 : w26.cell? ⟨gb670, 1, none⟩ = some (.int .i64 a0_1) := (blk_cell BK670.out 1).trans rfl; have hfz31_0 := blk_frozen BK670.out 0; have hfz31_1 := blk_frozen BK670.out 1) | ((with_reducible refine gate_callee (f := 46) rfl ?_); refine goesA (some 30) rfl rfl Tryd.func46 (by kernel_rfl) rfl #[.agg #[.int .i64 a0_0, .int .i64 a0_1], .int .i64 a2] rfl ?_; (with_reducible refine (num_Power.calls k a0_0 a0_1 a2 t680 t681 t682 _ A6.out).mono ?_); rintro e w32 ⟨rfl, hb⟩; refine ⟨_, rfl, ?_⟩; have n0_ := Fa.mk (blk_below (g := gb670) (o := .cells #[.int .i64 a0_0, .int .i64 a0_1] 23 (0, 0)) (by (with_reducible repeat (first | refine blk_drewN ?_ _ | refine blk_drew ?_ | refine blk_alloc ?_ _)); refine blk_far ?_ NB670_679.out _; (with_reducible repeat (first | refine blk_drewN ?_ _ | refine blk_drew ?_ | refine blk_alloc ?_ _)); refine blk_far ?_ NB670_679.out _; (with_reducible repeat (first | refine blk_drewN ?_ _ | refine blk_drew ?_ | refine blk_alloc ?_ _)); exact BK670.out) hb); have n1_ := Fa.mk (blk_below (g := gb671) (o := .cells #[.int .i64 a1_0, .int .i64 a1_1] 23 (0, 0)) (by (with_reducible repeat (first | refine blk_drewN ?_ _ | refine blk_drew ?_ | refine blk_alloc ?_ _)); refine blk_far ?_ NB671_679.out _; (with_reducible repeat (first | refine blk_drewN ?_ _ | refine blk_drew ?_ | refine blk_alloc ?_ _)); refine blk_far ?_ NB671_679.out _; (with_reducible repeat (first | refine blk_drewN ?_ _ | refine blk_drew ?_ | refine blk_alloc ?_ _)); exact BK671.out) hb); have n2_ := Fa.mk (blk_below (g := gb675) (o := .cells #[.int .i64 t672, .int .i64 t673] 23 (0, 0)) (by (with_reducible repeat (first | refine blk_drewN ?_ _ | refine blk_drew ?_ | refine blk_alloc ?_ _)); refine blk_far ?_ NB675_679.out _; (with_reducible repeat (first | refine blk_drewN ?_ _ | refine blk_drew ?_ | refine blk_alloc ?_ _)); refine blk_far ?_ NB675_679.out _; (with_reducible repeat (first | refine blk_drewN ?_ _ | refine blk_drew ?_ | refine blk_alloc ?_ _)); exact BK675.out) hb); have n3_ := Fa.mk (blk_below (g := gb679) (o := .cells #[.int .i64 t676, .int .i64 t677] 23 (0, 0)) (by (with_reducible repeat (first | refine blk_drewN ?_ _ | refine blk_drew ?_ | refine blk_alloc ?_ _)); refine blk_put (cs := #[.int .i64 t676, .int .i64 0]) ?_ 1 _ rfl; (with_reducible repeat (first | refine blk_drewN ?_ _ | refine blk_drew ?_ | refine blk_alloc ?_ _)); refine blk_put (cs := #[.int .i64 0, .int .i64 0]) ?_ 0 _ rfl; (with_reducible repeat (first | refine blk_drewN ?_ _ | refine blk_drew ?_ | refine blk_alloc ?_ _)); exact BK679.out) hb); have n4_ := Fa.mk (bst w hb); clear BK670; clear BK671; clear BK675; clear BK679; clear HB; have BK670 := n0_; have BK671 := n1_; have BK675 := n2_; have BK679 := n3_; have HB := n4_; clear n0_ n1_ n2_ n3_ n4_; (try clear hb); (try clear hb2); (try clear hk); (try clear hi)) | ((with_reducible refine gate_dst (N := 11) rfl ?_); refine boxF (N := 11) (cs := #[.int .i64 0, .int .i64 0]) (t := 23) ?_; intro gb683 hg w33 hbox hb; have n0_ := Fa.mk (blk_below (g := gb670) (o := .cells #[.int .i64 a0_0, .int .i64 a0_1] 23 (0, 0)) fa hb); have n1_ := Fa.mk (blk_below (g := gb671) (o := .cells #[.int .i64 a1_0, .int .i64 a1_1] 23 (0, 0)) fa hb); have n2_ := Fa.mk (blk_below (g := gb675) (o := .cells #[.int .i64 t672, .int .i64 t673] 23 (0, 0)) fa hb); have n3_ := Fa.mk (blk_below (g := gb679) (o := .cells #[.int .i64 t676, .int .i64 t677] 23 (0, 0)) fa hb); have n4_ := Fa.mk (bst w hb); have n5_ := Fa.mk (hbox); have n6_ := Fa.mk (gle hg : w.heap.size ≤ gb683); have n7_ := n6_; have n8_ := Fa.mk (gne (o := .cells #[.int .i64 a0_0, .int .i64 a0_1] 23 (0, 0)) hg : gb670 ≠ gb683); have n9_ := Fa.mk n8_.out.symm; have n10_ := Fa.mk (gne (o := .cells #[.int .i64 a1_0, .int .i64 a1_1] 23 (0, 0)) hg : gb671 ≠ gb683); have n11_ := Fa.mk n10_.out.symm; have n12_ := Fa.mk (gne (o := .cells #[.int .i64 t672, .int .i64 t673] 23 (0, 0)) hg : gb675 ≠ gb683); have n13_ := Fa.mk n12_.out.symm; have n14_ := Fa.mk (gne (o := .cells #[.int .i64 t676, .int .i64 t677] 23 (0, 0)) hg : gb679 ≠ gb683); have n15_ := Fa.mk n14_.out.symm; clear BK670; clear BK671; clear BK675; clear BK679; clear HB; have BK670 := n0_; have BK671 := n1_; have BK675 := n2_; have BK679 := n3_; have HB := n4_; have BK683 := n5_; have GW683 := n6_; have GE683 := n7_; have NB670_683 := n8_; have NB683_670 := n9_; have NB671_683 := n10_; have NB683_671 := n11_; have NB675_683 := n12_; have NB683_675 := n13_; have NB679_683 := n14_; have NB683_679 := n15_; clear n0_ n1_ n2_ n3_ n4_ n5_ n6_ n7_ n8_ n9_ n10_ n11_ n12_ n13_ n14_ n15_; clear hb hbox hg; have hnb34 := NB683_670.out; have hnc34 := NB670_683.out; have hnb35 := NB683_671.out; have hnc35 := NB671_683.out; have hnb36 := NB683_675.out; have hnc36 := NB675_683.out; have hnb37 := NB683_679.out; have hnc37 := NB679_683.out; have hcz38_0 : w33.cell? ⟨gb683, 0, none⟩ = some (.int .i64 0) := (blk_cell BK683.out 0).trans rfl; have hcz38_1 : w33.cell? ⟨gb683, 1, none⟩ = some (.int .i64 0) := (blk_cell BK683.out 1).trans rfl; have hfz38_0 := blk_frozen BK683.out 0; have hfz38_1 := blk_frozen BK683.out 1; have hcz39_0 : w33.cell? ⟨gb670, 0, none⟩ = some (.int .i64 a0_0) := (blk_cell BK670.out 0).trans rfl; have hcz39_1 : w33.cell? ⟨gb670, 1, none⟩ = some (.int .i64 a0_1) := (blk_cell BK670.out 1).trans rfl; have hfz39_0 := blk_frozen BK670.out 0; have hfz39_1 := blk_frozen BK670.out 1) | ((with_reducible refine gate_callee (f := 47) rfl ?_); refine goesA (some 36) rfl rfl Tryd.func47 (by kernel_rfl) rfl #[.agg #[.int .i64 a0_0, .int .i64 a0_1], .int .i64 a2] rfl ?_; (with_reducible refine (fleuronref01_Power.calls k a0_0 a0_1 a2 t684 t685 t686 _ A7.out).mono ?_); rintro e w40 ⟨rfl, hb⟩; refine ⟨_, rfl, ?_⟩; have n0_ := Fa.mk (blk_below (g := gb670) (o := .cells #[.int .i64 a0_0, .int .i64 a0_1] 23 (0, 0)) (by (with_reducible repeat (first | refine blk_drewN ?_ _ | refine blk_drew ?_ | refine blk_alloc ?_ _)); refine blk_far ?_ NB670_683.out _; (with_reducible repeat (first | refine blk_drewN ?_ _ | refine blk_drew ?_ | refine blk_alloc ?_ _)); refine blk_far ?_ NB670_683.out _; (with_reducible repeat (first | refine blk_drewN ?_ _ | refine blk_drew ?_ | refine blk_alloc ?_ _)); exact BK670.out) hb); have n1_ := Fa.mk (blk_below (g := gb671) (o := .cells #[.int .i64 a1_0, .int .i64 a1_1] 23 (0, 0)) (by (with_reducible repeat (first | refine blk_drewN ?_ _ | refine blk_drew ?_ | refine blk_alloc ?_ _)); refine blk_far ?_ NB671_683.out _; (with_reducible repeat (first | refine blk_drewN ?_ _ | refine blk_drew ?_ | refine blk_alloc ?_ _)); refine blk_far ?_ NB671_683.out _; (with_reducible repeat (first | refine blk_drewN ?_ _ | refine blk_drew ?_ | refine blk_alloc ?_ _)); exact BK671.out) hb); have n2_ := Fa.mk (blk_below (g := gb675) (o := .cells #[.int .i64 t672, .int .i64 t673] 23 (0, 0)) (by (with_reducible repeat (first | refine blk_drewN ?_ _ | refine blk_drew ?_ | refine blk_alloc ?_ _)); refine blk_far ?_ NB675_683.out _; (with_reducible repeat (first | refine blk_drewN ?_ _ | refine blk_drew ?_ | refine blk_alloc ?_ _)); refine blk_far ?_ NB675_683.out _; (with_reducible repeat (first | refine blk_drewN ?_ _ | refine blk_drew ?_ | refine blk_alloc ?_ _)); exact BK675.out) hb); have n3_ := Fa.mk (blk_below (g := gb679) (o := .cells #[.int .i64 t676, .int .i64 t677] 23 (0, 0)) (by (with_reducible repeat (first | refine blk_drewN ?_ _ | refine blk_drew ?_ | refine blk_alloc ?_ _)); refine blk_far ?_ NB679_683.out _; (with_reducible repeat (first | refine blk_drewN ?_ _ | refine blk_drew ?_ | refine blk_alloc ?_ _)); refine blk_far ?_ NB679_683.out _; (with_reducible repeat (first | refine blk_drewN ?_ _ | refine blk_drew ?_ | refine blk_alloc ?_ _)); exact BK679.out) hb); have n4_ := Fa.mk (blk_below (g := gb683) (o := .cells #[.int .i64 t680, .int .i64 t681] 23 (0, 0)) (by (with_reducible repeat (first | refine blk_drewN ?_ _ | refine blk_drew ?_ | refine blk_alloc ?_ _)); refine blk_put (cs := #[.int .i64 t680, .int .i64 0]) ?_ 1 _ rfl; (with_reducible repeat (first | refine blk_drewN ?_ _ | refine blk_drew ?_ | refine blk_alloc ?_ _)); refine blk_put (cs := #[.int .i64 0, .int .i64 0]) ?_ 0 _ rfl; (with_reducible repeat (first | refine blk_drewN ?_ _ | refine blk_drew ?_ | refine blk_alloc ?_ _)); exact BK683.out) hb); have n5_ := Fa.mk (bst w hb); clear BK670; clear BK671; clear BK675; clear BK679; clear BK683; clear HB; have BK670 := n0_; have BK671 := n1_; have BK675 := n2_; have BK679 := n3_; have BK683 := n4_; have HB := n5_; clear n0_ n1_ n2_ n3_ n4_ n5_; (try clear hb); (try clear hb2); (try clear hk); (try clear hi)) | ((with_reducible refine gate_dst (N := 13) rfl ?_); refine boxF (N := 13) (cs := #[.int .i64 0, .int .i64 0]) (t := 23) ?_; intro gb687 hg w41 hbox hb; have n0_ := Fa.mk (blk_below (g := gb670) (o := .cells #[.int .i64 a0_0, .int .i64 a0_1] 23 (0, 0)) fa hb); have n1_ := Fa.mk (blk_below (g := gb671) (o := .cells #[.int .i64 a1_0, .int .i64 a1_1] 23 (0, 0)) fa hb); have n2_ := Fa.mk (blk_below (g := gb675) (o := .cells #[.int .i64 t672, .int .i64 t673] 23 (0, 0)) fa hb); have n3_ := Fa.mk (blk_below (g := gb679) (o := .cells #[.int .i64 t676, .int .i64 t677] 23 (0, 0)) fa hb); have n4_ := Fa.mk (blk_below (g := gb683) (o := .cells #[.int .i64 t680, .int .i64 t681] 23 (0, 0)) fa hb); have n5_ := Fa.mk (bst w hb); have n6_ := Fa.mk (hbox); have n7_ := Fa.mk (gle hg : w.heap.size ≤ gb687); have n8_ := n7_; have n9_ := Fa.mk (gne (o := .cells #[.int .i64 a0_0, .int .i64 a0_1] 23 (0, 0)) hg : gb670 ≠ gb687); have n10_ := Fa.mk n9_.out.symm; have n11_ := Fa.mk (gne (o := .cells #[.int .i64 a1_0, .int .i64 a1_1] 23 (0, 0)) hg : gb671 ≠ gb687); have n12_ := Fa.mk n11_.out.symm; have n13_ := Fa.mk (gne (o := .cells #[.int .i64 t672, .int .i64 t673] 23 (0, 0)) hg : gb675 ≠ gb687); have n14_ := Fa.mk n13_.out.symm; have n15_ := Fa.mk (gne (o := .cells #[.int .i64 t676, .int .i64 t677] 23 (0, 0)) hg : gb679 ≠ gb687); have n16_ := Fa.mk n15_.out.symm; have n17_ := Fa.mk (gne (o := .cells #[.int .i64 t680, .int .i64 t681] 23 (0, 0)) hg : gb683 ≠ gb687); have n18_ := Fa.mk n17_.out.symm; clear BK670; clear BK671; clear BK675; clear BK679; clear BK683; clear HB; have BK670 := n0_; have BK671 := n1_; have BK675 := n2_; have BK679 := n3_; have BK683 := n4_; have HB := n5_; have BK687 := n6_; have GW687 := n7_; have GE687 := n8_; have NB670_687 := n9_; have NB687_670 := n10_; have NB671_687 := n11_; have NB687_671 := n12_; have NB675_687 := n13_; have NB687_675 := n14_; have NB679_687 := n15_; have NB687_679 := n16_; have NB683_687 := n17_; have NB687_683 := n18_; clear n0_ n1_ n2_ n3_ n4_ n5_ n6_ n7_ n8_ n9_ n10_ n11_ n12_ n13_ n14_ n15_ n16_ n17_ n18_; clear hb hbox hg; have hnb42 := NB687_670.out; have hnc42 := NB670_687.out; have hnb43 := NB687_671.out; have hnc43 := NB671_687.out; have hnb44 := NB687_675.out; have hnc44 := NB675_687.out; have hnb45 := NB687_679.out; have hnc45 := NB679_687.out; have hnb46 := NB687_683.out; have hnc46 := NB683_687.out; have hcz47_0 : w41.cell? ⟨gb687, 0, none⟩ = some (.int .i64 0) := (blk_cell BK687.out 0).trans rfl; have hcz47_1 : w41.cell? ⟨gb687, 1, none⟩ = some (.int .i64 0) := (blk_cell BK687.out 1).trans rfl; have hfz47_0 := blk_frozen BK687.out 0; have hfz47_1 := blk_frozen BK687.out 1; have hcz48_0 : w41.cell? ⟨gb675, 0, none⟩ = some (.int .i64 t672) := (blk_cell BK675.out 0).trans rfl; have hcz48_1 : w41.cell? ⟨gb675, 1, none⟩ = some (.int .i64 t673) := (blk_cell BK675.out 1).trans rfl; have hfz48_0 := blk_frozen BK675.out 0; have hfz48_1 := blk_frozen BK675.out 1; have hcz49_0 : w41.cell? ⟨gb679, 0, none⟩ = some (.int .i64 t676) := (blk_cell BK679.out 0).trans rfl; have hcz49_1 : w41.cell? ⟨gb679, 1, none⟩ = some (.int .i64 t677) := (blk_cell BK679.out 1).trans rfl; have hfz49_0 := blk_frozen BK679.out 0; have hfz49_1 := blk_frozen BK679.out 1; have hcz50_0 : w41.cell? ⟨gb683, 0, none⟩ = some (.int .i64 t680) := (blk_cell BK683.out 0).trans rfl; have hcz50_1 : w41.cell? ⟨gb683, 1, none⟩ = some (.int .i64 t681) := (blk_cell BK683.out 1).trans rfl; have hfz50_0 := blk_frozen BK683.out 0; have hfz50_1 := blk_frozen BK683.out 1) | (go_at_call 17; (with_reducible refine (fleuronlaw01_awake.calls k  t688 _ A12.out (HG.out.below fa)).mono ?_); rintro e w51 ⟨rfl, hb⟩; have n0_ := Fa.mk (blk_below (g := gb670) (o := .cells #[.int .i64 a0_0, .int .i64 a0_1] 23 (0, 0)) (by (with_reducible repeat (first | refine blk_drewN ?_ _ | refine blk_drew ?_ | refine blk_alloc ?_ _)); refine blk_far ?_ NB670_687.out _; (with_reducible repeat (first | refine blk_drewN ?_ _ | refine blk_drew ?_ | refine blk_alloc ?_ _)); refine blk_far ?_ NB670_687.out _; (with_reducible repeat (first | refine blk_drewN ?_ _ | refine blk_drew ?_ | refine blk_alloc ?_ _)); exact BK670.out) hb); have n1_ := Fa.mk (blk_below (g := gb671) (o := .cells #[.int .i64 a1_0, .int .i64 a1_1] 23 (0, 0)) (by (with_reducible repeat (first | refine blk_drewN ?_ _ | refine blk_drew ?_ | refine blk_alloc ?_ _)); refine blk_far ?_ NB671_687.out _; (with_reducible repeat (first | refine blk_drewN ?_ _ | refine blk_drew ?_ | refine blk_alloc ?_ _)); refine blk_far ?_ NB671_687.out _; (with_reducible repeat (first | refine blk_drewN ?_ _ | refine blk_drew ?_ | refine blk_alloc ?_ _)); exact BK671.out) hb); have n2_ := Fa.mk (blk_below (g := gb675) (o := .cells #[.int .i64 t672, .int .i64 t673] 23 (0, 0)) (by (with_reducible repeat (first | refine blk_drewN ?_ _ | refine blk_drew ?_ | refine blk_alloc ?_ _)); refine blk_far ?_ NB675_687.out _; (with_reducible repeat (first | refine blk_drewN ?_ _ | refine blk_drew ?_ | refine blk_alloc ?_ _)); refine blk_far ?_ NB675_687.out _; (with_reducible repeat (first | refine blk_drewN ?_ _ | refine blk_drew ?_ | refine blk_alloc ?_ _)); exact BK675.out) hb); have n3_ := Fa.mk (blk_below (g := gb679) (o := .cells #[.int .i64 t676, .int .i64 t677] 23 (0, 0)) (by (with_reducible repeat (first | refine blk_drewN ?_ _ | refine blk_drew ?_ | refine blk_alloc ?_ _)); refine blk_far ?_ NB679_687.out _; (with_reducible repeat (first | refine blk_drewN ?_ _ | refine blk_drew ?_ | refine blk_alloc ?_ _)); refine blk_far ?_ NB679_687.out _; (with_reducible repeat (first | refine blk_drewN ?_ _ | refine blk_drew ?_ | refine blk_alloc ?_ _)); exact BK679.out) hb); have n4_ := Fa.mk (blk_below (g := gb683) (o := .cells #[.int .i64 t680, .int .i64 t681] 23 (0, 0)) (by (with_reducible repeat (first | refine blk_drewN ?_ _ | refine blk_drew ?_ | refine blk_alloc ?_ _)); refine blk_far ?_ NB683_687.out _; (with_reducible repeat (first | refine blk_drewN ?_ _ | refine blk_drew ?_ | refine blk_alloc ?_ _)); refine blk_far ?_ NB683_687.out _; (with_reducible repeat (first | refine blk_drewN ?_ _ | refine blk_drew ?_ | refine blk_alloc ?_ _)); exact BK683.out) hb); have n5_ := Fa.mk (blk_below (g := gb687) (o := .cells #[.int .i64 t684, .int .i64 t685] 23 (0, 0)) (by (with_reducible repeat (first | refine blk_drewN ?_ _ | refine blk_drew ?_ | refine blk_alloc ?_ _)); refine blk_put (cs := #[.int .i64 t684, .int .i64 0]) ?_ 1 _ rfl; (with_reducible repeat (first | refine blk_drewN ?_ _ | refine blk_drew ?_ | refine blk_alloc ?_ _)); refine blk_put (cs := #[.int .i64 0, .int .i64 0]) ?_ 0 _ rfl; (with_reducible repeat (first | refine blk_drewN ?_ _ | refine blk_drew ?_ | refine blk_alloc ?_ _)); exact BK687.out) hb); have n6_ := Fa.mk (bst w hb); clear BK670; clear BK671; clear BK675; clear BK679; clear BK683; clear BK687; clear HB; have BK670 := n0_; have BK671 := n1_; have BK675 := n2_; have BK679 := n3_; have BK683 := n4_; have BK687 := n5_; have HB := n6_; clear n0_ n1_ n2_ n3_ n4_ n5_ n6_; (try clear hb); (try clear hb2); (try clear hk); (try clear hi)))
          go_ret
          exact ⟨by first | rfl | (simp [errW_none, errW_some] <;> rfl) | (simp [*, errW_none, errW_some] <;> rfl), fa⟩
        · rw [if_neg c11] at H
          exact absurd H (by simp)
      · rw [if_neg c10] at H
        exact absurd H (by simp)
    · rw [if_neg c9] at H
      exact absurd H (by simp)
  · rw [if_neg c8] at H
    exact absurd H (by simp)

end Go.Proofs.YtndbdnkpnjibkaaDoor.P
