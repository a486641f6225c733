-- PRINTED by print.py (a twelfth state) out of the translation. Not trusted: Lean checks it.
import Derived.Test.YtndbdnkpnjibkaaDoorPx0
import Derived.Test.YtndbdnkpnjibkaaDoorPxEq1
import Derived.Test.YtndbdnkpnjibkaaDoorPxnumdo
import Derived.Test.YtndbdnkpnjibkaaDoorPxfleuronlaw01awake
import Derived.Test.YtndbdnkpnjibkaaDoorPxfleuronref01lowest
import Derived.Test.YtndbdnkpnjibkaaDoorPxfleuronref01exact
import Derived.Test.YtndbdnkpnjibkaaDoorPxfleuronref01fixed
namespace Go.Proofs.YtndbdnkpnjibkaaDoor.P
open Go.RowKit Go.Proofs.YtndbdnkpnjibkaaDoorW.PrintWords Go.Proofs.YtndbdnkpnjibkaaDoorW.PrintLast Go.Proofs.YtndbdnkpnjibkaaDoorW.PrintMore
attribute [local go_sem] max2_int min2_int max_two min_two max_three min_three max_four min_four   -- for this text's walks alone
set_option linter.unusedVariables false
set_option linter.unusedSimpArgs false

attribute [local go_sem high] eqA23
/-! ### fleuronref01_Near: function 19 -/
def fleuronref01_Near.j0 : Nat → ByteArray → Bool → Int → Int → Int → Int → Option (Int × Int × Int)
  | 0, _, _, _, _, _, _ => none
  | k + 1, x0, x25, x270000, x270001, x271000, x271001 => if x25 = true then (some (0, 0, 2)) else ((fleuronref01_result.f k x0 x270000 x270001 x271000 x271001).bind fun bt272 => (if bt272.2.2 = 17 then ((fleuronref01_exact.f x0 x270000 x270001 x271000 x271001).bind fun bt276 => ((fleuronref01_fixed.f k bt276.1 bt276.2).bind fun bt278 => (if bt278.2 = true then ((fleuronref01_Make.f k bt278.1 65536).bind fun bt280 => (some (bt280.1, bt280.2.1, bt280.2.2))) else (some (0, 0, 17))))) else (some (bt272.1, bt272.2.1, bt272.2.2))))
def fleuronref01_Near.f (k : Nat) (a0 : ByteArray) (a1_0 : Int) (a1_1 : Int) (a2_0 : Int) (a2_1 : Int) : Option (Int × Int × Int) := if a0.toList = ([43] : List UInt8) then (fleuronref01_Near.j0 k a0 false a1_0 a1_1 a2_0 a2_1) else (if a0.toList = ([45] : List UInt8) then (fleuronref01_Near.j0 k a0 false a1_0 a1_1 a2_0 a2_1) else (if a0.toList = ([42] : List UInt8) then (fleuronref01_Near.j0 k a0 false a1_0 a1_1 a2_0 a2_1) else (fleuronref01_Near.j0 k a0 (a0.toList != ([47] : List UInt8)) a1_0 a1_1 a2_0 a2_1)))
theorem fleuronref01_Near.mono_l : ∀ k, (∀ y0 y1 y2 y3 y4 y5, LeO (fleuronref01_Near.j0 k y0 y1 y2 y3 y4 y5) (fleuronref01_Near.j0 (k + 1) y0 y1 y2 y3 y4 y5))
  | 0 => fun _ _ _ _ _ _ r h => by simp [fleuronref01_Near.j0] at h
  | k + 1 => by
    have ih0 := fleuronref01_Near.mono_l k
    · intro y0 y1 y2 y3 y4 y5
      unfold fleuronref01_Near.j0
      repeat' first
      | (with_reducible exact ih0 _ _ _ _ _ _)
      | (with_reducible exact fleuronref01_Make.mono _ _ _)
      | (with_reducible exact fleuronref01_fixed.mono _ _ _)
      | (with_reducible exact fleuronref01_result.mono _ _ _ _ _ _)
      | (with_reducible exact LeO.refl _)
      | (with_reducible exact LeO.none _)
      | (with_reducible refine LeO.ite ?_ ?_)
      | (with_reducible refine LeO.bind ?_ (fun _ => ?_))
      | exact ih0 _ _ _ _ _ _
      | exact fleuronref01_Make.mono _ _ _
      | exact fleuronref01_fixed.mono _ _ _
      | exact fleuronref01_result.mono _ _ _ _ _ _
      | exact LeO.none _
      | refine LeO.ite ?_ ?_
      | refine LeO.bind ?_ (fun _ => ?_)
theorem fleuronref01_Near.mono : ∀ a0 a1 a2 a3 a4 k, LeO (fleuronref01_Near.f k a0 a1 a2 a3 a4) (fleuronref01_Near.f (k + 1) a0 a1 a2 a3 a4) := by
  intro a0 a1 a2 a3 a4 k
  have ih0 := fleuronref01_Near.mono_l k
  unfold fleuronref01_Near.f
  repeat' first
      | (with_reducible exact ih0 _ _ _ _ _ _)
      | (with_reducible exact fleuronref01_Make.mono _ _ _)
      | (with_reducible exact fleuronref01_fixed.mono _ _ _)
      | (with_reducible exact fleuronref01_result.mono _ _ _ _ _ _)
      | (with_reducible exact LeO.refl _)
      | (with_reducible exact LeO.none _)
      | (with_reducible refine LeO.ite ?_ ?_)
      | (with_reducible refine LeO.bind ?_ (fun _ => ?_))
      | exact ih0 _ _ _ _ _ _
      | exact fleuronref01_Make.mono _ _ _
      | exact fleuronref01_fixed.mono _ _ _
      | exact fleuronref01_result.mono _ _ _ _ _ _
      | exact LeO.none _
      | refine LeO.ite ?_ ?_
      | refine LeO.bind ?_ (fun _ => ?_)
set_option maxHeartbeats 8000000 in
set_option maxRecDepth 100000 in
theorem fleuronref01_Near.calls (k : Nat) (a0 : ByteArray) (a1_0 : Int) (a1_1 : Int) (a2_0 : Int) (a2_1 : Int) (r1 : Int) (r2 : Int) (r3 : Int) (w : World) (h : fleuronref01_Near.f k a0 a1_0 a1_1 a2_0 a2_1 = some (r1, r2, r3)) :
    Calls Tryd.prog 19 #[.string a0, .agg #[.int .i64 a1_0, .int .i64 a1_1], .agg #[.int .i64 a2_0, .int .i64 a2_1]] w fun e w' => e = .returned (.tuple #[.agg #[.int .i64 r1, .int .i64 r2], .int .i64 r3]) ∧ Below w.heap.size w w' := by
  have hu23 := Tryd.underlying23
  have HB := Fa.mk (Below.refl w.heap.size w)
  have H : (if a0.toList = ([43] : List UInt8) then (fleuronref01_Near.j0 k a0 false a1_0 a1_1 a2_0 a2_1) else (if a0.toList = ([45] : List UInt8) then (fleuronref01_Near.j0 k a0 false a1_0 a1_1 a2_0 a2_1) else (if a0.toList = ([42] : List UInt8) then (fleuronref01_Near.j0 k a0 false a1_0 a1_1 a2_0 a2_1) else (fleuronref01_Near.j0 k a0 (a0.toList != ([47] : List UInt8)) a1_0 a1_1 a2_0 a2_1)))) = some (r1, r2, r3) := h
  clear h
  have HC4 := Fa.mk H
  clear H
  go_enter Tryd.func19, Tryd.ntmps19
  go_upto_region 1 with (first | ((with_reducible refine gate_dst (N := 4) rfl ?_); refine boxF (N := 4) (cs := #[.int .i64 a1_0, .int .i64 a1_1]) (t := 23) ?_; intro gb269 hg w5 hbox hb; have n0_ := Fa.mk (bst w hb); have n1_ := Fa.mk (hbox); have n2_ := Fa.mk (gle hg : w.heap.size ≤ gb269); have n3_ := n2_; clear HB; have HB := n0_; have BK269 := n1_; have GW269 := n2_; have GE269 := n3_; clear n0_ n1_ n2_ n3_; clear hb hbox hg) | ((with_reducible refine gate_dst (N := 5) rfl ?_); refine boxF (N := 5) (cs := #[.int .i64 a2_0, .int .i64 a2_1]) (t := 23) ?_; intro gb270 hg w6 hbox hb; have n0_ := Fa.mk (blk_below (g := gb269) (o := .cells #[.int .i64 a1_0, .int .i64 a1_1] 23 (0, 0)) fa hb); have n1_ := Fa.mk (bst w hb); have n2_ := Fa.mk (hbox); have n3_ := Fa.mk (gle hg : w.heap.size ≤ gb270); have n4_ := n3_; have n5_ := Fa.mk (gne (o := .cells #[.int .i64 a1_0, .int .i64 a1_1] 23 (0, 0)) hg : gb269 ≠ gb270); have n6_ := Fa.mk n5_.out.symm; clear BK269; clear HB; have BK269 := n0_; have HB := n1_; have BK270 := n2_; have GW270 := n3_; have GE270 := n4_; have NB269_270 := n5_; have NB270_269 := n6_; clear n0_ n1_ n2_ n3_ n4_ n5_ n6_; clear hb hbox hg) | ((with_reducible refine gate_dst (N := 6) rfl ?_); refine boxF (N := 6) (cs := #[.int .i64 0, .int .i64 0]) (t := 23) ?_; intro gb271 hg w7 hbox hb; have n0_ := Fa.mk (blk_below (g := gb269) (o := .cells #[.int .i64 a1_0, .int .i64 a1_1] 23 (0, 0)) fa hb); have n1_ := Fa.mk (blk_below (g := gb270) (o := .cells #[.int .i64 a2_0, .int .i64 a2_1] 23 (0, 0)) fa hb); have n2_ := Fa.mk (bst w hb); have n3_ := Fa.mk (hbox); have n4_ := Fa.mk (gle hg : w.heap.size ≤ gb271); have n5_ := n4_; have n6_ := Fa.mk (gne (o := .cells #[.int .i64 a1_0, .int .i64 a1_1] 23 (0, 0)) hg : gb269 ≠ gb271); have n7_ := Fa.mk n6_.out.symm; have n8_ := Fa.mk (gne (o := .cells #[.int .i64 a2_0, .int .i64 a2_1] 23 (0, 0)) hg : gb270 ≠ gb271); have n9_ := Fa.mk n8_.out.symm; clear BK269; clear BK270; clear HB; have BK269 := n0_; have BK270 := n1_; have HB := n2_; have BK271 := n3_; have GW271 := n4_; have GE271 := n5_; have NB269_271 := n6_; have NB271_269 := n7_; have NB270_271 := n8_; have NB271_270 := n9_; clear n0_ n1_ n2_ n3_ n4_ n5_ n6_ n7_ n8_ n9_; clear hb hbox hg))
  (try simp only [Act.put, List.setIfInBounds_toArray, List.set_cons_zero, List.set_cons_succ])
  go_cut [25] (fun v25 wc => ∃ (kq : Nat) (x25_3 : Bool), v25 = .bool x25_3 ∧ Fa (fleuronref01_Near.j0 kq a0 x25_3 a1_0 a1_1 a2_0 a2_1 = some (r1, r2, r3)) ∧ Fa (kq ≤ k) ∧ Fa (wc.heap[gb269]? = some (.cells #[.int .i64 a1_0, .int .i64 a1_1] 23 (0, 0))) ∧ Fa (wc.heap[gb270]? = some (.cells #[.int .i64 a2_0, .int .i64 a2_1] 23 (0, 0))) ∧ Fa (wc.heap[gb271]? = some (.cells #[.int .i64 0, .int .i64 0] 23 (0, 0))) ∧ Fa (Below w.heap.size w wc))
  case first =>
    have H := HC4.out
    clear HC4
    by_cases c8 : a0.toList = ([43] : List UInt8)
    · rw [if_pos c8] at H
      have c8b0 : (a0.toList == ([43] : List UInt8)) = true := beq_iff_eq.mpr c8
      have c8b1 : (a0.toList != ([43] : List UInt8)) = false := bne_eq_false_iff_eq.mpr c8
      clear c8
      (first | rw [c8b0] | (simp only [i64_w, i32_w]; rw [c8b0]) | skip)
      have H' := Fa.mk H
      clear H
      go_wp2
      go_meet
      case rel => exact ⟨_, (false), (by first | rfl | (simp; done) | (simp [*]; done)), H', ⟨by first | omega | exact Nat.le_refl _⟩, ⟨by (with_reducible repeat (first | refine blk_drewN ?_ _ | refine blk_drew ?_ | refine blk_alloc ?_ _)); exact BK269.out⟩, ⟨by (with_reducible repeat (first | refine blk_drewN ?_ _ | refine blk_drew ?_ | refine blk_alloc ?_ _)); exact BK270.out⟩, ⟨by (with_reducible repeat (first | refine blk_drewN ?_ _ | refine blk_drew ?_ | refine blk_alloc ?_ _)); exact BK271.out⟩, ⟨fa⟩⟩
    · rw [if_neg c8] at H
      have c8b0 : (a0.toList == ([43] : List UInt8)) = false := beq_eq_false_iff_ne.mpr c8
      have c8b1 : (a0.toList != ([43] : List UInt8)) = true := bne_iff_ne.mpr c8
      (first | rw [c8b0] | (simp only [i64_w, i32_w]; rw [c8b0]) | skip)
      by_cases c9 : a0.toList = ([45] : List UInt8)
      · rw [if_pos c9] at H
        have c9b0 : (a0.toList == ([45] : List UInt8)) = true := beq_iff_eq.mpr c9
        have c9b1 : (a0.toList != ([45] : List UInt8)) = false := bne_eq_false_iff_eq.mpr c9
        clear c9
        have H' := Fa.mk H
        clear H
        go_wp2
        go_meet
        case rel => exact ⟨_, (false), (by first | rfl | (simp; done) | (simp [*]; done)), H', ⟨by first | omega | exact Nat.le_refl _⟩, ⟨by (with_reducible repeat (first | refine blk_drewN ?_ _ | refine blk_drew ?_ | refine blk_alloc ?_ _)); exact BK269.out⟩, ⟨by (with_reducible repeat (first | refine blk_drewN ?_ _ | refine blk_drew ?_ | refine blk_alloc ?_ _)); exact BK270.out⟩, ⟨by (with_reducible repeat (first | refine blk_drewN ?_ _ | refine blk_drew ?_ | refine blk_alloc ?_ _)); exact BK271.out⟩, ⟨fa⟩⟩
      · rw [if_neg c9] at H
        have c9b0 : (a0.toList == ([45] : List UInt8)) = false := beq_eq_false_iff_ne.mpr c9
        have c9b1 : (a0.toList != ([45] : List UInt8)) = true := bne_iff_ne.mpr c9
        by_cases c10 : a0.toList = ([42] : List UInt8)
        · rw [if_pos c10] at H
          have c10b0 : (a0.toList == ([42] : List UInt8)) = true := beq_iff_eq.mpr c10
          have c10b1 : (a0.toList != ([42] : List UInt8)) = false := bne_eq_false_iff_eq.mpr c10
          clear c10
          have H' := Fa.mk H
          clear H
          go_wp2
          go_meet
          case rel => exact ⟨_, (false), (by first | rfl | (simp; done) | (simp [*]; done)), H', ⟨by first | omega | exact Nat.le_refl _⟩, ⟨by (with_reducible repeat (first | refine blk_drewN ?_ _ | refine blk_drew ?_ | refine blk_alloc ?_ _)); exact BK269.out⟩, ⟨by (with_reducible repeat (first | refine blk_drewN ?_ _ | refine blk_drew ?_ | refine blk_alloc ?_ _)); exact BK270.out⟩, ⟨by (with_reducible repeat (first | refine blk_drewN ?_ _ | refine blk_drew ?_ | refine blk_alloc ?_ _)); exact BK271.out⟩, ⟨fa⟩⟩
        · rw [if_neg c10] at H
          have c10b0 : (a0.toList == ([42] : List UInt8)) = false := beq_eq_false_iff_ne.mpr c10
          have c10b1 : (a0.toList != ([42] : List UInt8)) = true := bne_iff_ne.mpr c10
          have H' := Fa.mk H
          clear H
          go_wp2
          go_meet
          case rel => exact ⟨_, ((a0.toList != ([47] : List UInt8))), (by first | rfl | (simp; done) | (simp [*]; done)), H', ⟨by first | omega | exact Nat.le_refl _⟩, ⟨by (with_reducible repeat (first | refine blk_drewN ?_ _ | refine blk_drew ?_ | refine blk_alloc ?_ _)); exact BK269.out⟩, ⟨by (with_reducible repeat (first | refine blk_drewN ?_ _ | refine blk_drew ?_ | refine blk_alloc ?_ _)); exact BK270.out⟩, ⟨by (with_reducible repeat (first | refine blk_drewN ?_ _ | refine blk_drew ?_ | refine blk_alloc ?_ _)); exact BK271.out⟩, ⟨fa⟩⟩
  case rest =>
    clear HC4
    try clear c1
    try clear p2
    try clear c8
    try clear c8b0
    try clear c8b1
    try clear c9
    try clear c9b0
    try clear c9b1
    try clear c10
    try clear c10b0
    try clear c10b1
    obtain ⟨kq, x25_3, rfl, HA, HJ3, BK269, BK270, BK271, HB⟩ := hcut
    cases kq with
    | zero => exact absurd HA.out (by simp [fleuronref01_Near.j0])
    | succ kj3 =>
      have H := HA.out
      clear HA
      simp only [fleuronref01_Near.j0] at H
      by_cases c11 : x25_3 = true
      · subst c11
        have H1 : (some (0, 0, 2)) = some (r1, r2, r3) := by rw [if_pos rfl] at H; exact H
        clear H
        have H := H1
        clear H1
        simp only [Option.some.injEq, Prod.mk.injEq] at H
        obtain ⟨rfl, rfl, rfl⟩ := H
        have hnb12 := NB271_269.out
        have hnc12 := NB269_271.out
        have hnb13 := NB271_270.out
        have hnc13 := NB270_271.out
        have hcz14_0 : wc.cell? ⟨gb271, 0, none⟩ = some (.int .i64 0) := (blk_cell BK271.out 0).trans rfl
        have hcz14_1 : wc.cell? ⟨gb271, 1, none⟩ = some (.int .i64 0) := (blk_cell BK271.out 1).trans rfl
        have hfz14_0 := blk_frozen BK271.out 0
        have hfz14_1 := blk_frozen BK271.out 1
        go_wp2
        refine bodyPost_ret (results_ct rfl _ _ gb271 23 #[.int .i64 0, .int .i64 0] (0, 0) _ rfl (by (with_reducible repeat (first | refine blk_drewN ?_ _ | refine blk_drew ?_ | refine blk_alloc ?_ _)); refine blk_put (cs := #[.int .i64 0, .int .i64 0]) ?_ 1 _ rfl; (with_reducible repeat (first | refine blk_drewN ?_ _ | refine blk_drew ?_ | refine blk_alloc ?_ _)); refine blk_put (cs := #[.int .i64 0, .int .i64 0]) ?_ 0 _ rfl; (with_reducible repeat (first | refine blk_drewN ?_ _ | refine blk_drew ?_ | refine blk_alloc ?_ _)); exact BK271.out) Tryd.underlying23 rfl (by kernel_rfl)) rfl ?_
        exact ⟨by first | rfl | (simp [errW_none, errW_some] <;> rfl) | (simp [*, errW_none, errW_some] <;> rfl), fa⟩
      · replace c11 := Bool.eq_false_iff.mpr c11
        subst c11
        have H1 : ((fleuronref01_result.f kj3 a0 a1_0 a1_1 a2_0 a2_1).bind fun bt272 => (if bt272.2.2 = 17 then ((fleuronref01_exact.f a0 a1_0 a1_1 a2_0 a2_1).bind fun bt276 => ((fleuronref01_fixed.f kj3 bt276.1 bt276.2).bind fun bt278 => (if bt278.2 = true then ((fleuronref01_Make.f kj3 bt278.1 65536).bind fun bt280 => (some (bt280.1, bt280.2.1, bt280.2.2))) else (some (0, 0, 17))))) else (some (bt272.1, bt272.2.1, bt272.2.2)))) = some (r1, r2, r3) := by rw [if_neg (show ¬ (false = true) by decide)] at H; exact H
        clear H
        have H := H1
        clear H1
        replace H := Option.bind_eq_some_iff.mp H
        obtain ⟨⟨t272, t273, t274⟩, A150, H⟩ := H
        replace H : (if t274 = 17 then ((fleuronref01_exact.f a0 a1_0 a1_1 a2_0 a2_1).bind fun bt276 => ((fleuronref01_fixed.f kj3 bt276.1 bt276.2).bind fun bt278 => (if bt278.2 = true then ((fleuronref01_Make.f kj3 bt278.1 65536).bind fun bt280 => (some (bt280.1, bt280.2.1, bt280.2.2))) else (some (0, 0, 17))))) else (some (t272, t273, t274))) = some (r1, r2, r3) := H
        have A15 := Fa.mk A150
        clear A150
        by_cases c16 : t274 = 17
        · rw [if_pos c16] at H
          have c16b0 : (t274 == 17) = true := beq_iff_eq.mpr c16
          have c16b1 : (t274 != 17) = false := bne_eq_false_iff_eq.mpr c16
          clear c16
          replace H := Option.bind_eq_some_iff.mp H
          obtain ⟨⟨t276, t277⟩, A170, H⟩ := H
          replace H : ((fleuronref01_fixed.f kj3 t276 t277).bind fun bt278 => (if bt278.2 = true then ((fleuronref01_Make.f kj3 bt278.1 65536).bind fun bt280 => (some (bt280.1, bt280.2.1, bt280.2.2))) else (some (0, 0, 17)))) = some (r1, r2, r3) := H
          have A17 := Fa.mk A170
          clear A170
          replace H := Option.bind_eq_some_iff.mp H
          obtain ⟨⟨t278, t279⟩, A180, H⟩ := H
          replace H : (if t279 = true then ((fleuronref01_Make.f kj3 t278 65536).bind fun bt280 => (some (bt280.1, bt280.2.1, bt280.2.2))) else (some (0, 0, 17))) = some (r1, r2, r3) := H
          have A18 := Fa.mk A180
          clear A180
          by_cases c19 : t279 = true
          · subst c19
            have H1 : ((fleuronref01_Make.f kj3 t278 65536).bind fun bt280 => (some (bt280.1, bt280.2.1, bt280.2.2))) = some (r1, r2, r3) := by rw [if_pos rfl] at H; exact H
            clear H
            have H := H1
            clear H1
            replace H := Option.bind_eq_some_iff.mp H
            obtain ⟨⟨t280, t281, t282⟩, A200, H⟩ := H
            replace H : (some (t280, t281, t282)) = some (r1, r2, r3) := H
            have A20 := Fa.mk A200
            clear A200
            simp only [Option.some.injEq, Prod.mk.injEq] at H
            obtain ⟨rfl, rfl, rfl⟩ := H
            have hnb21 := NB269_270.out
            have hnc21 := NB270_269.out
            have hnb22 := NB269_271.out
            have hnc22 := NB271_269.out
            have hcz23_0 : wc.cell? ⟨gb269, 0, none⟩ = some (.int .i64 a1_0) := (blk_cell BK269.out 0).trans rfl
            have hcz23_1 : wc.cell? ⟨gb269, 1, none⟩ = some (.int .i64 a1_1) := (blk_cell BK269.out 1).trans rfl
            have hfz23_0 := blk_frozen BK269.out 0
            have hfz23_1 := blk_frozen BK269.out 1
            have hnb24 := NB270_271.out
            have hnc24 := NB271_270.out
            have hcz25_0 : wc.cell? ⟨gb270, 0, none⟩ = some (.int .i64 a2_0) := (blk_cell BK270.out 0).trans rfl
            have hcz25_1 : wc.cell? ⟨gb270, 1, none⟩ = some (.int .i64 a2_1) := (blk_cell BK270.out 1).trans rfl
            have hfz25_0 := blk_frozen BK270.out 0
            have hfz25_1 := blk_frozen BK270.out 1
            go_wp2_with (first | ((with_reducible refine gate_callee (f := 53) rfl ?_); refine goesA (some 31) rfl rfl Tryd.func53 (by kernel_rfl) rfl #[.string a0, .agg #[.int .i64 a1_0, .int .i64 a1_1], .agg #[.int .i64 a2_0, .int .i64 a2_1]] rfl ?_; (with_reducible refine (fleuronref01_result.calls kj3 a0 a1_0 a1_1 a2_0 a2_1 t272 t273 t274 _ A15.out).mono ?_); rintro e w26 ⟨rfl, hb⟩; refine ⟨_, rfl, ?_⟩; have n0_ := Fa.mk (blk_below (g := gb269) (o := .cells #[.int .i64 a1_0, .int .i64 a1_1] 23 (0, 0)) fa hb); have n1_ := Fa.mk (blk_below (g := gb270) (o := .cells #[.int .i64 a2_0, .int .i64 a2_1] 23 (0, 0)) fa hb); have n2_ := Fa.mk (blk_below (g := gb271) (o := .cells #[.int .i64 0, .int .i64 0] 23 (0, 0)) fa hb); have n3_ := Fa.mk (bst w hb); clear BK269; clear BK270; clear BK271; clear HB; have BK269 := n0_; have BK270 := n1_; have BK271 := n2_; have HB := n3_; clear n0_ n1_ n2_ n3_; (try clear hb); (try clear hb2); (try clear hk); (try clear hi)) | ((with_reducible refine gate_dst (N := 8) rfl ?_); refine boxF (N := 8) (cs := #[.int .i64 0, .int .i64 0]) (t := 23) ?_; intro gb275 hg w27 hbox hb; have n0_ := Fa.mk (blk_below (g := gb269) (o := .cells #[.int .i64 a1_0, .int .i64 a1_1] 23 (0, 0)) fa hb); have n1_ := Fa.mk (blk_below (g := gb270) (o := .cells #[.int .i64 a2_0, .int .i64 a2_1] 23 (0, 0)) fa hb); have n2_ := Fa.mk (blk_below (g := gb271) (o := .cells #[.int .i64 0, .int .i64 0] 23 (0, 0)) fa hb); have n3_ := Fa.mk (bst w hb); have n4_ := Fa.mk (hbox); have n5_ := Fa.mk (gle hg : w.heap.size ≤ gb275); have n6_ := n5_; have n7_ := Fa.mk (gne (o := .cells #[.int .i64 a1_0, .int .i64 a1_1] 23 (0, 0)) hg : gb269 ≠ gb275); have n8_ := Fa.mk n7_.out.symm; have n9_ := Fa.mk (gne (o := .cells #[.int .i64 a2_0, .int .i64 a2_1] 23 (0, 0)) hg : gb270 ≠ gb275); have n10_ := Fa.mk n9_.out.symm; have n11_ := Fa.mk (gne (o := .cells #[.int .i64 0, .int .i64 0] 23 (0, 0)) hg : gb271 ≠ gb275); have n12_ := Fa.mk n11_.out.symm; clear BK269; clear BK270; clear BK271; clear HB; have BK269 := n0_; have BK270 := n1_; have BK271 := n2_; have HB := n3_; have BK275 := n4_; have GW275 := n5_; have GE275 := n6_; have NB269_275 := n7_; have NB275_269 := n8_; have NB270_275 := n9_; have NB275_270 := n10_; have NB271_275 := n11_; have NB275_271 := n12_; clear n0_ n1_ n2_ n3_ n4_ n5_ n6_ n7_ n8_ n9_ n10_ n11_ n12_; clear hb hbox hg; have hnb28 := NB275_269.out; have hnc28 := NB269_275.out; have hnb29 := NB275_270.out; have hnc29 := NB270_275.out; have hnb30 := NB275_271.out; have hnc30 := NB271_275.out; have hcz31_0 : w27.cell? ⟨gb275, 0, none⟩ = some (.int .i64 0) := (blk_cell BK275.out 0).trans rfl; have hcz31_1 : w27.cell? ⟨gb275, 1, none⟩ = some (.int .i64 0) := (blk_cell BK275.out 1).trans rfl; have hfz31_0 := blk_frozen BK275.out 0; have hfz31_1 := blk_frozen BK275.out 1; have hcz32_0 : w27.cell? ⟨gb269, 0, none⟩ = some (.int .i64 a1_0) := (blk_cell BK269.out 0).trans rfl; have hcz32_1 : w27.cell? ⟨gb269, 1, none⟩ = some (.int .i64 a1_1) := (blk_cell BK269.out 1).trans rfl; have hfz32_0 := blk_frozen BK269.out 0; have hfz32_1 := blk_frozen BK269.out 1; have hcz33_0 : w27.cell? ⟨gb270, 0, none⟩ = some (.int .i64 a2_0) := (blk_cell BK270.out 0).trans rfl; have hcz33_1 : w27.cell? ⟨gb270, 1, none⟩ = some (.int .i64 a2_1) := (blk_cell BK270.out 1).trans rfl; have hfz33_0 := blk_frozen BK270.out 0; have hfz33_1 := blk_frozen BK270.out 1) | ((with_reducible refine gate_callee (f := 55) rfl ?_); refine goesA (some 42) rfl rfl Tryd.func55 (by kernel_rfl) rfl #[.string a0, .agg #[.int .i64 a1_0, .int .i64 a1_1], .agg #[.int .i64 a2_0, .int .i64 a2_1]] rfl ?_; (with_reducible refine (fleuronref01_exact.calls a0 a1_0 a1_1 a2_0 a2_1 t276 t277 _ A17.out).mono ?_); rintro e w34 ⟨rfl, hb⟩; refine ⟨_, rfl, ?_⟩; have n0_ := Fa.mk (blk_below (g := gb269) (o := .cells #[.int .i64 a1_0, .int .i64 a1_1] 23 (0, 0)) (by (with_reducible repeat (first | refine blk_drewN ?_ _ | refine blk_drew ?_ | refine blk_alloc ?_ _)); refine blk_far ?_ NB269_275.out _; (with_reducible repeat (first | refine blk_drewN ?_ _ | refine blk_drew ?_ | refine blk_alloc ?_ _)); refine blk_far ?_ NB269_275.out _; (with_reducible repeat (first | refine blk_drewN ?_ _ | refine blk_drew ?_ | refine blk_alloc ?_ _)); exact BK269.out) hb); have n1_ := Fa.mk (blk_below (g := gb270) (o := .cells #[.int .i64 a2_0, .int .i64 a2_1] 23 (0, 0)) (by (with_reducible repeat (first | refine blk_drewN ?_ _ | refine blk_drew ?_ | refine blk_alloc ?_ _)); refine blk_far ?_ NB270_275.out _; (with_reducible repeat (first | refine blk_drewN ?_ _ | refine blk_drew ?_ | refine blk_alloc ?_ _)); refine blk_far ?_ NB270_275.out _; (with_reducible repeat (first | refine blk_drewN ?_ _ | refine blk_drew ?_ | refine blk_alloc ?_ _)); exact BK270.out) hb); have n2_ := Fa.mk (blk_below (g := gb271) (o := .cells #[.int .i64 0, .int .i64 0] 23 (0, 0)) (by (with_reducible repeat (first | refine blk_drewN ?_ _ | refine blk_drew ?_ | refine blk_alloc ?_ _)); refine blk_far ?_ NB271_275.out _; (with_reducible repeat (first | refine blk_drewN ?_ _ | refine blk_drew ?_ | refine blk_alloc ?_ _)); refine blk_far ?_ NB271_275.out _; (with_reducible repeat (first | refine blk_drewN ?_ _ | refine blk_drew ?_ | refine blk_alloc ?_ _)); exact BK271.out) hb); have n3_ := Fa.mk (blk_below (g := gb275) (o := .cells #[.int .i64 t272, .int .i64 t273] 23 (0, 0)) (by (with_reducible repeat (first | refine blk_drewN ?_ _ | refine blk_drew ?_ | refine blk_alloc ?_ _)); refine blk_put (cs := #[.int .i64 t272, .int .i64 0]) ?_ 1 _ rfl; (with_reducible repeat (first | refine blk_drewN ?_ _ | refine blk_drew ?_ | refine blk_alloc ?_ _)); refine blk_put (cs := #[.int .i64 0, .int .i64 0]) ?_ 0 _ rfl; (with_reducible repeat (first | refine blk_drewN ?_ _ | refine blk_drew ?_ | refine blk_alloc ?_ _)); exact BK275.out) hb); have n4_ := Fa.mk (bst w hb); clear BK269; clear BK270; clear BK271; clear BK275; clear HB; have BK269 := n0_; have BK270 := n1_; have BK271 := n2_; have BK275 := n3_; have HB := n4_; clear n0_ n1_ n2_ n3_ n4_; (try clear hb); (try clear hb2); (try clear hk); (try clear hi)) | ((with_reducible refine gate_callee (f := 54) rfl ?_); refine goesA (some 45) rfl rfl Tryd.func54 (by kernel_rfl) rfl #[.int .i64 t276, .int .i64 t277] rfl ?_; (with_reducible refine (fleuronref01_fixed.calls kj3 t276 t277 t278 true _ A18.out).mono ?_); rintro e w' ⟨rfl, ⟨nd, rfl⟩⟩; refine ⟨_, rfl, ?_⟩; (try (rw [drewN_self w34]; generalize hq_ : World.drewN w34 _ = w34; have n0_ : Fa (w34.heap[gb269]? = some (.cells #[.int .i64 a1_0, .int .i64 a1_1] 23 (0, 0))) := ⟨by rw [← hq_]; exact fa⟩; have n1_ : Fa (w34.heap[gb270]? = some (.cells #[.int .i64 a2_0, .int .i64 a2_1] 23 (0, 0))) := ⟨by rw [← hq_]; exact fa⟩; have n2_ : Fa (w34.heap[gb271]? = some (.cells #[.int .i64 0, .int .i64 0] 23 (0, 0))) := ⟨by rw [← hq_]; exact fa⟩; have n3_ : Fa (w34.heap[gb275]? = some (.cells #[.int .i64 t272, .int .i64 t273] 23 (0, 0))) := ⟨by rw [← hq_]; exact fa⟩; have n4_ : Fa (Below w.heap.size w w34) := ⟨by rw [← hq_]; exact fa⟩; clear BK269 BK270 BK271 BK275 HB hq_; have BK269 := n0_; have BK270 := n1_; have BK271 := n2_; have BK275 := n3_; have HB := n4_; clear n0_ n1_ n2_ n3_ n4_))) | ((with_reducible refine gate_callee (f := 14) rfl ?_); refine goesA (some 52) rfl rfl Tryd.func14 (by kernel_rfl) rfl #[.int .i64 t278, .int .i64 65536] rfl ?_; (with_reducible refine (fleuronref01_Make.calls kj3 t278 65536 t280 t281 t282 _ A20.out).mono ?_); rintro e w35 ⟨rfl, hb⟩; refine ⟨_, rfl, ?_⟩; have n0_ := Fa.mk (blk_below (g := gb269) (o := .cells #[.int .i64 a1_0, .int .i64 a1_1] 23 (0, 0)) fa hb); have n1_ := Fa.mk (blk_below (g := gb270) (o := .cells #[.int .i64 a2_0, .int .i64 a2_1] 23 (0, 0)) fa hb); have n2_ := Fa.mk (blk_below (g := gb271) (o := .cells #[.int .i64 0, .int .i64 0] 23 (0, 0)) fa hb); have n3_ := Fa.mk (blk_below (g := gb275) (o := .cells #[.int .i64 t272, .int .i64 t273] 23 (0, 0)) fa hb); have n4_ := Fa.mk (bst w hb); clear BK269; clear BK270; clear BK271; clear BK275; clear HB; have BK269 := n0_; have BK270 := n1_; have BK271 := n2_; have BK275 := n3_; have HB := n4_; clear n0_ n1_ n2_ n3_ n4_; (try clear hb); (try clear hb2); (try clear hk); (try clear hi); have hcz36_0 : w35.cell? ⟨gb271, 0, none⟩ = some (.int .i64 0) := (blk_cell BK271.out 0).trans rfl; have hcz36_1 : w35.cell? ⟨gb271, 1, none⟩ = some (.int .i64 0) := (blk_cell BK271.out 1).trans rfl; have hfz36_0 := blk_frozen BK271.out 0; have hfz36_1 := blk_frozen BK271.out 1))
            refine bodyPost_ret (results_ct rfl _ _ gb271 23 #[.int .i64 t280, .int .i64 t281] (0, 0) _ rfl (by (with_reducible repeat (first | refine blk_drewN ?_ _ | refine blk_drew ?_ | refine blk_alloc ?_ _)); refine blk_put (cs := #[.int .i64 t280, .int .i64 0]) ?_ 1 _ rfl; (with_reducible repeat (first | refine blk_drewN ?_ _ | refine blk_drew ?_ | refine blk_alloc ?_ _)); refine blk_put (cs := #[.int .i64 0, .int .i64 0]) ?_ 0 _ rfl; (with_reducible repeat (first | refine blk_drewN ?_ _ | refine blk_drew ?_ | refine blk_alloc ?_ _)); exact BK271.out) Tryd.underlying23 rfl (by kernel_rfl)) rfl ?_
            exact ⟨by first | rfl | (simp [errW_none, errW_some] <;> rfl) | (simp [*, errW_none, errW_some] <;> rfl), fa⟩
          · replace c19 := Bool.eq_false_iff.mpr c19
            subst c19
            have H1 : (some (0, 0, 17)) = some (r1, r2, r3) := by rw [if_neg (show ¬ (false = true) by decide)] at H; exact H
            clear H
            have H := H1
            clear H1
            simp only [Option.some.injEq, Prod.mk.injEq] at H
            obtain ⟨rfl, rfl, rfl⟩ := H
            have hnb37 := NB269_270.out
            have hnc37 := NB270_269.out
            have hnb38 := NB269_271.out
            have hnc38 := NB271_269.out
            have hcz39_0 : wc.cell? ⟨gb269, 0, none⟩ = some (.int .i64 a1_0) := (blk_cell BK269.out 0).trans rfl
            have hcz39_1 : wc.cell? ⟨gb269, 1, none⟩ = some (.int .i64 a1_1) := (blk_cell BK269.out 1).trans rfl
            have hfz39_0 := blk_frozen BK269.out 0
            have hfz39_1 := blk_frozen BK269.out 1
            have hnb40 := NB270_271.out
            have hnc40 := NB271_270.out
            have hcz41_0 : wc.cell? ⟨gb270, 0, none⟩ = some (.int .i64 a2_0) := (blk_cell BK270.out 0).trans rfl
            have hcz41_1 : wc.cell? ⟨gb270, 1, none⟩ = some (.int .i64 a2_1) := (blk_cell BK270.out 1).trans rfl
            have hfz41_0 := blk_frozen BK270.out 0
            have hfz41_1 := blk_frozen BK270.out 1
            go_wp2_with (first | ((with_reducible refine gate_callee (f := 53) rfl ?_); refine goesA (some 31) rfl rfl Tryd.func53 (by kernel_rfl) rfl #[.string a0, .agg #[.int .i64 a1_0, .int .i64 a1_1], .agg #[.int .i64 a2_0, .int .i64 a2_1]] rfl ?_; (with_reducible refine (fleuronref01_result.calls kj3 a0 a1_0 a1_1 a2_0 a2_1 t272 t273 t274 _ A15.out).mono ?_); rintro e w42 ⟨rfl, hb⟩; refine ⟨_, rfl, ?_⟩; have n0_ := Fa.mk (blk_below (g := gb269) (o := .cells #[.int .i64 a1_0, .int .i64 a1_1] 23 (0, 0)) fa hb); have n1_ := Fa.mk (blk_below (g := gb270) (o := .cells #[.int .i64 a2_0, .int .i64 a2_1] 23 (0, 0)) fa hb); have n2_ := Fa.mk (blk_below (g := gb271) (o := .cells #[.int .i64 0, .int .i64 0] 23 (0, 0)) fa hb); have n3_ := Fa.mk (bst w hb); clear BK269; clear BK270; clear BK271; clear HB; have BK269 := n0_; have BK270 := n1_; have BK271 := n2_; have HB := n3_; clear n0_ n1_ n2_ n3_; (try clear hb); (try clear hb2); (try clear hk); (try clear hi)) | ((with_reducible refine gate_dst (N := 8) rfl ?_); refine boxF (N := 8) (cs := #[.int .i64 0, .int .i64 0]) (t := 23) ?_; intro gb275 hg w43 hbox hb; have n0_ := Fa.mk (blk_below (g := gb269) (o := .cells #[.int .i64 a1_0, .int .i64 a1_1] 23 (0, 0)) fa hb); have n1_ := Fa.mk (blk_below (g := gb270) (o := .cells #[.int .i64 a2_0, .int .i64 a2_1] 23 (0, 0)) fa hb); have n2_ := Fa.mk (blk_below (g := gb271) (o := .cells #[.int .i64 0, .int .i64 0] 23 (0, 0)) fa hb); have n3_ := Fa.mk (bst w hb); have n4_ := Fa.mk (hbox); have n5_ := Fa.mk (gle hg : w.heap.size ≤ gb275); have n6_ := n5_; have n7_ := Fa.mk (gne (o := .cells #[.int .i64 a1_0, .int .i64 a1_1] 23 (0, 0)) hg : gb269 ≠ gb275); have n8_ := Fa.mk n7_.out.symm; have n9_ := Fa.mk (gne (o := .cells #[.int .i64 a2_0, .int .i64 a2_1] 23 (0, 0)) hg : gb270 ≠ gb275); have n10_ := Fa.mk n9_.out.symm; have n11_ := Fa.mk (gne (o := .cells #[.int .i64 0, .int .i64 0] 23 (0, 0)) hg : gb271 ≠ gb275); have n12_ := Fa.mk n11_.out.symm; clear BK269; clear BK270; clear BK271; clear HB; have BK269 := n0_; have BK270 := n1_; have BK271 := n2_; have HB := n3_; have BK275 := n4_; have GW275 := n5_; have GE275 := n6_; have NB269_275 := n7_; have NB275_269 := n8_; have NB270_275 := n9_; have NB275_270 := n10_; have NB271_275 := n11_; have NB275_271 := n12_; clear n0_ n1_ n2_ n3_ n4_ n5_ n6_ n7_ n8_ n9_ n10_ n11_ n12_; clear hb hbox hg; have hnb44 := NB275_269.out; have hnc44 := NB269_275.out; have hnb45 := NB275_270.out; have hnc45 := NB270_275.out; have hnb46 := NB275_271.out; have hnc46 := NB271_275.out; have hcz47_0 : w43.cell? ⟨gb275, 0, none⟩ = some (.int .i64 0) := (blk_cell BK275.out 0).trans rfl; have hcz47_1 : w43.cell? ⟨gb275, 1, none⟩ = some (.int .i64 0) := (blk_cell BK275.out 1).trans rfl; have hfz47_0 := blk_frozen BK275.out 0; have hfz47_1 := blk_frozen BK275.out 1; have hcz48_0 : w43.cell? ⟨gb269, 0, none⟩ = some (.int .i64 a1_0) := (blk_cell BK269.out 0).trans rfl; have hcz48_1 : w43.cell? ⟨gb269, 1, none⟩ = some (.int .i64 a1_1) := (blk_cell BK269.out 1).trans rfl; have hfz48_0 := blk_frozen BK269.out 0; have hfz48_1 := blk_frozen BK269.out 1; have hcz49_0 : w43.cell? ⟨gb270, 0, none⟩ = some (.int .i64 a2_0) := (blk_cell BK270.out 0).trans rfl; have hcz49_1 : w43.cell? ⟨gb270, 1, none⟩ = some (.int .i64 a2_1) := (blk_cell BK270.out 1).trans rfl; have hfz49_0 := blk_frozen BK270.out 0; have hfz49_1 := blk_frozen BK270.out 1) | ((with_reducible refine gate_callee (f := 55) rfl ?_); refine goesA (some 42) rfl rfl Tryd.func55 (by kernel_rfl) rfl #[.string a0, .agg #[.int .i64 a1_0, .int .i64 a1_1], .agg #[.int .i64 a2_0, .int .i64 a2_1]] rfl ?_; (with_reducible refine (fleuronref01_exact.calls a0 a1_0 a1_1 a2_0 a2_1 t276 t277 _ A17.out).mono ?_); rintro e w50 ⟨rfl, hb⟩; refine ⟨_, rfl, ?_⟩; have n0_ := Fa.mk (blk_below (g := gb269) (o := .cells #[.int .i64 a1_0, .int .i64 a1_1] 23 (0, 0)) (by (with_reducible repeat (first | refine blk_drewN ?_ _ | refine blk_drew ?_ | refine blk_alloc ?_ _)); refine blk_far ?_ NB269_275.out _; (with_reducible repeat (first | refine blk_drewN ?_ _ | refine blk_drew ?_ | refine blk_alloc ?_ _)); refine blk_far ?_ NB269_275.out _; (with_reducible repeat (first | refine blk_drewN ?_ _ | refine blk_drew ?_ | refine blk_alloc ?_ _)); exact BK269.out) hb); have n1_ := Fa.mk (blk_below (g := gb270) (o := .cells #[.int .i64 a2_0, .int .i64 a2_1] 23 (0, 0)) (by (with_reducible repeat (first | refine blk_drewN ?_ _ | refine blk_drew ?_ | refine blk_alloc ?_ _)); refine blk_far ?_ NB270_275.out _; (with_reducible repeat (first | refine blk_drewN ?_ _ | refine blk_drew ?_ | refine blk_alloc ?_ _)); refine blk_far ?_ NB270_275.out _; (with_reducible repeat (first | refine blk_drewN ?_ _ | refine blk_drew ?_ | refine blk_alloc ?_ _)); exact BK270.out) hb); have n2_ := Fa.mk (blk_below (g := gb271) (o := .cells #[.int .i64 0, .int .i64 0] 23 (0, 0)) (by (with_reducible repeat (first | refine blk_drewN ?_ _ | refine blk_drew ?_ | refine blk_alloc ?_ _)); refine blk_far ?_ NB271_275.out _; (with_reducible repeat (first | refine blk_drewN ?_ _ | refine blk_drew ?_ | refine blk_alloc ?_ _)); refine blk_far ?_ NB271_275.out _; (with_reducible repeat (first | refine blk_drewN ?_ _ | refine blk_drew ?_ | refine blk_alloc ?_ _)); exact BK271.out) hb); have n3_ := Fa.mk (blk_below (g := gb275) (o := .cells #[.int .i64 t272, .int .i64 t273] 23 (0, 0)) (by (with_reducible repeat (first | refine blk_drewN ?_ _ | refine blk_drew ?_ | refine blk_alloc ?_ _)); refine blk_put (cs := #[.int .i64 t272, .int .i64 0]) ?_ 1 _ rfl; (with_reducible repeat (first | refine blk_drewN ?_ _ | refine blk_drew ?_ | refine blk_alloc ?_ _)); refine blk_put (cs := #[.int .i64 0, .int .i64 0]) ?_ 0 _ rfl; (with_reducible repeat (first | refine blk_drewN ?_ _ | refine blk_drew ?_ | refine blk_alloc ?_ _)); exact BK275.out) hb); have n4_ := Fa.mk (bst w hb); clear BK269; clear BK270; clear BK271; clear BK275; clear HB; have BK269 := n0_; have BK270 := n1_; have BK271 := n2_; have BK275 := n3_; have HB := n4_; clear n0_ n1_ n2_ n3_ n4_; (try clear hb); (try clear hb2); (try clear hk); (try clear hi)) | ((with_reducible refine gate_callee (f := 54) rfl ?_); refine goesA (some 45) rfl rfl Tryd.func54 (by kernel_rfl) rfl #[.int .i64 t276, .int .i64 t277] rfl ?_; (with_reducible refine (fleuronref01_fixed.calls kj3 t276 t277 t278 false _ A18.out).mono ?_); rintro e w' ⟨rfl, ⟨nd, rfl⟩⟩; refine ⟨_, rfl, ?_⟩; (try (rw [drewN_self w50]; generalize hq_ : World.drewN w50 _ = w50; have n0_ : Fa (w50.heap[gb269]? = some (.cells #[.int .i64 a1_0, .int .i64 a1_1] 23 (0, 0))) := ⟨by rw [← hq_]; exact fa⟩; have n1_ : Fa (w50.heap[gb270]? = some (.cells #[.int .i64 a2_0, .int .i64 a2_1] 23 (0, 0))) := ⟨by rw [← hq_]; exact fa⟩; have n2_ : Fa (w50.heap[gb271]? = some (.cells #[.int .i64 0, .int .i64 0] 23 (0, 0))) := ⟨by rw [← hq_]; exact fa⟩; have n3_ : Fa (w50.heap[gb275]? = some (.cells #[.int .i64 t272, .int .i64 t273] 23 (0, 0))) := ⟨by rw [← hq_]; exact fa⟩; have n4_ : Fa (Below w.heap.size w w50) := ⟨by rw [← hq_]; exact fa⟩; clear BK269 BK270 BK271 BK275 HB hq_; have BK269 := n0_; have BK270 := n1_; have BK271 := n2_; have BK275 := n3_; have HB := n4_; clear n0_ n1_ n2_ n3_ n4_)); have hcz51_0 : w50.cell? ⟨gb271, 0, none⟩ = some (.int .i64 0) := (blk_cell BK271.out 0).trans rfl; have hcz51_1 : w50.cell? ⟨gb271, 1, none⟩ = some (.int .i64 0) := (blk_cell BK271.out 1).trans rfl; have hfz51_0 := blk_frozen BK271.out 0; have hfz51_1 := blk_frozen BK271.out 1))
            refine bodyPost_ret (results_ct rfl _ _ gb271 23 #[.int .i64 0, .int .i64 0] (0, 0) _ rfl (by (with_reducible repeat (first | refine blk_drewN ?_ _ | refine blk_drew ?_ | refine blk_alloc ?_ _)); refine blk_put (cs := #[.int .i64 0, .int .i64 0]) ?_ 1 _ rfl; (with_reducible repeat (first | refine blk_drewN ?_ _ | refine blk_drew ?_ | refine blk_alloc ?_ _)); refine blk_put (cs := #[.int .i64 0, .int .i64 0]) ?_ 0 _ rfl; (with_reducible repeat (first | refine blk_drewN ?_ _ | refine blk_drew ?_ | refine blk_alloc ?_ _)); exact BK271.out) Tryd.underlying23 rfl (by kernel_rfl)) rfl ?_
            exact ⟨by first | rfl | (simp [errW_none, errW_some] <;> rfl) | (simp [*, errW_none, errW_some] <;> rfl), fa⟩
        · rw [if_neg c16] at H
          have c16b0 : (t274 == 17) = false := beq_eq_false_iff_ne.mpr c16
          have c16b1 : (t274 != 17) = true := bne_iff_ne.mpr c16
          simp only [Option.some.injEq, Prod.mk.injEq] at H
          obtain ⟨rfl, rfl, rfl⟩ := H
          have hnb52 := NB269_270.out
          have hnc52 := NB270_269.out
          have hnb53 := NB269_271.out
          have hnc53 := NB271_269.out
          have hcz54_0 : wc.cell? ⟨gb269, 0, none⟩ = some (.int .i64 a1_0) := (blk_cell BK269.out 0).trans rfl
          have hcz54_1 : wc.cell? ⟨gb269, 1, none⟩ = some (.int .i64 a1_1) := (blk_cell BK269.out 1).trans rfl
          have hfz54_0 := blk_frozen BK269.out 0
          have hfz54_1 := blk_frozen BK269.out 1
          have hnb55 := NB270_271.out
          have hnc55 := NB271_270.out
          have hcz56_0 : wc.cell? ⟨gb270, 0, none⟩ = some (.int .i64 a2_0) := (blk_cell BK270.out 0).trans rfl
          have hcz56_1 : wc.cell? ⟨gb270, 1, none⟩ = some (.int .i64 a2_1) := (blk_cell BK270.out 1).trans rfl
          have hfz56_0 := blk_frozen BK270.out 0
          have hfz56_1 := blk_frozen BK270.out 1
          go_wp2_with (first | ((with_reducible refine gate_callee (f := 53) rfl ?_); refine goesA (some 31) rfl rfl Tryd.func53 (by kernel_rfl) rfl #[.string a0, .agg #[.int .i64 a1_0, .int .i64 a1_1], .agg #[.int .i64 a2_0, .int .i64 a2_1]] rfl ?_; (with_reducible refine (fleuronref01_result.calls kj3 a0 a1_0 a1_1 a2_0 a2_1 t272 t273 t274 _ A15.out).mono ?_); rintro e w57 ⟨rfl, hb⟩; refine ⟨_, rfl, ?_⟩; have n0_ := Fa.mk (blk_below (g := gb269) (o := .cells #[.int .i64 a1_0, .int .i64 a1_1] 23 (0, 0)) fa hb); have n1_ := Fa.mk (blk_below (g := gb270) (o := .cells #[.int .i64 a2_0, .int .i64 a2_1] 23 (0, 0)) fa hb); have n2_ := Fa.mk (blk_below (g := gb271) (o := .cells #[.int .i64 0, .int .i64 0] 23 (0, 0)) fa hb); have n3_ := Fa.mk (bst w hb); clear BK269; clear BK270; clear BK271; clear HB; have BK269 := n0_; have BK270 := n1_; have BK271 := n2_; have HB := n3_; clear n0_ n1_ n2_ n3_; (try clear hb); (try clear hb2); (try clear hk); (try clear hi)) | ((with_reducible refine gate_dst (N := 8) rfl ?_); refine boxF (N := 8) (cs := #[.int .i64 0, .int .i64 0]) (t := 23) ?_; intro gb275 hg w58 hbox hb; have n0_ := Fa.mk (blk_below (g := gb269) (o := .cells #[.int .i64 a1_0, .int .i64 a1_1] 23 (0, 0)) fa hb); have n1_ := Fa.mk (blk_below (g := gb270) (o := .cells #[.int .i64 a2_0, .int .i64 a2_1] 23 (0, 0)) fa hb); have n2_ := Fa.mk (blk_below (g := gb271) (o := .cells #[.int .i64 0, .int .i64 0] 23 (0, 0)) fa hb); have n3_ := Fa.mk (bst w hb); have n4_ := Fa.mk (hbox); have n5_ := Fa.mk (gle hg : w.heap.size ≤ gb275); have n6_ := n5_; have n7_ := Fa.mk (gne (o := .cells #[.int .i64 a1_0, .int .i64 a1_1] 23 (0, 0)) hg : gb269 ≠ gb275); have n8_ := Fa.mk n7_.out.symm; have n9_ := Fa.mk (gne (o := .cells #[.int .i64 a2_0, .int .i64 a2_1] 23 (0, 0)) hg : gb270 ≠ gb275); have n10_ := Fa.mk n9_.out.symm; have n11_ := Fa.mk (gne (o := .cells #[.int .i64 0, .int .i64 0] 23 (0, 0)) hg : gb271 ≠ gb275); have n12_ := Fa.mk n11_.out.symm; clear BK269; clear BK270; clear BK271; clear HB; have BK269 := n0_; have BK270 := n1_; have BK271 := n2_; have HB := n3_; have BK275 := n4_; have GW275 := n5_; have GE275 := n6_; have NB269_275 := n7_; have NB275_269 := n8_; have NB270_275 := n9_; have NB275_270 := n10_; have NB271_275 := n11_; have NB275_271 := n12_; clear n0_ n1_ n2_ n3_ n4_ n5_ n6_ n7_ n8_ n9_ n10_ n11_ n12_; clear hb hbox hg; have hnb59 := NB275_269.out; have hnc59 := NB269_275.out; have hnb60 := NB275_270.out; have hnc60 := NB270_275.out; have hnb61 := NB275_271.out; have hnc61 := NB271_275.out; have hcz62_0 : w58.cell? ⟨gb275, 0, none⟩ = some (.int .i64 0) := (blk_cell BK275.out 0).trans rfl; have hcz62_1 : w58.cell? ⟨gb275, 1, none⟩ = some (.int .i64 0) := (blk_cell BK275.out 1).trans rfl; have hfz62_0 := blk_frozen BK275.out 0; have hfz62_1 := blk_frozen BK275.out 1; have hcz63_0 : w58.cell? ⟨gb271, 0, none⟩ = some (.int .i64 0) := (blk_cell BK271.out 0).trans rfl; have hcz63_1 : w58.cell? ⟨gb271, 1, none⟩ = some (.int .i64 0) := (blk_cell BK271.out 1).trans rfl; have hfz63_0 := blk_frozen BK271.out 0; have hfz63_1 := blk_frozen BK271.out 1))
          refine bodyPost_ret (results_ct rfl _ _ gb271 23 #[.int .i64 t272, .int .i64 t273] (0, 0) _ rfl (by (with_reducible repeat (first | refine blk_drewN ?_ _ | refine blk_drew ?_ | refine blk_alloc ?_ _)); refine blk_put (cs := #[.int .i64 t272, .int .i64 0]) ?_ 1 _ rfl; (with_reducible repeat (first | refine blk_drewN ?_ _ | refine blk_drew ?_ | refine blk_alloc ?_ _)); refine blk_put (cs := #[.int .i64 0, .int .i64 0]) ?_ 0 _ rfl; (with_reducible repeat (first | refine blk_drewN ?_ _ | refine blk_drew ?_ | refine blk_alloc ?_ _)); refine blk_far ?_ NB271_275.out _; (with_reducible repeat (first | refine blk_drewN ?_ _ | refine blk_drew ?_ | refine blk_alloc ?_ _)); refine blk_far ?_ NB271_275.out _; (with_reducible repeat (first | refine blk_drewN ?_ _ | refine blk_drew ?_ | refine blk_alloc ?_ _)); exact BK271.out) Tryd.underlying23 rfl (by kernel_rfl)) rfl ?_
          exact ⟨by first | rfl | (simp [errW_none, errW_some] <;> rfl) | (simp [*, errW_none, errW_some] <;> rfl), fa⟩

/-! ### fleuronlaw01_NumNear: function 4 -/
def fleuronlaw01_NumNear.f (k : Nat) (a0 : ByteArray) (a1_0 : Int) (a1_1 : Int) (a2_0 : Int) (a2_1 : Int) : Option (Bool) := (num_Near.f k a0 a1_0 a1_1 a2_0 a2_1).bind fun bt285 => ((fleuronref01_Near.f k a0 a1_0 a1_1 a2_0 a2_1).bind fun bt289 => (if (bt285.1 == bt289.1 && (bt285.2.1 == bt289.2.1)) = true then (if bt285.2.2 = bt289.2.2 then ((fleuronlaw01_awake.f k).bind fun t293 => (some t293)) else (none)) else (none)))
theorem fleuronlaw01_NumNear.mono : ∀ a0 a1 a2 a3 a4 k, LeO (fleuronlaw01_NumNear.f k a0 a1 a2 a3 a4) (fleuronlaw01_NumNear.f (k + 1) a0 a1 a2 a3 a4) := by
  intro a0 a1 a2 a3 a4 k
  unfold fleuronlaw01_NumNear.f
  repeat' first
      | (with_reducible exact fleuronlaw01_awake.mono _)
      | (with_reducible exact fleuronref01_Near.mono _ _ _ _ _ _)
      | (with_reducible exact num_Near.mono _ _ _ _ _ _)
      | (with_reducible exact LeO.refl _)
      | (with_reducible exact LeO.none _)
      | (with_reducible refine LeO.ite ?_ ?_)
      | (with_reducible refine LeO.bind ?_ (fun _ => ?_))
      | exact fleuronlaw01_awake.mono _
      | exact fleuronref01_Near.mono _ _ _ _ _ _
      | exact num_Near.mono _ _ _ _ _ _
      | exact LeO.none _
      | refine LeO.ite ?_ ?_
      | refine LeO.bind ?_ (fun _ => ?_)
set_option maxHeartbeats 8000000 in
set_option maxRecDepth 100000 in
theorem fleuronlaw01_NumNear.calls (k : Nat) (a0 : ByteArray) (a1_0 : Int) (a1_1 : Int) (a2_0 : Int) (a2_1 : Int) (r : Bool) (w : World) (h : fleuronlaw01_NumNear.f k a0 a1_0 a1_1 a2_0 a2_1 = some r) (hG : Glob w) :
    Calls Tryd.prog 4 #[.string a0, .agg #[.int .i64 a1_0, .int .i64 a1_1], .agg #[.int .i64 a2_0, .int .i64 a2_1]] w fun e w' => e = .returned (.bool r) ∧ Below w.heap.size w w' := by
  have HG := Fa.mk hG
  clear hG
  have hu23 := Tryd.underlying23
  have HB := Fa.mk (Below.refl w.heap.size w)
  have H : ((num_Near.f k a0 a1_0 a1_1 a2_0 a2_1).bind fun bt285 => ((fleuronref01_Near.f k a0 a1_0 a1_1 a2_0 a2_1).bind fun bt289 => (if (bt285.1 == bt289.1 && (bt285.2.1 == bt289.2.1)) = true then (if bt285.2.2 = bt289.2.2 then ((fleuronlaw01_awake.f k).bind fun t293 => (some t293)) else (none)) else (none)))) = some r := h
  clear h
  replace H := Option.bind_eq_some_iff.mp H
  obtain ⟨⟨t285, t286, t287⟩, A40, H⟩ := H
  replace H : ((fleuronref01_Near.f k a0 a1_0 a1_1 a2_0 a2_1).bind fun bt289 => (if (t285 == bt289.1 && (t286 == bt289.2.1)) = true then (if t287 = bt289.2.2 then ((fleuronlaw01_awake.f k).bind fun t293 => (some t293)) else (none)) else (none))) = some r := H
  have A4 := Fa.mk A40
  clear A40
  replace H := Option.bind_eq_some_iff.mp H
  obtain ⟨⟨t289, t290, t291⟩, A50, H⟩ := H
  replace H : (if (t285 == t289 && (t286 == t290)) = true then (if t287 = t291 then ((fleuronlaw01_awake.f k).bind fun t293 => (some t293)) else (none)) else (none)) = some r := H
  have A5 := Fa.mk A50
  clear A50
  by_cases c6 : (t285 == t289 && (t286 == t290)) = true
  · rw [if_pos c6] at H
    have c6b0 : (t285 == t289 && (t286 == t290)) = true := c6
    (try (have c6b1 : decide (t285 = t289 && (t286 == t290)) = true := by simpa using c6))
    (try (have c6b2 : (t285 == t289 && (t286 == t290)) = true := by simpa using c6))
    clear c6
    by_cases c7 : t287 = t291
    · rw [if_pos c7] at H
      have c7b0 : (t287 == t291) = true := beq_iff_eq.mpr c7
      have c7b1 : (t287 != t291) = false := bne_eq_false_iff_eq.mpr c7
      clear c7
      replace H := Option.bind_eq_some_iff.mp H
      obtain ⟨t293, A80, H⟩ := H
      replace H : (some t293) = some r := H
      have A8 := Fa.mk A80
      clear A80
      obtain rfl := Option.some.inj H
      go_enter Tryd.func4, Tryd.ntmps4
      go_wp2_with (first | ((with_reducible refine gate_dst (N := 4) rfl ?_); refine boxF (N := 4) (cs := #[.int .i64 a1_0, .int .i64 a1_1]) (t := 23) ?_; intro gb283 hg w9 hbox hb; have n0_ := Fa.mk (bst w hb); have n1_ := Fa.mk (hbox); have n2_ := Fa.mk (gle hg : w.heap.size ≤ gb283); have n3_ := n2_; clear HB; have HB := n0_; have BK283 := n1_; have GW283 := n2_; have GE283 := n3_; clear n0_ n1_ n2_ n3_; clear hb hbox hg) | ((with_reducible refine gate_dst (N := 5) rfl ?_); refine boxF (N := 5) (cs := #[.int .i64 a2_0, .int .i64 a2_1]) (t := 23) ?_; intro gb284 hg w10 hbox hb; have n0_ := Fa.mk (blk_below (g := gb283) (o := .cells #[.int .i64 a1_0, .int .i64 a1_1] 23 (0, 0)) fa hb); have n1_ := Fa.mk (bst w hb); have n2_ := Fa.mk (hbox); have n3_ := Fa.mk (gle hg : w.heap.size ≤ gb284); have n4_ := n3_; have n5_ := Fa.mk (gne (o := .cells #[.int .i64 a1_0, .int .i64 a1_1] 23 (0, 0)) hg : gb283 ≠ gb284); have n6_ := Fa.mk n5_.out.symm; clear BK283; clear HB; have BK283 := n0_; have HB := n1_; have BK284 := n2_; have GW284 := n3_; have GE284 := n4_; have NB283_284 := n5_; have NB284_283 := n6_; clear n0_ n1_ n2_ n3_ n4_ n5_ n6_; clear hb hbox hg; have hnb11 := NB283_284.out; have hnc11 := NB284_283.out; have hcz12_0 : w10.cell? ⟨gb283, 0, none⟩ = some (.int .i64 a1_0) := (blk_cell BK283.out 0).trans rfl; have hcz12_1 : w10.cell? ⟨gb283, 1, none⟩ = some (.int .i64 a1_1) := (blk_cell BK283.out 1).trans rfl; have hfz12_0 := blk_frozen BK283.out 0; have hfz12_1 := blk_frozen BK283.out 1; have hcz13_0 : w10.cell? ⟨gb284, 0, none⟩ = some (.int .i64 a2_0) := (blk_cell BK284.out 0).trans rfl; have hcz13_1 : w10.cell? ⟨gb284, 1, none⟩ = some (.int .i64 a2_1) := (blk_cell BK284.out 1).trans rfl; have hfz13_0 := blk_frozen BK284.out 0; have hfz13_1 := blk_frozen BK284.out 1) | ((with_reducible refine gate_callee (f := 18) rfl ?_); refine goesA (some 15) rfl rfl Tryd.func18 (by kernel_rfl) rfl #[.string a0, .agg #[.int .i64 a1_0, .int .i64 a1_1], .agg #[.int .i64 a2_0, .int .i64 a2_1]] rfl ?_; (with_reducible refine (num_Near.calls k a0 a1_0 a1_1 a2_0 a2_1 t285 t286 t287 _ A4.out).mono ?_); rintro e w14 ⟨rfl, hb⟩; refine ⟨_, rfl, ?_⟩; have n0_ := Fa.mk (blk_below (g := gb283) (o := .cells #[.int .i64 a1_0, .int .i64 a1_1] 23 (0, 0)) fa hb); have n1_ := Fa.mk (blk_below (g := gb284) (o := .cells #[.int .i64 a2_0, .int .i64 a2_1] 23 (0, 0)) fa hb); have n2_ := Fa.mk (bst w hb); clear BK283; clear BK284; clear HB; have BK283 := n0_; have BK284 := n1_; have HB := n2_; clear n0_ n1_ n2_; (try clear hb); (try clear hb2); (try clear hk); (try clear hi)) | ((with_reducible refine gate_dst (N := 7) rfl ?_); refine boxF (N := 7) (cs := #[.int .i64 0, .int .i64 0]) (t := 23) ?_; intro gb288 hg w15 hbox hb; have n0_ := Fa.mk (blk_below (g := gb283) (o := .cells #[.int .i64 a1_0, .int .i64 a1_1] 23 (0, 0)) fa hb); have n1_ := Fa.mk (blk_below (g := gb284) (o := .cells #[.int .i64 a2_0, .int .i64 a2_1] 23 (0, 0)) fa hb); have n2_ := Fa.mk (bst w hb); have n3_ := Fa.mk (hbox); have n4_ := Fa.mk (gle hg : w.heap.size ≤ gb288); have n5_ := n4_; have n6_ := Fa.mk (gne (o := .cells #[.int .i64 a1_0, .int .i64 a1_1] 23 (0, 0)) hg : gb283 ≠ gb288); have n7_ := Fa.mk n6_.out.symm; have n8_ := Fa.mk (gne (o := .cells #[.int .i64 a2_0, .int .i64 a2_1] 23 (0, 0)) hg : gb284 ≠ gb288); have n9_ := Fa.mk n8_.out.symm; clear BK283; clear BK284; clear HB; have BK283 := n0_; have BK284 := n1_; have HB := n2_; have BK288 := n3_; have GW288 := n4_; have GE288 := n5_; have NB283_288 := n6_; have NB288_283 := n7_; have NB284_288 := n8_; have NB288_284 := n9_; clear n0_ n1_ n2_ n3_ n4_ n5_ n6_ n7_ n8_ n9_; clear hb hbox hg; have hnb16 := NB288_283.out; have hnc16 := NB283_288.out; have hnb17 := NB288_284.out; have hnc17 := NB284_288.out; have hcz18_0 : w15.cell? ⟨gb288, 0, none⟩ = some (.int .i64 0) := (blk_cell BK288.out 0).trans rfl; have hcz18_1 : w15.cell? ⟨gb288, 1, none⟩ = some (.int .i64 0) := (blk_cell BK288.out 1).trans rfl; have hfz18_0 := blk_frozen BK288.out 0; have hfz18_1 := blk_frozen BK288.out 1; have hcz19_0 : w15.cell? ⟨gb283, 0, none⟩ = some (.int .i64 a1_0) := (blk_cell BK283.out 0).trans rfl; have hcz19_1 : w15.cell? ⟨gb283, 1, none⟩ = some (.int .i64 a1_1) := (blk_cell BK283.out 1).trans rfl; have hfz19_0 := blk_frozen BK283.out 0; have hfz19_1 := blk_frozen BK283.out 1; have hcz20_0 : w15.cell? ⟨gb284, 0, none⟩ = some (.int .i64 a2_0) := (blk_cell BK284.out 0).trans rfl; have hcz20_1 : w15.cell? ⟨gb284, 1, none⟩ = some (.int .i64 a2_1) := (blk_cell BK284.out 1).trans rfl; have hfz20_0 := blk_frozen BK284.out 0; have hfz20_1 := blk_frozen BK284.out 1) | ((with_reducible refine gate_callee (f := 19) rfl ?_); refine goesA (some 22) rfl rfl Tryd.func19 (by kernel_rfl) rfl #[.string a0, .agg #[.int .i64 a1_0, .int .i64 a1_1], .agg #[.int .i64 a2_0, .int .i64 a2_1]] rfl ?_; (with_reducible refine (fleuronref01_Near.calls k a0 a1_0 a1_1 a2_0 a2_1 t289 t290 t291 _ A5.out).mono ?_); rintro e w21 ⟨rfl, hb⟩; refine ⟨_, rfl, ?_⟩; have n0_ := Fa.mk (blk_below (g := gb283) (o := .cells #[.int .i64 a1_0, .int .i64 a1_1] 23 (0, 0)) (by (with_reducible repeat (first | refine blk_drewN ?_ _ | refine blk_drew ?_ | refine blk_alloc ?_ _)); refine blk_far ?_ NB283_288.out _; (with_reducible repeat (first | refine blk_drewN ?_ _ | refine blk_drew ?_ | refine blk_alloc ?_ _)); refine blk_far ?_ NB283_288.out _; (with_reducible repeat (first | refine blk_drewN ?_ _ | refine blk_drew ?_ | refine blk_alloc ?_ _)); exact BK283.out) hb); have n1_ := Fa.mk (blk_below (g := gb284) (o := .cells #[.int .i64 a2_0, .int .i64 a2_1] 23 (0, 0)) (by (with_reducible repeat (first | refine blk_drewN ?_ _ | refine blk_drew ?_ | refine blk_alloc ?_ _)); refine blk_far ?_ NB284_288.out _; (with_reducible repeat (first | refine blk_drewN ?_ _ | refine blk_drew ?_ | refine blk_alloc ?_ _)); refine blk_far ?_ NB284_288.out _; (with_reducible repeat (first | refine blk_drewN ?_ _ | refine blk_drew ?_ | refine blk_alloc ?_ _)); exact BK284.out) hb); have n2_ := Fa.mk (blk_below (g := gb288) (o := .cells #[.int .i64 t285, .int .i64 t286] 23 (0, 0)) (by (with_reducible repeat (first | refine blk_drewN ?_ _ | refine blk_drew ?_ | refine blk_alloc ?_ _)); refine blk_put (cs := #[.int .i64 t285, .int .i64 0]) ?_ 1 _ rfl; (with_reducible repeat (first | refine blk_drewN ?_ _ | refine blk_drew ?_ | refine blk_alloc ?_ _)); refine blk_put (cs := #[.int .i64 0, .int .i64 0]) ?_ 0 _ rfl; (with_reducible repeat (first | refine blk_drewN ?_ _ | refine blk_drew ?_ | refine blk_alloc ?_ _)); exact BK288.out) hb); have n3_ := Fa.mk (bst w hb); clear BK283; clear BK284; clear BK288; clear HB; have BK283 := n0_; have BK284 := n1_; have BK288 := n2_; have HB := n3_; clear n0_ n1_ n2_ n3_; (try clear hb); (try clear hb2); (try clear hk); (try clear hi)) | ((with_reducible refine gate_dst (N := 9) rfl ?_); refine boxF (N := 9) (cs := #[.int .i64 0, .int .i64 0]) (t := 23) ?_; intro gb292 hg w22 hbox hb; have n0_ := Fa.mk (blk_below (g := gb283) (o := .cells #[.int .i64 a1_0, .int .i64 a1_1] 23 (0, 0)) fa hb); have n1_ := Fa.mk (blk_below (g := gb284) (o := .cells #[.int .i64 a2_0, .int .i64 a2_1] 23 (0, 0)) fa hb); have n2_ := Fa.mk (blk_below (g := gb288) (o := .cells #[.int .i64 t285, .int .i64 t286] 23 (0, 0)) fa hb); have n3_ := Fa.mk (bst w hb); have n4_ := Fa.mk (hbox); have n5_ := Fa.mk (gle hg : w.heap.size ≤ gb292); have n6_ := n5_; have n7_ := Fa.mk (gne (o := .cells #[.int .i64 a1_0, .int .i64 a1_1] 23 (0, 0)) hg : gb283 ≠ gb292); have n8_ := Fa.mk n7_.out.symm; have n9_ := Fa.mk (gne (o := .cells #[.int .i64 a2_0, .int .i64 a2_1] 23 (0, 0)) hg : gb284 ≠ gb292); have n10_ := Fa.mk n9_.out.symm; have n11_ := Fa.mk (gne (o := .cells #[.int .i64 t285, .int .i64 t286] 23 (0, 0)) hg : gb288 ≠ gb292); have n12_ := Fa.mk n11_.out.symm; clear BK283; clear BK284; clear BK288; clear HB; have BK283 := n0_; have BK284 := n1_; have BK288 := n2_; have HB := n3_; have BK292 := n4_; have GW292 := n5_; have GE292 := n6_; have NB283_292 := n7_; have NB292_283 := n8_; have NB284_292 := n9_; have NB292_284 := n10_; have NB288_292 := n11_; have NB292_288 := n12_; clear n0_ n1_ n2_ n3_ n4_ n5_ n6_ n7_ n8_ n9_ n10_ n11_ n12_; clear hb hbox hg; have hnb23 := NB292_283.out; have hnc23 := NB283_292.out; have hnb24 := NB292_284.out; have hnc24 := NB284_292.out; have hnb25 := NB292_288.out; have hnc25 := NB288_292.out; have hcz26_0 : w22.cell? ⟨gb292, 0, none⟩ = some (.int .i64 0) := (blk_cell BK292.out 0).trans rfl; have hcz26_1 : w22.cell? ⟨gb292, 1, none⟩ = some (.int .i64 0) := (blk_cell BK292.out 1).trans rfl; have hfz26_0 := blk_frozen BK292.out 0; have hfz26_1 := blk_frozen BK292.out 1; have hcz27_0 : w22.cell? ⟨gb288, 0, none⟩ = some (.int .i64 t285) := (blk_cell BK288.out 0).trans rfl; have hcz27_1 : w22.cell? ⟨gb288, 1, none⟩ = some (.int .i64 t286) := (blk_cell BK288.out 1).trans rfl; have hfz27_0 := blk_frozen BK288.out 0; have hfz27_1 := blk_frozen BK288.out 1) | (go_at_call 17; (with_reducible refine (fleuronlaw01_awake.calls k  t293 _ A8.out (HG.out.below fa)).mono ?_); rintro e w28 ⟨rfl, hb⟩; have n0_ := Fa.mk (blk_below (g := gb283) (o := .cells #[.int .i64 a1_0, .int .i64 a1_1] 23 (0, 0)) (by (with_reducible repeat (first | refine blk_drewN ?_ _ | refine blk_drew ?_ | refine blk_alloc ?_ _)); refine blk_far ?_ NB283_292.out _; (with_reducible repeat (first | refine blk_drewN ?_ _ | refine blk_drew ?_ | refine blk_alloc ?_ _)); refine blk_far ?_ NB283_292.out _; (with_reducible repeat (first | refine blk_drewN ?_ _ | refine blk_drew ?_ | refine blk_alloc ?_ _)); exact BK283.out) hb); have n1_ := Fa.mk (blk_below (g := gb284) (o := .cells #[.int .i64 a2_0, .int .i64 a2_1] 23 (0, 0)) (by (with_reducible repeat (first | refine blk_drewN ?_ _ | refine blk_drew ?_ | refine blk_alloc ?_ _)); refine blk_far ?_ NB284_292.out _; (with_reducible repeat (first | refine blk_drewN ?_ _ | refine blk_drew ?_ | refine blk_alloc ?_ _)); refine blk_far ?_ NB284_292.out _; (with_reducible repeat (first | refine blk_drewN ?_ _ | refine blk_drew ?_ | refine blk_alloc ?_ _)); exact BK284.out) hb); have n2_ := Fa.mk (blk_below (g := gb288) (o := .cells #[.int .i64 t285, .int .i64 t286] 23 (0, 0)) (by (with_reducible repeat (first | refine blk_drewN ?_ _ | refine blk_drew ?_ | refine blk_alloc ?_ _)); refine blk_far ?_ NB288_292.out _; (with_reducible repeat (first | refine blk_drewN ?_ _ | refine blk_drew ?_ | refine blk_alloc ?_ _)); refine blk_far ?_ NB288_292.out _; (with_reducible repeat (first | refine blk_drewN ?_ _ | refine blk_drew ?_ | refine blk_alloc ?_ _)); exact BK288.out) hb); have n3_ := Fa.mk (blk_below (g := gb292) (o := .cells #[.int .i64 t289, .int .i64 t290] 23 (0, 0)) (by (with_reducible repeat (first | refine blk_drewN ?_ _ | refine blk_drew ?_ | refine blk_alloc ?_ _)); refine blk_put (cs := #[.int .i64 t289, .int .i64 0]) ?_ 1 _ rfl; (with_reducible repeat (first | refine blk_drewN ?_ _ | refine blk_drew ?_ | refine blk_alloc ?_ _)); refine blk_put (cs := #[.int .i64 0, .int .i64 0]) ?_ 0 _ rfl; (with_reducible repeat (first | refine blk_drewN ?_ _ | refine blk_drew ?_ | refine blk_alloc ?_ _)); exact BK292.out) hb); have n4_ := Fa.mk (bst w hb); clear BK283; clear BK284; clear BK288; clear BK292; clear HB; have BK283 := n0_; have BK284 := n1_; have BK288 := n2_; have BK292 := n3_; have HB := n4_; clear n0_ n1_ n2_ n3_ n4_; (try clear hb); (try clear hb2); (try clear hk); (try clear hi)))
      go_ret
      exact ⟨by first | rfl | (simp [errW_none, errW_some] <;> rfl) | (simp [*, errW_none, errW_some] <;> rfl), fa⟩
    · rw [if_neg c7] at H
      exact absurd H (by simp)
  · rw [if_neg c6] at H
    exact absurd H (by simp)

end Go.Proofs.YtndbdnkpnjibkaaDoor.P
