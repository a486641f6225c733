-- PRINTED by print.py (a twelfth state) out of the translation. Not trusted: Lean checks it.
import Derived.Test.YtndbdnkpnjibkaaDoorPx0
import Derived.Test.YtndbdnkpnjibkaaDoorPxEq1
import Derived.Test.YtndbdnkpnjibkaaDoorPxrationalsize
import Derived.Test.YtndbdnkpnjibkaaDoorPxnumDecimal
import Derived.Test.YtndbdnkpnjibkaaDoorPxfleuronlaw01awake
import Derived.Test.YtndbdnkpnjibkaaDoorPxfleuronlaw01sum
import Derived.Test.YtndbdnkpnjibkaaDoorPxnumCmp
namespace Go.Proofs.YtndbdnkpnjibkaaDoor.P
open Go.RowKit Go.Proofs.YtndbdnkpnjibkaaDoorW.PrintWords Go.Proofs.YtndbdnkpnjibkaaDoorW.PrintLast Go.Proofs.YtndbdnkpnjibkaaDoorW.PrintMore
attribute [local go_sem] max2_int min2_int max_two min_two max_three min_three max_four min_four   -- for this text's walks alone
set_option linter.unusedVariables false
set_option linter.unusedSimpArgs false

attribute [local go_sem high] eqA23
/-! ### fleuronlaw01_NumOrder: function 9 -/
mutual
def fleuronlaw01_NumOrder.j0 : Nat → Bool → Int → Int → Int → Int → Int → Int → Option (Bool)
  | 0, _, _, _, _, _, _, _ => none
  | k + 1, x42, x535000, x535001, x536000, x536001, x537000, x537001 => if x42 = true then ((fleuronlaw01_awake.f k).bind fun t540 => (some t540)) else ((num_Cmp.f k x535000 x535001 x536000 x536001).bind fun bt541 => ((num_Cmp.f k x536000 x536001 x535000 x535001).bind fun bt543 => (if bt541.2 = 0 then (if bt543.2 = 0 then (if bt541.1 = (wrap64 (-bt543.1)) then (fleuronlaw01_NumOrder.j1 k bt541.1 ((bt541.1 == 0) != (x535000 == x536000 && (x535001 == x536001))) x535000 x535001 x536000 x536001 x537000 x537001) else (fleuronlaw01_NumOrder.j1 k bt541.1 true x535000 x535001 x536000 x536001 x537000 x537001)) else (fleuronlaw01_NumOrder.j1 k bt541.1 true x535000 x535001 x536000 x536001 x537000 x537001)) else (fleuronlaw01_NumOrder.j1 k bt541.1 true x535000 x535001 x536000 x536001 x537000 x537001))))
def fleuronlaw01_NumOrder.j1 : Nat → Int → Bool → Int → Int → Int → Int → Int → Int → Option (Bool)
  | 0, _, _, _, _, _, _, _, _ => none
  | k + 1, x7, x75, x535000, x535001, x536000, x536001, x537000, x537001 => if x75 = true then (none) else ((num_Cmp.f k x536000 x536001 x537000 x537001).bind fun bt545 => ((num_Cmp.f k x535000 x535001 x537000 x537001).bind fun bt547 => (if x7 ≤ 0 then (if bt545.1 ≤ 0 then (fleuronlaw01_NumOrder.j2 k x7 (decide (bt547.1 > 0)) x535000 x535001 x536000 x536001 x537000 x537001) else (fleuronlaw01_NumOrder.j2 k x7 false x535000 x535001 x536000 x536001 x537000 x537001)) else (fleuronlaw01_NumOrder.j2 k x7 false x535000 x535001 x536000 x536001 x537000 x537001))))
def fleuronlaw01_NumOrder.j2 : Nat → Int → Bool → Int → Int → Int → Int → Int → Int → Option (Bool)
  | 0, _, _, _, _, _, _, _, _ => none
  | k + 1, x7, x97, x535000, x535001, x536000, x536001, x537000, x537001 => if x97 = true then (none) else ((fleuronlaw01_sum.f k x535000 x535001 x537000 x537001).bind fun bt549 => ((fleuronlaw01_sum.f k x536000 x536001 x537000 x537001).bind fun bt553 => (if bt549.2.2 = true then (fleuronlaw01_NumOrder.j3 k x7 bt553.2.2 x535000 x535001 x536000 x536001 bt549.1 bt549.2.1 bt553.1 bt553.2.1) else (fleuronlaw01_NumOrder.j3 k x7 false x535000 x535001 x536000 x536001 bt549.1 bt549.2.1 bt553.1 bt553.2.1))))
def fleuronlaw01_NumOrder.j3 : Nat → Int → Bool → Int → Int → Int → Int → Int → Int → Int → Int → Option (Bool)
  | 0, _, _, _, _, _, _, _, _, _, _ => none
  | k + 1, x7, x113, x535000, x535001, x536000, x536001, x553000, x553001, x557000, x557001 => if x113 = true then ((num_Cmp.f k x553000 x553001 x557000 x557001).bind fun bt557 => (if bt557.2 = 0 then (if bt557.1 = x7 then (fleuronlaw01_NumOrder.j4 k x535000 x535001 x536000 x536001) else (none)) else (none))) else (fleuronlaw01_NumOrder.j4 k x535000 x535001 x536000 x536001)
def fleuronlaw01_NumOrder.j4 : Nat → Int → Int → Int → Int → Option (Bool)
  | 0, _, _, _, _ => none
  | k + 1, x535000, x535001, x536000, x536001 => (num_Floor.f k x535000 x535001).bind fun bt559 => (if bt559.2 = 0 then (if (wrap64 (bt559.1 * x535001)) > x535000 then (fleuronlaw01_NumOrder.j5 k true x535000 x535001 x536000 x536001 bt559.1 1) else (fleuronlaw01_NumOrder.j5 k (decide (x535000 ≥ (wrap64 ((wrap64 (bt559.1 + 1)) * x535001)))) x535000 x535001 x536000 x536001 bt559.1 1)) else (fleuronlaw01_NumOrder.j5 k true x535000 x535001 x536000 x536001 bt559.1 1))
def fleuronlaw01_NumOrder.j5 : Nat → Bool → Int → Int → Int → Int → Int → Int → Option (Bool)
  | 0, _, _, _, _, _, _, _ => none
  | k + 1, x154, x535000, x535001, x536000, x536001, x562000, x562001 => if x154 = true then (none) else ((num_Mod.f k x535000 x535001 x536000 x536001).bind fun bt562 => (if bt562.2.2 = 0 then ((num_Cmp.f k bt562.1 bt562.2.1 0 1).bind fun bt566 => ((num_Cmp.f k bt562.1 bt562.2.1 x536000 x536001).bind fun bt568 => (if x536000 > 0 then (if bt566.1 < 0 then (none) else (if bt568.1 ≥ 0 then (none) else (if x536000 < 0 then (if bt566.1 > 0 then (none) else (if bt568.1 ≤ 0 then (none) else (if x562001 = 1 then ((fleuronlaw01_awake.f k).bind fun t570 => (some t570)) else (none)))) else (if x562001 = 1 then ((fleuronlaw01_awake.f k).bind fun t571 => (some t571)) else (none))))) else (if x536000 < 0 then (if bt566.1 > 0 then (none) else (if bt568.1 ≤ 0 then (none) else (if x562001 = 1 then ((fleuronlaw01_awake.f k).bind fun t572 => (some t572)) else (none)))) else (if x562001 = 1 then ((fleuronlaw01_awake.f k).bind fun t573 => (some t573)) else (none)))))) else (if x562001 = 1 then ((fleuronlaw01_awake.f k).bind fun t574 => (some t574)) else (none))))
end
def fleuronlaw01_NumOrder.f (k : Nat) (a0_0 : Int) (a0_1 : Int) (a1_0 : Int) (a1_1 : Int) (a2_0 : Int) (a2_1 : Int) : Option (Bool) := (fleuronref01_Valid.f k a0_0 a0_1).bind fun t537 => (if t537 = true then ((fleuronref01_Valid.f k a1_0 a1_1).bind fun t538 => (if t538 = true then ((fleuronref01_Valid.f k a2_0 a2_1).bind fun t539 => (fleuronlaw01_NumOrder.j0 k (!t539) a0_0 a0_1 a1_0 a1_1 a2_0 a2_1)) else (fleuronlaw01_NumOrder.j0 k true a0_0 a0_1 a1_0 a1_1 a2_0 a2_1))) else (fleuronlaw01_NumOrder.j0 k true a0_0 a0_1 a1_0 a1_1 a2_0 a2_1))
theorem fleuronlaw01_NumOrder.mono_l : ∀ k, (∀ y0 y1 y2 y3 y4 y5 y6, LeO (fleuronlaw01_NumOrder.j0 k y0 y1 y2 y3 y4 y5 y6) (fleuronlaw01_NumOrder.j0 (k + 1) y0 y1 y2 y3 y4 y5 y6)) ∧ (∀ y0 y1 y2 y3 y4 y5 y6 y7, LeO (fleuronlaw01_NumOrder.j1 k y0 y1 y2 y3 y4 y5 y6 y7) (fleuronlaw01_NumOrder.j1 (k + 1) y0 y1 y2 y3 y4 y5 y6 y7)) ∧ (∀ y0 y1 y2 y3 y4 y5 y6 y7, LeO (fleuronlaw01_NumOrder.j2 k y0 y1 y2 y3 y4 y5 y6 y7) (fleuronlaw01_NumOrder.j2 (k + 1) y0 y1 y2 y3 y4 y5 y6 y7)) ∧ (∀ y0 y1 y2 y3 y4 y5 y6 y7 y8 y9, LeO (fleuronlaw01_NumOrder.j3 k y0 y1 y2 y3 y4 y5 y6 y7 y8 y9) (fleuronlaw01_NumOrder.j3 (k + 1) y0 y1 y2 y3 y4 y5 y6 y7 y8 y9)) ∧ (∀ y0 y1 y2 y3, LeO (fleuronlaw01_NumOrder.j4 k y0 y1 y2 y3) (fleuronlaw01_NumOrder.j4 (k + 1) y0 y1 y2 y3)) ∧ (∀ y0 y1 y2 y3 y4 y5 y6, LeO (fleuronlaw01_NumOrder.j5 k y0 y1 y2 y3 y4 y5 y6) (fleuronlaw01_NumOrder.j5 (k + 1) y0 y1 y2 y3 y4 y5 y6))
  | 0 => ⟨fun _ _ _ _ _ _ _ r h => by simp [fleuronlaw01_NumOrder.j0] at h, fun _ _ _ _ _ _ _ _ r h => by simp [fleuronlaw01_NumOrder.j1] at h, fun _ _ _ _ _ _ _ _ r h => by simp [fleuronlaw01_NumOrder.j2] at h, fun _ _ _ _ _ _ _ _ _ _ r h => by simp [fleuronlaw01_NumOrder.j3] at h, fun _ _ _ _ r h => by simp [fleuronlaw01_NumOrder.j4] at h, fun _ _ _ _ _ _ _ r h => by simp [fleuronlaw01_NumOrder.j5] at h⟩
  | k + 1 => by
    obtain ⟨ih0, ih1, ih2, ih3, ih4, ih5⟩ := fleuronlaw01_NumOrder.mono_l k
    refine ⟨?_, ?_, ?_, ?_, ?_, ?_⟩
    · intro y0 y1 y2 y3 y4 y5 y6
      unfold fleuronlaw01_NumOrder.j0
      repeat' first
      | (with_reducible exact ih0 _ _ _ _ _ _ _)
      | (with_reducible exact ih1 _ _ _ _ _ _ _ _)
      | (with_reducible exact ih2 _ _ _ _ _ _ _ _)
      | (with_reducible exact ih3 _ _ _ _ _ _ _ _ _ _)
      | (with_reducible exact ih4 _ _ _ _)
      | (with_reducible exact ih5 _ _ _ _ _ _ _)
      | (with_reducible exact fleuronlaw01_awake.mono _)
      | (with_reducible exact fleuronlaw01_sum.mono _ _ _ _ _)
      | (with_reducible exact fleuronref01_Valid.mono _ _ _)
      | (with_reducible exact num_Cmp.mono _ _ _ _ _)
      | (with_reducible exact num_Floor.mono _ _ _)
      | (with_reducible exact num_Mod.mono _ _ _ _ _)
      | (with_reducible exact LeO.refl _)
      | (with_reducible exact LeO.none _)
      | (with_reducible refine LeO.ite ?_ ?_)
      | (with_reducible refine LeO.bind ?_ (fun _ => ?_))
      | exact ih0 _ _ _ _ _ _ _
      | exact ih1 _ _ _ _ _ _ _ _
      | exact ih2 _ _ _ _ _ _ _ _
      | exact ih3 _ _ _ _ _ _ _ _ _ _
      | exact ih4 _ _ _ _
      | exact ih5 _ _ _ _ _ _ _
      | exact fleuronlaw01_awake.mono _
      | exact fleuronlaw01_sum.mono _ _ _ _ _
      | exact fleuronref01_Valid.mono _ _ _
      | exact num_Cmp.mono _ _ _ _ _
      | exact num_Floor.mono _ _ _
      | exact num_Mod.mono _ _ _ _ _
      | exact LeO.none _
      | refine LeO.ite ?_ ?_
      | refine LeO.bind ?_ (fun _ => ?_)
    · intro y0 y1 y2 y3 y4 y5 y6 y7
      unfold fleuronlaw01_NumOrder.j1
      repeat' first
      | (with_reducible exact ih0 _ _ _ _ _ _ _)
      | (with_reducible exact ih1 _ _ _ _ _ _ _ _)
      | (with_reducible exact ih2 _ _ _ _ _ _ _ _)
      | (with_reducible exact ih3 _ _ _ _ _ _ _ _ _ _)
      | (with_reducible exact ih4 _ _ _ _)
      | (with_reducible exact ih5 _ _ _ _ _ _ _)
      | (with_reducible exact fleuronlaw01_awake.mono _)
      | (with_reducible exact fleuronlaw01_sum.mono _ _ _ _ _)
      | (with_reducible exact fleuronref01_Valid.mono _ _ _)
      | (with_reducible exact num_Cmp.mono _ _ _ _ _)
      | (with_reducible exact num_Floor.mono _ _ _)
      | (with_reducible exact num_Mod.mono _ _ _ _ _)
      | (with_reducible exact LeO.refl _)
      | (with_reducible exact LeO.none _)
      | (with_reducible refine LeO.ite ?_ ?_)
      | (with_reducible refine LeO.bind ?_ (fun _ => ?_))
      | exact ih0 _ _ _ _ _ _ _
      | exact ih1 _ _ _ _ _ _ _ _
      | exact ih2 _ _ _ _ _ _ _ _
      | exact ih3 _ _ _ _ _ _ _ _ _ _
      | exact ih4 _ _ _ _
      | exact ih5 _ _ _ _ _ _ _
      | exact fleuronlaw01_awake.mono _
      | exact fleuronlaw01_sum.mono _ _ _ _ _
      | exact fleuronref01_Valid.mono _ _ _
      | exact num_Cmp.mono _ _ _ _ _
      | exact num_Floor.mono _ _ _
      | exact num_Mod.mono _ _ _ _ _
      | exact LeO.none _
      | refine LeO.ite ?_ ?_
      | refine LeO.bind ?_ (fun _ => ?_)
    · intro y0 y1 y2 y3 y4 y5 y6 y7
      unfold fleuronlaw01_NumOrder.j2
      repeat' first
      | (with_reducible exact ih0 _ _ _ _ _ _ _)
      | (with_reducible exact ih1 _ _ _ _ _ _ _ _)
      | (with_reducible exact ih2 _ _ _ _ _ _ _ _)
      | (with_reducible exact ih3 _ _ _ _ _ _ _ _ _ _)
      | (with_reducible exact ih4 _ _ _ _)
      | (with_reducible exact ih5 _ _ _ _ _ _ _)
      | (with_reducible exact fleuronlaw01_awake.mono _)
      | (with_reducible exact fleuronlaw01_sum.mono _ _ _ _ _)
      | (with_reducible exact fleuronref01_Valid.mono _ _ _)
      | (with_reducible exact num_Cmp.mono _ _ _ _ _)
      | (with_reducible exact num_Floor.mono _ _ _)
      | (with_reducible exact num_Mod.mono _ _ _ _ _)
      | (with_reducible exact LeO.refl _)
      | (with_reducible exact LeO.none _)
      | (with_reducible refine LeO.ite ?_ ?_)
      | (with_reducible refine LeO.bind ?_ (fun _ => ?_))
      | exact ih0 _ _ _ _ _ _ _
      | exact ih1 _ _ _ _ _ _ _ _
      | exact ih2 _ _ _ _ _ _ _ _
      | exact ih3 _ _ _ _ _ _ _ _ _ _
      | exact ih4 _ _ _ _
      | exact ih5 _ _ _ _ _ _ _
      | exact fleuronlaw01_awake.mono _
      | exact fleuronlaw01_sum.mono _ _ _ _ _
      | exact fleuronref01_Valid.mono _ _ _
      | exact num_Cmp.mono _ _ _ _ _
      | exact num_Floor.mono _ _ _
      | exact num_Mod.mono _ _ _ _ _
      | exact LeO.none _
      | refine LeO.ite ?_ ?_
      | refine LeO.bind ?_ (fun _ => ?_)
    · intro y0 y1 y2 y3 y4 y5 y6 y7 y8 y9
      unfold fleuronlaw01_NumOrder.j3
      repeat' first
      | (with_reducible exact ih0 _ _ _ _ _ _ _)
      | (with_reducible exact ih1 _ _ _ _ _ _ _ _)
      | (with_reducible exact ih2 _ _ _ _ _ _ _ _)
      | (with_reducible exact ih3 _ _ _ _ _ _ _ _ _ _)
      | (with_reducible exact ih4 _ _ _ _)
      | (with_reducible exact ih5 _ _ _ _ _ _ _)
      | (with_reducible exact fleuronlaw01_awake.mono _)
      | (with_reducible exact fleuronlaw01_sum.mono _ _ _ _ _)
      | (with_reducible exact fleuronref01_Valid.mono _ _ _)
      | (with_reducible exact num_Cmp.mono _ _ _ _ _)
      | (with_reducible exact num_Floor.mono _ _ _)
      | (with_reducible exact num_Mod.mono _ _ _ _ _)
      | (with_reducible exact LeO.refl _)
      | (with_reducible exact LeO.none _)
      | (with_reducible refine LeO.ite ?_ ?_)
      | (with_reducible refine LeO.bind ?_ (fun _ => ?_))
      | exact ih0 _ _ _ _ _ _ _
      | exact ih1 _ _ _ _ _ _ _ _
      | exact ih2 _ _ _ _ _ _ _ _
      | exact ih3 _ _ _ _ _ _ _ _ _ _
      | exact ih4 _ _ _ _
      | exact ih5 _ _ _ _ _ _ _
      | exact fleuronlaw01_awake.mono _
      | exact fleuronlaw01_sum.mono _ _ _ _ _
      | exact fleuronref01_Valid.mono _ _ _
      | exact num_Cmp.mono _ _ _ _ _
      | exact num_Floor.mono _ _ _
      | exact num_Mod.mono _ _ _ _ _
      | exact LeO.none _
      | refine LeO.ite ?_ ?_
      | refine LeO.bind ?_ (fun _ => ?_)
    · intro y0 y1 y2 y3
      unfold fleuronlaw01_NumOrder.j4
      repeat' first
      | (with_reducible exact ih0 _ _ _ _ _ _ _)
      | (with_reducible exact ih1 _ _ _ _ _ _ _ _)
      | (with_reducible exact ih2 _ _ _ _ _ _ _ _)
      | (with_reducible exact ih3 _ _ _ _ _ _ _ _ _ _)
      | (with_reducible exact ih4 _ _ _ _)
      | (with_reducible exact ih5 _ _ _ _ _ _ _)
      | (with_reducible exact fleuronlaw01_awake.mono _)
      | (with_reducible exact fleuronlaw01_sum.mono _ _ _ _ _)
      | (with_reducible exact fleuronref01_Valid.mono _ _ _)
      | (with_reducible exact num_Cmp.mono _ _ _ _ _)
      | (with_reducible exact num_Floor.mono _ _ _)
      | (with_reducible exact num_Mod.mono _ _ _ _ _)
      | (with_reducible exact LeO.refl _)
      | (with_reducible exact LeO.none _)
      | (with_reducible refine LeO.ite ?_ ?_)
      | (with_reducible refine LeO.bind ?_ (fun _ => ?_))
      | exact ih0 _ _ _ _ _ _ _
      | exact ih1 _ _ _ _ _ _ _ _
      | exact ih2 _ _ _ _ _ _ _ _
      | exact ih3 _ _ _ _ _ _ _ _ _ _
      | exact ih4 _ _ _ _
      | exact ih5 _ _ _ _ _ _ _
      | exact fleuronlaw01_awake.mono _
      | exact fleuronlaw01_sum.mono _ _ _ _ _
      | exact fleuronref01_Valid.mono _ _ _
      | exact num_Cmp.mono _ _ _ _ _
      | exact num_Floor.mono _ _ _
      | exact num_Mod.mono _ _ _ _ _
      | exact LeO.none _
      | refine LeO.ite ?_ ?_
      | refine LeO.bind ?_ (fun _ => ?_)
    · intro y0 y1 y2 y3 y4 y5 y6
      unfold fleuronlaw01_NumOrder.j5
      repeat' first
      | (with_reducible exact ih0 _ _ _ _ _ _ _)
      | (with_reducible exact ih1 _ _ _ _ _ _ _ _)
      | (with_reducible exact ih2 _ _ _ _ _ _ _ _)
      | (with_reducible exact ih3 _ _ _ _ _ _ _ _ _ _)
      | (with_reducible exact ih4 _ _ _ _)
      | (with_reducible exact ih5 _ _ _ _ _ _ _)
      | (with_reducible exact fleuronlaw01_awake.mono _)
      | (with_reducible exact fleuronlaw01_sum.mono _ _ _ _ _)
      | (with_reducible exact fleuronref01_Valid.mono _ _ _)
      | (with_reducible exact num_Cmp.mono _ _ _ _ _)
      | (with_reducible exact num_Floor.mono _ _ _)
      | (with_reducible exact num_Mod.mono _ _ _ _ _)
      | (with_reducible exact LeO.refl _)
      | (with_reducible exact LeO.none _)
      | (with_reducible refine LeO.ite ?_ ?_)
      | (with_reducible refine LeO.bind ?_ (fun _ => ?_))
      | exact ih0 _ _ _ _ _ _ _
      | exact ih1 _ _ _ _ _ _ _ _
      | exact ih2 _ _ _ _ _ _ _ _
      | exact ih3 _ _ _ _ _ _ _ _ _ _
      | exact ih4 _ _ _ _
      | exact ih5 _ _ _ _ _ _ _
      | exact fleuronlaw01_awake.mono _
      | exact fleuronlaw01_sum.mono _ _ _ _ _
      | exact fleuronref01_Valid.mono _ _ _
      | exact num_Cmp.mono _ _ _ _ _
      | exact num_Floor.mono _ _ _
      | exact num_Mod.mono _ _ _ _ _
      | exact LeO.none _
      | refine LeO.ite ?_ ?_
      | refine LeO.bind ?_ (fun _ => ?_)
theorem fleuronlaw01_NumOrder.mono : ∀ a0 a1 a2 a3 a4 a5 k, LeO (fleuronlaw01_NumOrder.f k a0 a1 a2 a3 a4 a5) (fleuronlaw01_NumOrder.f (k + 1) a0 a1 a2 a3 a4 a5) := by
  intro a0 a1 a2 a3 a4 a5 k
  obtain ⟨ih0, ih1, ih2, ih3, ih4, ih5⟩ := fleuronlaw01_NumOrder.mono_l k
  unfold fleuronlaw01_NumOrder.f
  repeat' first
      | (with_reducible exact ih0 _ _ _ _ _ _ _)
      | (with_reducible exact ih1 _ _ _ _ _ _ _ _)
      | (with_reducible exact ih2 _ _ _ _ _ _ _ _)
      | (with_reducible exact ih3 _ _ _ _ _ _ _ _ _ _)
      | (with_reducible exact ih4 _ _ _ _)
      | (with_reducible exact ih5 _ _ _ _ _ _ _)
      | (with_reducible exact fleuronlaw01_awake.mono _)
      | (with_reducible exact fleuronlaw01_sum.mono _ _ _ _ _)
      | (with_reducible exact fleuronref01_Valid.mono _ _ _)
      | (with_reducible exact num_Cmp.mono _ _ _ _ _)
      | (with_reducible exact num_Floor.mono _ _ _)
      | (with_reducible exact num_Mod.mono _ _ _ _ _)
      | (with_reducible exact LeO.refl _)
      | (with_reducible exact LeO.none _)
      | (with_reducible refine LeO.ite ?_ ?_)
      | (with_reducible refine LeO.bind ?_ (fun _ => ?_))
      | exact ih0 _ _ _ _ _ _ _
      | exact ih1 _ _ _ _ _ _ _ _
      | exact ih2 _ _ _ _ _ _ _ _
      | exact ih3 _ _ _ _ _ _ _ _ _ _
      | exact ih4 _ _ _ _
      | exact ih5 _ _ _ _ _ _ _
      | exact fleuronlaw01_awake.mono _
      | exact fleuronlaw01_sum.mono _ _ _ _ _
      | exact fleuronref01_Valid.mono _ _ _
      | exact num_Cmp.mono _ _ _ _ _
      | exact num_Floor.mono _ _ _
      | exact num_Mod.mono _ _ _ _ _
      | exact LeO.none _
      | refine LeO.ite ?_ ?_
      | refine LeO.bind ?_ (fun _ => ?_)
set_option maxHeartbeats 8000000 in
set_option maxRecDepth 100000 in
theorem fleuronlaw01_NumOrder.calls (k : Nat) (a0_0 : Int) (a0_1 : Int) (a1_0 : Int) (a1_1 : Int) (a2_0 : Int) (a2_1 : Int) (r : Bool) (w : World) (h : fleuronlaw01_NumOrder.f k a0_0 a0_1 a1_0 a1_1 a2_0 a2_1 = some r) (hG : Glob w) :
    Calls Tryd.prog 9 #[.agg #[.int .i64 a0_0, .int .i64 a0_1], .agg #[.int .i64 a1_0, .int .i64 a1_1], .agg #[.int .i64 a2_0, .int .i64 a2_1]] w fun e w' => e = .returned (.bool r) ∧ Below w.heap.size w w' := by
  have HG := Fa.mk hG
  clear hG
  have hu23 := Tryd.underlying23
  have HB := Fa.mk (Below.refl w.heap.size w)
  have H : ((fleuronref01_Valid.f k a0_0 a0_1).bind fun t537 => (if t537 = true then ((fleuronref01_Valid.f k a1_0 a1_1).bind fun t538 => (if t538 = true then ((fleuronref01_Valid.f k a2_0 a2_1).bind fun t539 => (fleuronlaw01_NumOrder.j0 k (!t539) a0_0 a0_1 a1_0 a1_1 a2_0 a2_1)) else (fleuronlaw01_NumOrder.j0 k true a0_0 a0_1 a1_0 a1_1 a2_0 a2_1))) else (fleuronlaw01_NumOrder.j0 k true a0_0 a0_1 a1_0 a1_1 a2_0 a2_1))) = some r := h
  clear h
  have HC4 := Fa.mk H
  clear H
  go_enter Tryd.func9, Tryd.ntmps9
  go_upto_region 1 with (first | ((with_reducible refine gate_dst (N := 3) rfl ?_); refine boxF (N := 3) (cs := #[.int .i64 a0_0, .int .i64 a0_1]) (t := 23) ?_; intro gb534 hg w5 hbox hb; have n0_ := Fa.mk (bst w hb); have n1_ := Fa.mk (hbox); have n2_ := Fa.mk (gle hg : w.heap.size ≤ gb534); have n3_ := n2_; clear HB; have HB := n0_; have BK534 := n1_; have GW534 := n2_; have GE534 := n3_; clear n0_ n1_ n2_ n3_; clear hb hbox hg) | ((with_reducible refine gate_dst (N := 4) rfl ?_); refine boxF (N := 4) (cs := #[.int .i64 a1_0, .int .i64 a1_1]) (t := 23) ?_; intro gb535 hg w6 hbox hb; have n0_ := Fa.mk (blk_below (g := gb534) (o := .cells #[.int .i64 a0_0, .int .i64 a0_1] 23 (0, 0)) fa hb); have n1_ := Fa.mk (bst w hb); have n2_ := Fa.mk (hbox); have n3_ := Fa.mk (gle hg : w.heap.size ≤ gb535); have n4_ := n3_; have n5_ := Fa.mk (gne (o := .cells #[.int .i64 a0_0, .int .i64 a0_1] 23 (0, 0)) hg : gb534 ≠ gb535); have n6_ := Fa.mk n5_.out.symm; clear BK534; clear HB; have BK534 := n0_; have HB := n1_; have BK535 := n2_; have GW535 := n3_; have GE535 := n4_; have NB534_535 := n5_; have NB535_534 := n6_; clear n0_ n1_ n2_ n3_ n4_ n5_ n6_; clear hb hbox hg) | ((with_reducible refine gate_dst (N := 5) rfl ?_); refine boxF (N := 5) (cs := #[.int .i64 a2_0, .int .i64 a2_1]) (t := 23) ?_; intro gb536 hg w7 hbox hb; have n0_ := Fa.mk (blk_below (g := gb534) (o := .cells #[.int .i64 a0_0, .int .i64 a0_1] 23 (0, 0)) fa hb); have n1_ := Fa.mk (blk_below (g := gb535) (o := .cells #[.int .i64 a1_0, .int .i64 a1_1] 23 (0, 0)) fa hb); have n2_ := Fa.mk (bst w hb); have n3_ := Fa.mk (hbox); have n4_ := Fa.mk (gle hg : w.heap.size ≤ gb536); have n5_ := n4_; have n6_ := Fa.mk (gne (o := .cells #[.int .i64 a0_0, .int .i64 a0_1] 23 (0, 0)) hg : gb534 ≠ gb536); have n7_ := Fa.mk n6_.out.symm; have n8_ := Fa.mk (gne (o := .cells #[.int .i64 a1_0, .int .i64 a1_1] 23 (0, 0)) hg : gb535 ≠ gb536); have n9_ := Fa.mk n8_.out.symm; clear BK534; clear BK535; clear HB; have BK534 := n0_; have BK535 := n1_; have HB := n2_; have BK536 := n3_; have GW536 := n4_; have GE536 := n5_; have NB534_536 := n6_; have NB536_534 := n7_; have NB535_536 := n8_; have NB536_535 := n9_; clear n0_ n1_ n2_ n3_ n4_ n5_ n6_ n7_ n8_ n9_; clear hb hbox hg))
  (try simp only [Act.put, List.setIfInBounds_toArray, List.set_cons_zero, List.set_cons_succ])
  go_cut [42] (fun v42 wc => ∃ (kq : Nat) (x42_3 : Bool), v42 = .bool x42_3 ∧ Fa (fleuronlaw01_NumOrder.j0 kq x42_3 a0_0 a0_1 a1_0 a1_1 a2_0 a2_1 = some r) ∧ Fa (kq ≤ k) ∧ Fa (wc.heap[gb534]? = some (.cells #[.int .i64 a0_0, .int .i64 a0_1] 23 (0, 0))) ∧ Fa (wc.heap[gb535]? = some (.cells #[.int .i64 a1_0, .int .i64 a1_1] 23 (0, 0))) ∧ Fa (wc.heap[gb536]? = some (.cells #[.int .i64 a2_0, .int .i64 a2_1] 23 (0, 0))) ∧ Fa (Below w.heap.size w wc))
  case first =>
    as_aux_lemma =>
    have H := HC4.out
    clear HC4
    replace H := Option.bind_eq_some_iff.mp H
    obtain ⟨t537, A80, H⟩ := H
    replace H : (if t537 = true then ((fleuronref01_Valid.f k a1_0 a1_1).bind fun t538 => (if t538 = true then ((fleuronref01_Valid.f k a2_0 a2_1).bind fun t539 => (fleuronlaw01_NumOrder.j0 k (!t539) a0_0 a0_1 a1_0 a1_1 a2_0 a2_1)) else (fleuronlaw01_NumOrder.j0 k true a0_0 a0_1 a1_0 a1_1 a2_0 a2_1))) else (fleuronlaw01_NumOrder.j0 k true a0_0 a0_1 a1_0 a1_1 a2_0 a2_1)) = some r := H
    have A8 := Fa.mk A80
    clear A80
    by_cases c9 : t537 = true
    · subst c9
      have H1 : ((fleuronref01_Valid.f k a1_0 a1_1).bind fun t538 => (if t538 = true then ((fleuronref01_Valid.f k a2_0 a2_1).bind fun t539 => (fleuronlaw01_NumOrder.j0 k (!t539) a0_0 a0_1 a1_0 a1_1 a2_0 a2_1)) else (fleuronlaw01_NumOrder.j0 k true a0_0 a0_1 a1_0 a1_1 a2_0 a2_1))) = some r := by rw [if_pos rfl] at H; exact H
      clear H
      have H := H1
      clear H1
      replace H := Option.bind_eq_some_iff.mp H
      obtain ⟨t538, A100, H⟩ := H
      replace H : (if t538 = true then ((fleuronref01_Valid.f k a2_0 a2_1).bind fun t539 => (fleuronlaw01_NumOrder.j0 k (!t539) a0_0 a0_1 a1_0 a1_1 a2_0 a2_1)) else (fleuronlaw01_NumOrder.j0 k true a0_0 a0_1 a1_0 a1_1 a2_0 a2_1)) = some r := H
      have A10 := Fa.mk A100
      clear A100
      by_cases c11 : t538 = true
      · subst c11
        have H1 : ((fleuronref01_Valid.f k a2_0 a2_1).bind fun t539 => (fleuronlaw01_NumOrder.j0 k (!t539) a0_0 a0_1 a1_0 a1_1 a2_0 a2_1)) = some r := by rw [if_pos rfl] at H; exact H
        clear H
        have H := H1
        clear H1
        replace H := Option.bind_eq_some_iff.mp H
        obtain ⟨t539, A120, H⟩ := H
        replace H : (fleuronlaw01_NumOrder.j0 k (!t539) a0_0 a0_1 a1_0 a1_1 a2_0 a2_1) = some r := H
        have A12 := Fa.mk A120
        clear A120
        have H' := Fa.mk H
        clear H
        have hnb13 := NB534_535.out
        have hnc13 := NB535_534.out
        have hnb14 := NB534_536.out
        have hnc14 := NB536_534.out
        have hcz15_0 : w7.cell? ⟨gb534, 0, none⟩ = some (.int .i64 a0_0) := (blk_cell BK534.out 0).trans rfl
        have hcz15_1 : w7.cell? ⟨gb534, 1, none⟩ = some (.int .i64 a0_1) := (blk_cell BK534.out 1).trans rfl
        have hfz15_0 := blk_frozen BK534.out 0
        have hfz15_1 := blk_frozen BK534.out 1
        go_wp2_with (first | ((with_reducible refine gate_callee (f := 16) rfl ?_); refine goesA (some 31) rfl rfl Tryd.func16 (by kernel_rfl) rfl #[.agg #[.int .i64 a0_0, .int .i64 a0_1]] rfl ?_; (with_reducible refine (fleuronref01_Valid.calls k a0_0 a0_1 true _ A8.out).mono ?_); rintro e w16 ⟨rfl, hb⟩; refine ⟨_, rfl, ?_⟩; have n0_ := Fa.mk (blk_below (g := gb534) (o := .cells #[.int .i64 a0_0, .int .i64 a0_1] 23 (0, 0)) fa hb); have n1_ := Fa.mk (blk_below (g := gb535) (o := .cells #[.int .i64 a1_0, .int .i64 a1_1] 23 (0, 0)) fa hb); have n2_ := Fa.mk (blk_below (g := gb536) (o := .cells #[.int .i64 a2_0, .int .i64 a2_1] 23 (0, 0)) fa hb); have n3_ := Fa.mk (bst w hb); clear BK534; clear BK535; clear BK536; clear HB; have BK534 := n0_; have BK535 := n1_; have BK536 := n2_; have HB := n3_; clear n0_ n1_ n2_ n3_; (try clear hb); (try clear hb2); (try clear hk); (try clear hi); have hnb17 := NB535_536.out; have hnc17 := NB536_535.out; have hcz18_0 : w16.cell? ⟨gb535, 0, none⟩ = some (.int .i64 a1_0) := (blk_cell BK535.out 0).trans rfl; have hcz18_1 : w16.cell? ⟨gb535, 1, none⟩ = some (.int .i64 a1_1) := (blk_cell BK535.out 1).trans rfl; have hfz18_0 := blk_frozen BK535.out 0; have hfz18_1 := blk_frozen BK535.out 1) | (go_at_call 16; (with_reducible refine (fleuronref01_Valid.calls k a1_0 a1_1 true _ A10.out).mono ?_); rintro e w19 ⟨rfl, hb⟩; have n0_ := Fa.mk (blk_below (g := gb534) (o := .cells #[.int .i64 a0_0, .int .i64 a0_1] 23 (0, 0)) fa hb); have n1_ := Fa.mk (blk_below (g := gb535) (o := .cells #[.int .i64 a1_0, .int .i64 a1_1] 23 (0, 0)) fa hb); have n2_ := Fa.mk (blk_below (g := gb536) (o := .cells #[.int .i64 a2_0, .int .i64 a2_1] 23 (0, 0)) fa hb); have n3_ := Fa.mk (bst w hb); clear BK534; clear BK535; clear BK536; clear HB; have BK534 := n0_; have BK535 := n1_; have BK536 := n2_; have HB := n3_; clear n0_ n1_ n2_ n3_; (try clear hb); (try clear hb2); (try clear hk); (try clear hi); have hcz20_0 : w19.cell? ⟨gb536, 0, none⟩ = some (.int .i64 a2_0) := (blk_cell BK536.out 0).trans rfl; have hcz20_1 : w19.cell? ⟨gb536, 1, none⟩ = some (.int .i64 a2_1) := (blk_cell BK536.out 1).trans rfl; have hfz20_0 := blk_frozen BK536.out 0; have hfz20_1 := blk_frozen BK536.out 1) | (go_at_call 16; (with_reducible refine (fleuronref01_Valid.calls k a2_0 a2_1 t539 _ A12.out).mono ?_); rintro e w21 ⟨rfl, hb⟩; have n0_ := Fa.mk (blk_below (g := gb534) (o := .cells #[.int .i64 a0_0, .int .i64 a0_1] 23 (0, 0)) fa hb); have n1_ := Fa.mk (blk_below (g := gb535) (o := .cells #[.int .i64 a1_0, .int .i64 a1_1] 23 (0, 0)) fa hb); have n2_ := Fa.mk (blk_below (g := gb536) (o := .cells #[.int .i64 a2_0, .int .i64 a2_1] 23 (0, 0)) fa hb); have n3_ := Fa.mk (bst w hb); clear BK534; clear BK535; clear BK536; clear HB; have BK534 := n0_; have BK535 := n1_; have BK536 := n2_; have HB := n3_; clear n0_ n1_ n2_ n3_; (try clear hb); (try clear hb2); (try clear hk); (try clear hi)))
        go_meet
        case rel => exact ⟨_, (!t539), (by first | rfl | (simp; done) | (simp [*]; done)), H', ⟨by first | omega | exact Nat.le_refl _⟩, ⟨by (with_reducible repeat (first | refine blk_drewN ?_ _ | refine blk_drew ?_ | refine blk_alloc ?_ _)); exact BK534.out⟩, ⟨by (with_reducible repeat (first | refine blk_drewN ?_ _ | refine blk_drew ?_ | refine blk_alloc ?_ _)); exact BK535.out⟩, ⟨by (with_reducible repeat (first | refine blk_drewN ?_ _ | refine blk_drew ?_ | refine blk_alloc ?_ _)); exact BK536.out⟩, ⟨fa⟩⟩
      · replace c11 := Bool.eq_false_iff.mpr c11
        subst c11
        have H1 : (fleuronlaw01_NumOrder.j0 k true a0_0 a0_1 a1_0 a1_1 a2_0 a2_1) = some r := by rw [if_neg (show ¬ (false = true) by decide)] at H; exact H
        clear H
        have H := H1
        clear H1
        have H' := Fa.mk H
        clear H
        have hnb22 := NB534_535.out
        have hnc22 := NB535_534.out
        have hnb23 := NB534_536.out
        have hnc23 := NB536_534.out
        have hcz24_0 : w7.cell? ⟨gb534, 0, none⟩ = some (.int .i64 a0_0) := (blk_cell BK534.out 0).trans rfl
        have hcz24_1 : w7.cell? ⟨gb534, 1, none⟩ = some (.int .i64 a0_1) := (blk_cell BK534.out 1).trans rfl
        have hfz24_0 := blk_frozen BK534.out 0
        have hfz24_1 := blk_frozen BK534.out 1
        go_wp2_with (first | ((with_reducible refine gate_callee (f := 16) rfl ?_); refine goesA (some 31) rfl rfl Tryd.func16 (by kernel_rfl) rfl #[.agg #[.int .i64 a0_0, .int .i64 a0_1]] rfl ?_; (with_reducible refine (fleuronref01_Valid.calls k a0_0 a0_1 true _ A8.out).mono ?_); rintro e w25 ⟨rfl, hb⟩; refine ⟨_, rfl, ?_⟩; have n0_ := Fa.mk (blk_below (g := gb534) (o := .cells #[.int .i64 a0_0, .int .i64 a0_1] 23 (0, 0)) fa hb); have n1_ := Fa.mk (blk_below (g := gb535) (o := .cells #[.int .i64 a1_0, .int .i64 a1_1] 23 (0, 0)) fa hb); have n2_ := Fa.mk (blk_below (g := gb536) (o := .cells #[.int .i64 a2_0, .int .i64 a2_1] 23 (0, 0)) fa hb); have n3_ := Fa.mk (bst w hb); clear BK534; clear BK535; clear BK536; clear HB; have BK534 := n0_; have BK535 := n1_; have BK536 := n2_; have HB := n3_; clear n0_ n1_ n2_ n3_; (try clear hb); (try clear hb2); (try clear hk); (try clear hi); have hnb26 := NB535_536.out; have hnc26 := NB536_535.out; have hcz27_0 : w25.cell? ⟨gb535, 0, none⟩ = some (.int .i64 a1_0) := (blk_cell BK535.out 0).trans rfl; have hcz27_1 : w25.cell? ⟨gb535, 1, none⟩ = some (.int .i64 a1_1) := (blk_cell BK535.out 1).trans rfl; have hfz27_0 := blk_frozen BK535.out 0; have hfz27_1 := blk_frozen BK535.out 1) | (go_at_call 16; (with_reducible refine (fleuronref01_Valid.calls k a1_0 a1_1 false _ A10.out).mono ?_); rintro e w28 ⟨rfl, hb⟩; have n0_ := Fa.mk (blk_below (g := gb534) (o := .cells #[.int .i64 a0_0, .int .i64 a0_1] 23 (0, 0)) fa hb); have n1_ := Fa.mk (blk_below (g := gb535) (o := .cells #[.int .i64 a1_0, .int .i64 a1_1] 23 (0, 0)) fa hb); have n2_ := Fa.mk (blk_below (g := gb536) (o := .cells #[.int .i64 a2_0, .int .i64 a2_1] 23 (0, 0)) fa hb); have n3_ := Fa.mk (bst w hb); clear BK534; clear BK535; clear BK536; clear HB; have BK534 := n0_; have BK535 := n1_; have BK536 := n2_; have HB := n3_; clear n0_ n1_ n2_ n3_; (try clear hb); (try clear hb2); (try clear hk); (try clear hi)))
        go_meet
        case rel => exact ⟨_, (true), (by first | rfl | (simp; done) | (simp [*]; done)), H', ⟨by first | omega | exact Nat.le_refl _⟩, ⟨by (with_reducible repeat (first | refine blk_drewN ?_ _ | refine blk_drew ?_ | refine blk_alloc ?_ _)); exact BK534.out⟩, ⟨by (with_reducible repeat (first | refine blk_drewN ?_ _ | refine blk_drew ?_ | refine blk_alloc ?_ _)); exact BK535.out⟩, ⟨by (with_reducible repeat (first | refine blk_drewN ?_ _ | refine blk_drew ?_ | refine blk_alloc ?_ _)); exact BK536.out⟩, ⟨fa⟩⟩
    · replace c9 := Bool.eq_false_iff.mpr c9
      subst c9
      have H1 : (fleuronlaw01_NumOrder.j0 k true a0_0 a0_1 a1_0 a1_1 a2_0 a2_1) = some r := by rw [if_neg (show ¬ (false = true) by decide)] at H; exact H
      clear H
      have H := H1
      clear H1
      have H' := Fa.mk H
      clear H
      have hnb29 := NB534_535.out
      have hnc29 := NB535_534.out
      have hnb30 := NB534_536.out
      have hnc30 := NB536_534.out
      have hcz31_0 : w7.cell? ⟨gb534, 0, none⟩ = some (.int .i64 a0_0) := (blk_cell BK534.out 0).trans rfl
      have hcz31_1 : w7.cell? ⟨gb534, 1, none⟩ = some (.int .i64 a0_1) := (blk_cell BK534.out 1).trans rfl
      have hfz31_0 := blk_frozen BK534.out 0
      have hfz31_1 := blk_frozen BK534.out 1
      go_wp2_with (first | ((with_reducible refine gate_callee (f := 16) rfl ?_); refine goesA (some 31) rfl rfl Tryd.func16 (by kernel_rfl) rfl #[.agg #[.int .i64 a0_0, .int .i64 a0_1]] rfl ?_; (with_reducible refine (fleuronref01_Valid.calls k a0_0 a0_1 false _ A8.out).mono ?_); rintro e w32 ⟨rfl, hb⟩; refine ⟨_, rfl, ?_⟩; have n0_ := Fa.mk (blk_below (g := gb534) (o := .cells #[.int .i64 a0_0, .int .i64 a0_1] 23 (0, 0)) fa hb); have n1_ := Fa.mk (blk_below (g := gb535) (o := .cells #[.int .i64 a1_0, .int .i64 a1_1] 23 (0, 0)) fa hb); have n2_ := Fa.mk (blk_below (g := gb536) (o := .cells #[.int .i64 a2_0, .int .i64 a2_1] 23 (0, 0)) fa hb); have n3_ := Fa.mk (bst w hb); clear BK534; clear BK535; clear BK536; clear HB; have BK534 := n0_; have BK535 := n1_; have BK536 := n2_; have HB := n3_; clear n0_ n1_ n2_ n3_; (try clear hb); (try clear hb2); (try clear hk); (try clear hi)))
      go_meet
      case rel => exact ⟨_, (true), (by first | rfl | (simp; done) | (simp [*]; done)), H', ⟨by first | omega | exact Nat.le_refl _⟩, ⟨by (with_reducible repeat (first | refine blk_drewN ?_ _ | refine blk_drew ?_ | refine blk_alloc ?_ _)); exact BK534.out⟩, ⟨by (with_reducible repeat (first | refine blk_drewN ?_ _ | refine blk_drew ?_ | refine blk_alloc ?_ _)); exact BK535.out⟩, ⟨by (with_reducible repeat (first | refine blk_drewN ?_ _ | refine blk_drew ?_ | refine blk_alloc ?_ _)); exact BK536.out⟩, ⟨fa⟩⟩
  case rest =>
    as_aux_lemma =>
    clear HC4
    try clear c1
    try clear c2
    try clear p2
    try clear c3
    try clear c9
    try clear c11
    try clear c13
    try clear c14
    try clear c16
    try clear c17
    try clear c22
    try clear c23
    try clear c26
    try clear c29
    try clear c30
    try clear hcz15_0
    try clear hcz15_1
    try clear hcz18_0
    try clear hcz18_1
    try clear hcz20_0
    try clear hcz20_1
    try clear hcz24_0
    try clear hcz24_1
    try clear hcz27_0
    try clear hcz27_1
    try clear hcz31_0
    try clear hcz31_1
    try clear hfz15_0
    try clear hfz15_1
    try clear hfz18_0
    try clear hfz18_1
    try clear hfz20_0
    try clear hfz20_1
    try clear hfz24_0
    try clear hfz24_1
    try clear hfz27_0
    try clear hfz27_1
    try clear hfz31_0
    try clear hfz31_1
    obtain ⟨kq, x42_3, rfl, HA, HJ3, BK534, BK535, BK536, HB⟩ := hcut
    cases kq with
    | zero => exact absurd HA.out (by simp [fleuronlaw01_NumOrder.j0])
    | succ kj3 =>
      have H := HA.out
      clear HA
      simp only [fleuronlaw01_NumOrder.j0] at H
      by_cases c33 : x42_3 = true
      · subst c33
        have H1 : ((fleuronlaw01_awake.f kj3).bind fun t540 => (some t540)) = some r := by rw [if_pos rfl] at H; exact H
        clear H
        have H := H1
        clear H1
        replace H := Option.bind_eq_some_iff.mp H
        obtain ⟨t540, A340, H⟩ := H
        replace H : (some t540) = some r := H
        have A34 := Fa.mk A340
        clear A340
        obtain rfl := Option.some.inj H
        go_wp2_with (first | ((with_reducible refine gate_callee (f := 17) rfl ?_); refine goesA (some 43) rfl rfl Tryd.func17 (by kernel_rfl) rfl #[] rfl ?_; (with_reducible refine (fleuronlaw01_awake.calls kj3  t540 _ A34.out (HG.out.below fa)).mono ?_); rintro e w35 ⟨rfl, hb⟩; refine ⟨_, rfl, ?_⟩; have n0_ := Fa.mk (blk_below (g := gb534) (o := .cells #[.int .i64 a0_0, .int .i64 a0_1] 23 (0, 0)) fa hb); have n1_ := Fa.mk (blk_below (g := gb535) (o := .cells #[.int .i64 a1_0, .int .i64 a1_1] 23 (0, 0)) fa hb); have n2_ := Fa.mk (blk_below (g := gb536) (o := .cells #[.int .i64 a2_0, .int .i64 a2_1] 23 (0, 0)) fa hb); have n3_ := Fa.mk (bst w hb); clear BK534; clear BK535; clear BK536; clear HB; have BK534 := n0_; have BK535 := n1_; have BK536 := n2_; have HB := n3_; clear n0_ n1_ n2_ n3_; (try clear hb); (try clear hb2); (try clear hk); (try clear hi)))
        go_ret
        exact ⟨by first | rfl | (simp [errW_none, errW_some] <;> rfl) | (simp [*, errW_none, errW_some] <;> rfl), fa⟩
      · replace c33 := Bool.eq_false_iff.mpr c33
        subst c33
        have H1 : ((num_Cmp.f kj3 a0_0 a0_1 a1_0 a1_1).bind fun bt541 => ((num_Cmp.f kj3 a1_0 a1_1 a0_0 a0_1).bind fun bt543 => (if bt541.2 = 0 then (if bt543.2 = 0 then (if bt541.1 = (wrap64 (-bt543.1)) then (fleuronlaw01_NumOrder.j1 kj3 bt541.1 ((bt541.1 == 0) != (a0_0 == a1_0 && (a0_1 == a1_1))) a0_0 a0_1 a1_0 a1_1 a2_0 a2_1) else (fleuronlaw01_NumOrder.j1 kj3 bt541.1 true a0_0 a0_1 a1_0 a1_1 a2_0 a2_1)) else (fleuronlaw01_NumOrder.j1 kj3 bt541.1 true a0_0 a0_1 a1_0 a1_1 a2_0 a2_1)) else (fleuronlaw01_NumOrder.j1 kj3 bt541.1 true a0_0 a0_1 a1_0 a1_1 a2_0 a2_1)))) = some r := by rw [if_neg (show ¬ (false = true) by decide)] at H; exact H
        clear H
        have H := H1
        clear H1
        replace H := Option.bind_eq_some_iff.mp H
        obtain ⟨⟨t541, t542⟩, A360, H⟩ := H
        replace H : ((num_Cmp.f kj3 a1_0 a1_1 a0_0 a0_1).bind fun bt543 => (if t542 = 0 then (if bt543.2 = 0 then (if t541 = (wrap64 (-bt543.1)) then (fleuronlaw01_NumOrder.j1 kj3 t541 ((t541 == 0) != (a0_0 == a1_0 && (a0_1 == a1_1))) a0_0 a0_1 a1_0 a1_1 a2_0 a2_1) else (fleuronlaw01_NumOrder.j1 kj3 t541 true a0_0 a0_1 a1_0 a1_1 a2_0 a2_1)) else (fleuronlaw01_NumOrder.j1 kj3 t541 true a0_0 a0_1 a1_0 a1_1 a2_0 a2_1)) else (fleuronlaw01_NumOrder.j1 kj3 t541 true a0_0 a0_1 a1_0 a1_1 a2_0 a2_1))) = some r := H
        have A36 := Fa.mk A360
        clear A360
        replace H := Option.bind_eq_some_iff.mp H
        obtain ⟨⟨t543, t544⟩, A370, H⟩ := H
        replace H : (if t542 = 0 then (if t544 = 0 then (if t541 = (wrap64 (-t543)) then (fleuronlaw01_NumOrder.j1 kj3 t541 ((t541 == 0) != (a0_0 == a1_0 && (a0_1 == a1_1))) a0_0 a0_1 a1_0 a1_1 a2_0 a2_1) else (fleuronlaw01_NumOrder.j1 kj3 t541 true a0_0 a0_1 a1_0 a1_1 a2_0 a2_1)) else (fleuronlaw01_NumOrder.j1 kj3 t541 true a0_0 a0_1 a1_0 a1_1 a2_0 a2_1)) else (fleuronlaw01_NumOrder.j1 kj3 t541 true a0_0 a0_1 a1_0 a1_1 a2_0 a2_1)) = some r := H
        have A37 := Fa.mk A370
        clear A370
        have HC38 := Fa.mk H
        clear H
        have hnb39 := NB534_535.out
        have hnc39 := NB535_534.out
        have hnb40 := NB534_536.out
        have hnc40 := NB536_534.out
        have hcz41_0 : wc.cell? ⟨gb534, 0, none⟩ = some (.int .i64 a0_0) := (blk_cell BK534.out 0).trans rfl
        have hcz41_1 : wc.cell? ⟨gb534, 1, none⟩ = some (.int .i64 a0_1) := (blk_cell BK534.out 1).trans rfl
        have hfz41_0 := blk_frozen BK534.out 0
        have hfz41_1 := blk_frozen BK534.out 1
        have hnb42 := NB535_536.out
        have hnc42 := NB536_535.out
        have hcz43_0 : wc.cell? ⟨gb535, 0, none⟩ = some (.int .i64 a1_0) := (blk_cell BK535.out 0).trans rfl
        have hcz43_1 : wc.cell? ⟨gb535, 1, none⟩ = some (.int .i64 a1_1) := (blk_cell BK535.out 1).trans rfl
        have hfz43_0 := blk_frozen BK535.out 0
        have hfz43_1 := blk_frozen BK535.out 1
        go_upto_region 5 with (first | ((with_reducible refine gate_callee (f := 38) rfl ?_); refine goesA (some 47) rfl rfl Tryd.func38 (by kernel_rfl) rfl #[.agg #[.int .i64 a0_0, .int .i64 a0_1], .agg #[.int .i64 a1_0, .int .i64 a1_1]] rfl ?_; (with_reducible refine (num_Cmp.calls kj3 a0_0 a0_1 a1_0 a1_1 t541 t542 _ A36.out).mono ?_); rintro e w44 ⟨rfl, hb⟩; refine ⟨_, rfl, ?_⟩; have n0_ := Fa.mk (blk_below (g := gb534) (o := .cells #[.int .i64 a0_0, .int .i64 a0_1] 23 (0, 0)) fa hb); have n1_ := Fa.mk (blk_below (g := gb535) (o := .cells #[.int .i64 a1_0, .int .i64 a1_1] 23 (0, 0)) fa hb); have n2_ := Fa.mk (blk_below (g := gb536) (o := .cells #[.int .i64 a2_0, .int .i64 a2_1] 23 (0, 0)) fa hb); have n3_ := Fa.mk (bst w hb); clear BK534; clear BK535; clear BK536; clear HB; have BK534 := n0_; have BK535 := n1_; have BK536 := n2_; have HB := n3_; clear n0_ n1_ n2_ n3_; (try clear hb); (try clear hb2); (try clear hk); (try clear hi); have hcz45_0 : w44.cell? ⟨gb535, 0, none⟩ = some (.int .i64 a1_0) := (blk_cell BK535.out 0).trans rfl; have hcz45_1 : w44.cell? ⟨gb535, 1, none⟩ = some (.int .i64 a1_1) := (blk_cell BK535.out 1).trans rfl; have hfz45_0 := blk_frozen BK535.out 0; have hfz45_1 := blk_frozen BK535.out 1; have hcz46_0 : w44.cell? ⟨gb534, 0, none⟩ = some (.int .i64 a0_0) := (blk_cell BK534.out 0).trans rfl; have hcz46_1 : w44.cell? ⟨gb534, 1, none⟩ = some (.int .i64 a0_1) := (blk_cell BK534.out 1).trans rfl; have hfz46_0 := blk_frozen BK534.out 0; have hfz46_1 := blk_frozen BK534.out 1) | ((with_reducible refine gate_callee (f := 38) rfl ?_); refine goesA (some 53) rfl rfl Tryd.func38 (by kernel_rfl) rfl #[.agg #[.int .i64 a1_0, .int .i64 a1_1], .agg #[.int .i64 a0_0, .int .i64 a0_1]] rfl ?_; (with_reducible refine (num_Cmp.calls kj3 a1_0 a1_1 a0_0 a0_1 t543 t544 _ A37.out).mono ?_); rintro e w47 ⟨rfl, hb⟩; refine ⟨_, rfl, ?_⟩; have n0_ := Fa.mk (blk_below (g := gb534) (o := .cells #[.int .i64 a0_0, .int .i64 a0_1] 23 (0, 0)) fa hb); have n1_ := Fa.mk (blk_below (g := gb535) (o := .cells #[.int .i64 a1_0, .int .i64 a1_1] 23 (0, 0)) fa hb); have n2_ := Fa.mk (blk_below (g := gb536) (o := .cells #[.int .i64 a2_0, .int .i64 a2_1] 23 (0, 0)) fa hb); have n3_ := Fa.mk (bst w hb); clear BK534; clear BK535; clear BK536; clear HB; have BK534 := n0_; have BK535 := n1_; have BK536 := n2_; have HB := n3_; clear n0_ n1_ n2_ n3_; (try clear hb); (try clear hb2); (try clear hk); (try clear hi)))
        (try simp only [Act.put, List.setIfInBounds_toArray, List.set_cons_zero, List.set_cons_succ])
        go_cut [75] (fun v75 wc => ∃ (kq : Nat) (x75_37 : Bool), v75 = .bool x75_37 ∧ Fa (fleuronlaw01_NumOrder.j1 kq t541 x75_37 a0_0 a0_1 a1_0 a1_1 a2_0 a2_1 = some r) ∧ Fa (kq ≤ kj3) ∧ Fa (wc.heap[gb534]? = some (.cells #[.int .i64 a0_0, .int .i64 a0_1] 23 (0, 0))) ∧ Fa (wc.heap[gb535]? = some (.cells #[.int .i64 a1_0, .int .i64 a1_1] 23 (0, 0))) ∧ Fa (wc.heap[gb536]? = some (.cells #[.int .i64 a2_0, .int .i64 a2_1] 23 (0, 0))) ∧ Fa (Below w.heap.size w wc))
        case first =>
          as_aux_lemma =>
          have H := HC38.out
          clear HC38
          by_cases c48 : t542 = 0
          · rw [if_pos c48] at H
            have c48b0 : (t542 == 0) = true := beq_iff_eq.mpr c48
            have c48b1 : (t542 != 0) = false := bne_eq_false_iff_eq.mpr c48
            clear c48
            (first | rw [c48b0] | (simp only [i64_w, i32_w]; rw [c48b0]) | skip)
            by_cases c49 : t544 = 0
            · rw [if_pos c49] at H
              have c49b0 : (t544 == 0) = true := beq_iff_eq.mpr c49
              have c49b1 : (t544 != 0) = false := bne_eq_false_iff_eq.mpr c49
              clear c49
              by_cases c50 : t541 = (wrap64 (-t543))
              · rw [if_pos c50] at H
                have c50b0 : (t541 == (wrap64 (-t543))) = true := beq_iff_eq.mpr c50
                have c50b1 : (t541 != (wrap64 (-t543))) = false := bne_eq_false_iff_eq.mpr c50
                clear c50
                have H' := Fa.mk H
                clear H
                have hnb51 := NB534_535.out
                have hnc51 := NB535_534.out
                have hnb52 := NB534_536.out
                have hnc52 := NB536_534.out
                have hcz53_0 : w47.cell? ⟨gb534, 0, none⟩ = some (.int .i64 a0_0) := (blk_cell BK534.out 0).trans rfl
                have hcz53_1 : w47.cell? ⟨gb534, 1, none⟩ = some (.int .i64 a0_1) := (blk_cell BK534.out 1).trans rfl
                have hfz53_0 := blk_frozen BK534.out 0
                have hfz53_1 := blk_frozen BK534.out 1
                have hnb54 := NB535_536.out
                have hnc54 := NB536_535.out
                have hcz55_0 : w47.cell? ⟨gb535, 0, none⟩ = some (.int .i64 a1_0) := (blk_cell BK535.out 0).trans rfl
                have hcz55_1 : w47.cell? ⟨gb535, 1, none⟩ = some (.int .i64 a1_1) := (blk_cell BK535.out 1).trans rfl
                have hfz55_0 := blk_frozen BK535.out 0
                have hfz55_1 := blk_frozen BK535.out 1
                go_wp2
                go_meet
                case rel => exact ⟨_, (((t541 == 0) != (a0_0 == a1_0 && (a0_1 == a1_1)))), (by first | rfl | (simp; done) | (simp [*]; done)), H', ⟨by have := HJ3.out; first | omega | exact Nat.le_refl _⟩, ⟨by (with_reducible repeat (first | refine blk_drewN ?_ _ | refine blk_drew ?_ | refine blk_alloc ?_ _)); exact BK534.out⟩, ⟨by (with_reducible repeat (first | refine blk_drewN ?_ _ | refine blk_drew ?_ | refine blk_alloc ?_ _)); exact BK535.out⟩, ⟨by (with_reducible repeat (first | refine blk_drewN ?_ _ | refine blk_drew ?_ | refine blk_alloc ?_ _)); exact BK536.out⟩, ⟨fa⟩⟩
              · rw [if_neg c50] at H
                have c50b0 : (t541 == (wrap64 (-t543))) = false := beq_eq_false_iff_ne.mpr c50
                have c50b1 : (t541 != (wrap64 (-t543))) = true := bne_iff_ne.mpr c50
                have H' := Fa.mk H
                clear H
                go_wp2
                go_meet
                case rel => exact ⟨_, (true), (by first | rfl | (simp; done) | (simp [*]; done)), H', ⟨by have := HJ3.out; first | omega | exact Nat.le_refl _⟩, ⟨by (with_reducible repeat (first | refine blk_drewN ?_ _ | refine blk_drew ?_ | refine blk_alloc ?_ _)); exact BK534.out⟩, ⟨by (with_reducible repeat (first | refine blk_drewN ?_ _ | refine blk_drew ?_ | refine blk_alloc ?_ _)); exact BK535.out⟩, ⟨by (with_reducible repeat (first | refine blk_drewN ?_ _ | refine blk_drew ?_ | refine blk_alloc ?_ _)); exact BK536.out⟩, ⟨fa⟩⟩
            · rw [if_neg c49] at H
              have c49b0 : (t544 == 0) = false := beq_eq_false_iff_ne.mpr c49
              have c49b1 : (t544 != 0) = true := bne_iff_ne.mpr c49
              have H' := Fa.mk H
              clear H
              go_wp2
              go_meet
              case rel => exact ⟨_, (true), (by first | rfl | (simp; done) | (simp [*]; done)), H', ⟨by have := HJ3.out; first | omega | exact Nat.le_refl _⟩, ⟨by (with_reducible repeat (first | refine blk_drewN ?_ _ | refine blk_drew ?_ | refine blk_alloc ?_ _)); exact BK534.out⟩, ⟨by (with_reducible repeat (first | refine blk_drewN ?_ _ | refine blk_drew ?_ | refine blk_alloc ?_ _)); exact BK535.out⟩, ⟨by (with_reducible repeat (first | refine blk_drewN ?_ _ | refine blk_drew ?_ | refine blk_alloc ?_ _)); exact BK536.out⟩, ⟨fa⟩⟩
          · rw [if_neg c48] at H
            have c48b0 : (t542 == 0) = false := beq_eq_false_iff_ne.mpr c48
            have c48b1 : (t542 != 0) = true := bne_iff_ne.mpr c48
            (first | rw [c48b0] | (simp only [i64_w, i32_w]; rw [c48b0]) | skip)
            have H' := Fa.mk H
            clear H
            go_wp2
            go_meet
            case rel => exact ⟨_, (true), (by first | rfl | (simp; done) | (simp [*]; done)), H', ⟨by have := HJ3.out; first | omega | exact Nat.le_refl _⟩, ⟨by (with_reducible repeat (first | refine blk_drewN ?_ _ | refine blk_drew ?_ | refine blk_alloc ?_ _)); exact BK534.out⟩, ⟨by (with_reducible repeat (first | refine blk_drewN ?_ _ | refine blk_drew ?_ | refine blk_alloc ?_ _)); exact BK535.out⟩, ⟨by (with_reducible repeat (first | refine blk_drewN ?_ _ | refine blk_drew ?_ | refine blk_alloc ?_ _)); exact BK536.out⟩, ⟨fa⟩⟩
        case rest =>
          as_aux_lemma =>
          clear HC38
          try clear c1
          try clear c2
          try clear p2
          try clear c3
          try clear c4
          try clear c5
          try clear p6
          try clear c9
          try clear c11
          try clear c13
          try clear c14
          try clear c16
          try clear c17
          try clear c22
          try clear c23
          try clear c26
          try clear c29
          try clear c30
          try clear c33
          try clear c38
          try clear c39
          try clear c40
          try clear c42
          try clear c48
          try clear c48b0
          try clear c48b1
          try clear c49
          try clear c49b0
          try clear c49b1
          try clear c50
          try clear c50b0
          try clear c50b1
          try clear c51
          try clear c52
          try clear c54
          try clear hcz15_0
          try clear hcz15_1
          try clear hcz18_0
          try clear hcz18_1
          try clear hcz20_0
          try clear hcz20_1
          try clear hcz24_0
          try clear hcz24_1
          try clear hcz27_0
          try clear hcz27_1
          try clear hcz31_0
          try clear hcz31_1
          try clear hcz41_0
          try clear hcz41_1
          try clear hcz43_0
          try clear hcz43_1
          try clear hcz45_0
          try clear hcz45_1
          try clear hcz46_0
          try clear hcz46_1
          try clear hcz53_0
          try clear hcz53_1
          try clear hcz55_0
          try clear hcz55_1
          try clear hfz15_0
          try clear hfz15_1
          try clear hfz18_0
          try clear hfz18_1
          try clear hfz20_0
          try clear hfz20_1
          try clear hfz24_0
          try clear hfz24_1
          try clear hfz27_0
          try clear hfz27_1
          try clear hfz31_0
          try clear hfz31_1
          try clear hfz41_0
          try clear hfz41_1
          try clear hfz43_0
          try clear hfz43_1
          try clear hfz45_0
          try clear hfz45_1
          try clear hfz46_0
          try clear hfz46_1
          try clear hfz53_0
          try clear hfz53_1
          try clear hfz55_0
          try clear hfz55_1
          try clear p2
          obtain ⟨kq, x75_37, rfl, HA, HJ37, BK534, BK535, BK536, HB⟩ := hcut
          cases kq with
          | zero => exact absurd HA.out (by simp [fleuronlaw01_NumOrder.j1])
          | succ kj37 =>
            have H := HA.out
            clear HA
            simp only [fleuronlaw01_NumOrder.j1] at H
            by_cases c56 : x75_37 = true
            · subst c56
              have H1 : (none) = some r := by rw [if_pos rfl] at H; exact H
              clear H
              have H := H1
              clear H1
              exact absurd H (by simp)
            · replace c56 := Bool.eq_false_iff.mpr c56
              subst c56
              have H1 : ((num_Cmp.f kj37 a1_0 a1_1 a2_0 a2_1).bind fun bt545 => ((num_Cmp.f kj37 a0_0 a0_1 a2_0 a2_1).bind fun bt547 => (if t541 ≤ 0 then (if bt545.1 ≤ 0 then (fleuronlaw01_NumOrder.j2 kj37 t541 (decide (bt547.1 > 0)) a0_0 a0_1 a1_0 a1_1 a2_0 a2_1) else (fleuronlaw01_NumOrder.j2 kj37 t541 false a0_0 a0_1 a1_0 a1_1 a2_0 a2_1)) else (fleuronlaw01_NumOrder.j2 kj37 t541 false a0_0 a0_1 a1_0 a1_1 a2_0 a2_1)))) = some r := by rw [if_neg (show ¬ (false = true) by decide)] at H; exact H
              clear H
              have H := H1
              clear H1
              replace H := Option.bind_eq_some_iff.mp H
              obtain ⟨⟨t545, t546⟩, A570, H⟩ := H
              replace H : ((num_Cmp.f kj37 a0_0 a0_1 a2_0 a2_1).bind fun bt547 => (if t541 ≤ 0 then (if t545 ≤ 0 then (fleuronlaw01_NumOrder.j2 kj37 t541 (decide (bt547.1 > 0)) a0_0 a0_1 a1_0 a1_1 a2_0 a2_1) else (fleuronlaw01_NumOrder.j2 kj37 t541 false a0_0 a0_1 a1_0 a1_1 a2_0 a2_1)) else (fleuronlaw01_NumOrder.j2 kj37 t541 false a0_0 a0_1 a1_0 a1_1 a2_0 a2_1))) = some r := H
              have A57 := Fa.mk A570
              clear A570
              replace H := Option.bind_eq_some_iff.mp H
              obtain ⟨⟨t547, t548⟩, A580, H⟩ := H
              replace H : (if t541 ≤ 0 then (if t545 ≤ 0 then (fleuronlaw01_NumOrder.j2 kj37 t541 (decide (t547 > 0)) a0_0 a0_1 a1_0 a1_1 a2_0 a2_1) else (fleuronlaw01_NumOrder.j2 kj37 t541 false a0_0 a0_1 a1_0 a1_1 a2_0 a2_1)) else (fleuronlaw01_NumOrder.j2 kj37 t541 false a0_0 a0_1 a1_0 a1_1 a2_0 a2_1)) = some r := H
              have A58 := Fa.mk A580
              clear A580
              have HC59 := Fa.mk H
              clear H
              have hnb60 := NB535_534.out
              have hnc60 := NB534_535.out
              have hnb61 := NB535_536.out
              have hnc61 := NB536_535.out
              have hcz62_0 : wc.cell? ⟨gb535, 0, none⟩ = some (.int .i64 a1_0) := (blk_cell BK535.out 0).trans rfl
              have hcz62_1 : wc.cell? ⟨gb535, 1, none⟩ = some (.int .i64 a1_1) := (blk_cell BK535.out 1).trans rfl
              have hfz62_0 := blk_frozen BK535.out 0
              have hfz62_1 := blk_frozen BK535.out 1
              have hnb63 := NB536_534.out
              have hnc63 := NB534_536.out
              have hcz64_0 : wc.cell? ⟨gb536, 0, none⟩ = some (.int .i64 a2_0) := (blk_cell BK536.out 0).trans rfl
              have hcz64_1 : wc.cell? ⟨gb536, 1, none⟩ = some (.int .i64 a2_1) := (blk_cell BK536.out 1).trans rfl
              have hfz64_0 := blk_frozen BK536.out 0
              have hfz64_1 := blk_frozen BK536.out 1
              go_upto_region 9 with (first | ((with_reducible refine gate_callee (f := 38) rfl ?_); refine goesA (some 79) rfl rfl Tryd.func38 (by kernel_rfl) rfl #[.agg #[.int .i64 a1_0, .int .i64 a1_1], .agg #[.int .i64 a2_0, .int .i64 a2_1]] rfl ?_; (with_reducible refine (num_Cmp.calls kj37 a1_0 a1_1 a2_0 a2_1 t545 t546 _ A57.out).mono ?_); rintro e w65 ⟨rfl, hb⟩; refine ⟨_, rfl, ?_⟩; have n0_ := Fa.mk (blk_below (g := gb534) (o := .cells #[.int .i64 a0_0, .int .i64 a0_1] 23 (0, 0)) fa hb); have n1_ := Fa.mk (blk_below (g := gb535) (o := .cells #[.int .i64 a1_0, .int .i64 a1_1] 23 (0, 0)) fa hb); have n2_ := Fa.mk (blk_below (g := gb536) (o := .cells #[.int .i64 a2_0, .int .i64 a2_1] 23 (0, 0)) fa hb); have n3_ := Fa.mk (bst w hb); clear BK534; clear BK535; clear BK536; clear HB; have BK534 := n0_; have BK535 := n1_; have BK536 := n2_; have HB := n3_; clear n0_ n1_ n2_ n3_; (try clear hb); (try clear hb2); (try clear hk); (try clear hi); have hcz66_0 : w65.cell? ⟨gb534, 0, none⟩ = some (.int .i64 a0_0) := (blk_cell BK534.out 0).trans rfl; have hcz66_1 : w65.cell? ⟨gb534, 1, none⟩ = some (.int .i64 a0_1) := (blk_cell BK534.out 1).trans rfl; have hfz66_0 := blk_frozen BK534.out 0; have hfz66_1 := blk_frozen BK534.out 1; have hcz67_0 : w65.cell? ⟨gb536, 0, none⟩ = some (.int .i64 a2_0) := (blk_cell BK536.out 0).trans rfl; have hcz67_1 : w65.cell? ⟨gb536, 1, none⟩ = some (.int .i64 a2_1) := (blk_cell BK536.out 1).trans rfl; have hfz67_0 := blk_frozen BK536.out 0; have hfz67_1 := blk_frozen BK536.out 1) | ((with_reducible refine gate_callee (f := 38) rfl ?_); refine goesA (some 85) rfl rfl Tryd.func38 (by kernel_rfl) rfl #[.agg #[.int .i64 a0_0, .int .i64 a0_1], .agg #[.int .i64 a2_0, .int .i64 a2_1]] rfl ?_; (with_reducible refine (num_Cmp.calls kj37 a0_0 a0_1 a2_0 a2_1 t547 t548 _ A58.out).mono ?_); rintro e w68 ⟨rfl, hb⟩; refine ⟨_, rfl, ?_⟩; have n0_ := Fa.mk (blk_below (g := gb534) (o := .cells #[.int .i64 a0_0, .int .i64 a0_1] 23 (0, 0)) fa hb); have n1_ := Fa.mk (blk_below (g := gb535) (o := .cells #[.int .i64 a1_0, .int .i64 a1_1] 23 (0, 0)) fa hb); have n2_ := Fa.mk (blk_below (g := gb536) (o := .cells #[.int .i64 a2_0, .int .i64 a2_1] 23 (0, 0)) fa hb); have n3_ := Fa.mk (bst w hb); clear BK534; clear BK535; clear BK536; clear HB; have BK534 := n0_; have BK535 := n1_; have BK536 := n2_; have HB := n3_; clear n0_ n1_ n2_ n3_; (try clear hb); (try clear hb2); (try clear hk); (try clear hi)))
              (try simp only [Act.put, List.setIfInBounds_toArray, List.set_cons_zero, List.set_cons_succ])
              go_cut [97] (fun v97 wc => ∃ (kq : Nat) (x97_58 : Bool), v97 = .bool x97_58 ∧ Fa (fleuronlaw01_NumOrder.j2 kq t541 x97_58 a0_0 a0_1 a1_0 a1_1 a2_0 a2_1 = some r) ∧ Fa (kq ≤ kj37) ∧ Fa (wc.heap[gb534]? = some (.cells #[.int .i64 a0_0, .int .i64 a0_1] 23 (0, 0))) ∧ Fa (wc.heap[gb535]? = some (.cells #[.int .i64 a1_0, .int .i64 a1_1] 23 (0, 0))) ∧ Fa (wc.heap[gb536]? = some (.cells #[.int .i64 a2_0, .int .i64 a2_1] 23 (0, 0))) ∧ Fa (Below w.heap.size w wc))
              case first =>
                as_aux_lemma =>
                have H := HC59.out
                clear HC59
                by_cases c69 : t541 ≤ 0
                · rw [if_pos c69] at H
                  have c69b0 : decide (t541 ≤ 0) = true := decide_eq_true c69
                  clear c69
                  (first | rw [c69b0] | (simp only [i64_w, i32_w]; rw [c69b0]) | skip)
                  by_cases c70 : t545 ≤ 0
                  · rw [if_pos c70] at H
                    have c70b0 : decide (t545 ≤ 0) = true := decide_eq_true c70
                    clear c70
                    have H' := Fa.mk H
                    clear H
                    go_wp2
                    go_meet
                    case rel => exact ⟨_, (decide (t547 > 0)), (by first | rfl | (simp; done) | (simp [*]; done)), H', ⟨by have := HJ3.out; have := HJ37.out; first | omega | exact Nat.le_refl _⟩, ⟨by (with_reducible repeat (first | refine blk_drewN ?_ _ | refine blk_drew ?_ | refine blk_alloc ?_ _)); exact BK534.out⟩, ⟨by (with_reducible repeat (first | refine blk_drewN ?_ _ | refine blk_drew ?_ | refine blk_alloc ?_ _)); exact BK535.out⟩, ⟨by (with_reducible repeat (first | refine blk_drewN ?_ _ | refine blk_drew ?_ | refine blk_alloc ?_ _)); exact BK536.out⟩, ⟨fa⟩⟩
                  · rw [if_neg c70] at H
                    have c70b0 : decide (t545 ≤ 0) = false := decide_eq_false c70
                    clear c70
                    have H' := Fa.mk H
                    clear H
                    go_wp2
                    go_meet
                    case rel => exact ⟨_, (false), (by first | rfl | (simp; done) | (simp [*]; done)), H', ⟨by have := HJ3.out; have := HJ37.out; first | omega | exact Nat.le_refl _⟩, ⟨by (with_reducible repeat (first | refine blk_drewN ?_ _ | refine blk_drew ?_ | refine blk_alloc ?_ _)); exact BK534.out⟩, ⟨by (with_reducible repeat (first | refine blk_drewN ?_ _ | refine blk_drew ?_ | refine blk_alloc ?_ _)); exact BK535.out⟩, ⟨by (with_reducible repeat (first | refine blk_drewN ?_ _ | refine blk_drew ?_ | refine blk_alloc ?_ _)); exact BK536.out⟩, ⟨fa⟩⟩
                · rw [if_neg c69] at H
                  have c69b0 : decide (t541 ≤ 0) = false := decide_eq_false c69
                  clear c69
                  (first | rw [c69b0] | (simp only [i64_w, i32_w]; rw [c69b0]) | skip)
                  have H' := Fa.mk H
                  clear H
                  go_wp2
                  go_meet
                  case rel => exact ⟨_, (false), (by first | rfl | (simp; done) | (simp [*]; done)), H', ⟨by have := HJ3.out; have := HJ37.out; first | omega | exact Nat.le_refl _⟩, ⟨by (with_reducible repeat (first | refine blk_drewN ?_ _ | refine blk_drew ?_ | refine blk_alloc ?_ _)); exact BK534.out⟩, ⟨by (with_reducible repeat (first | refine blk_drewN ?_ _ | refine blk_drew ?_ | refine blk_alloc ?_ _)); exact BK535.out⟩, ⟨by (with_reducible repeat (first | refine blk_drewN ?_ _ | refine blk_drew ?_ | refine blk_alloc ?_ _)); exact BK536.out⟩, ⟨fa⟩⟩
              case rest =>
                as_aux_lemma =>
                clear HC59
                try clear c1
                try clear c2
                try clear p2
                try clear c3
                try clear c4
                try clear c5
                try clear c6
                try clear p6
                try clear c7
                try clear c9
                try clear c11
                try clear c13
                try clear c14
                try clear c16
                try clear c17
                try clear c22
                try clear c23
                try clear c26
                try clear c29
                try clear c30
                try clear c33
                try clear c38
                try clear c39
                try clear c40
                try clear c42
                try clear c48
                try clear c48b0
                try clear c48b1
                try clear c49
                try clear c49b0
                try clear c49b1
                try clear c50
                try clear c50b0
                try clear c50b1
                try clear c51
                try clear c52
                try clear c54
                try clear c56
                try clear c60
                try clear c61
                try clear c63
                try clear p64
                try clear c69
                try clear c69b0
                try clear c70
                try clear c70b0
                try clear hcz15_0
                try clear hcz15_1
                try clear hcz18_0
                try clear hcz18_1
                try clear hcz20_0
                try clear hcz20_1
                try clear hcz24_0
                try clear hcz24_1
                try clear hcz27_0
                try clear hcz27_1
                try clear hcz31_0
                try clear hcz31_1
                try clear hcz41_0
                try clear hcz41_1
                try clear hcz43_0
                try clear hcz43_1
                try clear hcz45_0
                try clear hcz45_1
                try clear hcz46_0
                try clear hcz46_1
                try clear hcz53_0
                try clear hcz53_1
                try clear hcz55_0
                try clear hcz55_1
                try clear hcz62_0
                try clear hcz62_1
                try clear hcz64_0
                try clear hcz64_1
                try clear hcz66_0
                try clear hcz66_1
                try clear hcz67_0
                try clear hcz67_1
                try clear hfz15_0
                try clear hfz15_1
                try clear hfz18_0
                try clear hfz18_1
                try clear hfz20_0
                try clear hfz20_1
                try clear hfz24_0
                try clear hfz24_1
                try clear hfz27_0
                try clear hfz27_1
                try clear hfz31_0
                try clear hfz31_1
                try clear hfz41_0
                try clear hfz41_1
                try clear hfz43_0
                try clear hfz43_1
                try clear hfz45_0
                try clear hfz45_1
                try clear hfz46_0
                try clear hfz46_1
                try clear hfz53_0
                try clear hfz53_1
                try clear hfz55_0
                try clear hfz55_1
                try clear hfz62_0
                try clear hfz62_1
                try clear hfz64_0
                try clear hfz64_1
                try clear hfz66_0
                try clear hfz66_1
                try clear hfz67_0
                try clear hfz67_1
                try clear p2
                try clear p6
                obtain ⟨kq, x97_58, rfl, HA, HJ58, BK534, BK535, BK536, HB⟩ := hcut
                cases kq with
                | zero => exact absurd HA.out (by simp [fleuronlaw01_NumOrder.j2])
                | succ kj58 =>
                  have H := HA.out
                  clear HA
                  simp only [fleuronlaw01_NumOrder.j2] at H
                  by_cases c71 : x97_58 = true
                  · subst c71
                    have H1 : (none) = some r := by rw [if_pos rfl] at H; exact H
                    clear H
                    have H := H1
                    clear H1
                    exact absurd H (by simp)
                  · replace c71 := Bool.eq_false_iff.mpr c71
                    subst c71
                    have H1 : ((fleuronlaw01_sum.f kj58 a0_0 a0_1 a2_0 a2_1).bind fun bt549 => ((fleuronlaw01_sum.f kj58 a1_0 a1_1 a2_0 a2_1).bind fun bt553 => (if bt549.2.2 = true then (fleuronlaw01_NumOrder.j3 kj58 t541 bt553.2.2 a0_0 a0_1 a1_0 a1_1 bt549.1 bt549.2.1 bt553.1 bt553.2.1) else (fleuronlaw01_NumOrder.j3 kj58 t541 false a0_0 a0_1 a1_0 a1_1 bt549.1 bt549.2.1 bt553.1 bt553.2.1)))) = some r := by rw [if_neg (show ¬ (false = true) by decide)] at H; exact H
                    clear H
                    have H := H1
                    clear H1
                    replace H := Option.bind_eq_some_iff.mp H
                    obtain ⟨⟨t549, t550, t551⟩, A720, H⟩ := H
                    replace H : ((fleuronlaw01_sum.f kj58 a1_0 a1_1 a2_0 a2_1).bind fun bt553 => (if t551 = true then (fleuronlaw01_NumOrder.j3 kj58 t541 bt553.2.2 a0_0 a0_1 a1_0 a1_1 t549 t550 bt553.1 bt553.2.1) else (fleuronlaw01_NumOrder.j3 kj58 t541 false a0_0 a0_1 a1_0 a1_1 t549 t550 bt553.1 bt553.2.1))) = some r := H
                    have A72 := Fa.mk A720
                    clear A720
                    replace H := Option.bind_eq_some_iff.mp H
                    obtain ⟨⟨t553, t554, t555⟩, A730, H⟩ := H
                    replace H : (if t551 = true then (fleuronlaw01_NumOrder.j3 kj58 t541 t555 a0_0 a0_1 a1_0 a1_1 t549 t550 t553 t554) else (fleuronlaw01_NumOrder.j3 kj58 t541 false a0_0 a0_1 a1_0 a1_1 t549 t550 t553 t554)) = some r := H
                    have A73 := Fa.mk A730
                    clear A730
                    have HC74 := Fa.mk H
                    clear H
                    have hnb75 := NB534_535.out
                    have hnc75 := NB535_534.out
                    have hnb76 := NB534_536.out
                    have hnc76 := NB536_534.out
                    have hcz77_0 : wc.cell? ⟨gb534, 0, none⟩ = some (.int .i64 a0_0) := (blk_cell BK534.out 0).trans rfl
                    have hcz77_1 : wc.cell? ⟨gb534, 1, none⟩ = some (.int .i64 a0_1) := (blk_cell BK534.out 1).trans rfl
                    have hfz77_0 := blk_frozen BK534.out 0
                    have hfz77_1 := blk_frozen BK534.out 1
                    have hnb78 := NB536_535.out
                    have hnc78 := NB535_536.out
                    have hcz79_0 : wc.cell? ⟨gb536, 0, none⟩ = some (.int .i64 a2_0) := (blk_cell BK536.out 0).trans rfl
                    have hcz79_1 : wc.cell? ⟨gb536, 1, none⟩ = some (.int .i64 a2_1) := (blk_cell BK536.out 1).trans rfl
                    have hfz79_0 := blk_frozen BK536.out 0
                    have hfz79_1 := blk_frozen BK536.out 1
                    go_upto_region 13 with (first | ((with_reducible refine gate_callee (f := 30) rfl ?_); refine goesA (some 101) rfl rfl Tryd.func30 (by kernel_rfl) rfl #[.agg #[.int .i64 a0_0, .int .i64 a0_1], .agg #[.int .i64 a2_0, .int .i64 a2_1]] rfl ?_; (with_reducible refine (fleuronlaw01_sum.calls kj58 a0_0 a0_1 a2_0 a2_1 t549 t550 t551 _ A72.out).mono ?_); rintro e w80 ⟨rfl, hb⟩; refine ⟨_, rfl, ?_⟩; have n0_ := Fa.mk (blk_below (g := gb534) (o := .cells #[.int .i64 a0_0, .int .i64 a0_1] 23 (0, 0)) fa hb); have n1_ := Fa.mk (blk_below (g := gb535) (o := .cells #[.int .i64 a1_0, .int .i64 a1_1] 23 (0, 0)) fa hb); have n2_ := Fa.mk (blk_below (g := gb536) (o := .cells #[.int .i64 a2_0, .int .i64 a2_1] 23 (0, 0)) fa hb); have n3_ := Fa.mk (bst w hb); clear BK534; clear BK535; clear BK536; clear HB; have BK534 := n0_; have BK535 := n1_; have BK536 := n2_; have HB := n3_; clear n0_ n1_ n2_ n3_; (try clear hb); (try clear hb2); (try clear hk); (try clear hi)) | ((with_reducible refine gate_dst (N := 15) rfl ?_); refine boxF (N := 15) (cs := #[.int .i64 0, .int .i64 0]) (t := 23) ?_; intro gb552 hg w81 hbox hb; have n0_ := Fa.mk (blk_below (g := gb534) (o := .cells #[.int .i64 a0_0, .int .i64 a0_1] 23 (0, 0)) fa hb); have n1_ := Fa.mk (blk_below (g := gb535) (o := .cells #[.int .i64 a1_0, .int .i64 a1_1] 23 (0, 0)) fa hb); have n2_ := Fa.mk (blk_below (g := gb536) (o := .cells #[.int .i64 a2_0, .int .i64 a2_1] 23 (0, 0)) fa hb); have n3_ := Fa.mk (bst w hb); have n4_ := Fa.mk (hbox); have n5_ := Fa.mk (gle hg : w.heap.size ≤ gb552); have n6_ := n5_; have n7_ := Fa.mk (gne (o := .cells #[.int .i64 a0_0, .int .i64 a0_1] 23 (0, 0)) hg : gb534 ≠ gb552); have n8_ := Fa.mk n7_.out.symm; have n9_ := Fa.mk (gne (o := .cells #[.int .i64 a1_0, .int .i64 a1_1] 23 (0, 0)) hg : gb535 ≠ gb552); have n10_ := Fa.mk n9_.out.symm; have n11_ := Fa.mk (gne (o := .cells #[.int .i64 a2_0, .int .i64 a2_1] 23 (0, 0)) hg : gb536 ≠ gb552); have n12_ := Fa.mk n11_.out.symm; clear BK534; clear BK535; clear BK536; clear HB; have BK534 := n0_; have BK535 := n1_; have BK536 := n2_; have HB := n3_; have BK552 := n4_; have GW552 := n5_; have GE552 := n6_; have NB534_552 := n7_; have NB552_534 := n8_; have NB535_552 := n9_; have NB552_535 := n10_; have NB536_552 := n11_; have NB552_536 := n12_; clear n0_ n1_ n2_ n3_ n4_ n5_ n6_ n7_ n8_ n9_ n10_ n11_ n12_; clear hb hbox hg; have hnb82 := NB552_534.out; have hnc82 := NB534_552.out; have hnb83 := NB552_535.out; have hnc83 := NB535_552.out; have hnb84 := NB552_536.out; have hnc84 := NB536_552.out; have hcz85_0 : w81.cell? ⟨gb552, 0, none⟩ = some (.int .i64 0) := (blk_cell BK552.out 0).trans rfl; have hcz85_1 : w81.cell? ⟨gb552, 1, none⟩ = some (.int .i64 0) := (blk_cell BK552.out 1).trans rfl; have hfz85_0 := blk_frozen BK552.out 0; have hfz85_1 := blk_frozen BK552.out 1; have hcz86_0 : w81.cell? ⟨gb535, 0, none⟩ = some (.int .i64 a1_0) := (blk_cell BK535.out 0).trans rfl; have hcz86_1 : w81.cell? ⟨gb535, 1, none⟩ = some (.int .i64 a1_1) := (blk_cell BK535.out 1).trans rfl; have hfz86_0 := blk_frozen BK535.out 0; have hfz86_1 := blk_frozen BK535.out 1; have hcz87_0 : w81.cell? ⟨gb536, 0, none⟩ = some (.int .i64 a2_0) := (blk_cell BK536.out 0).trans rfl; have hcz87_1 : w81.cell? ⟨gb536, 1, none⟩ = some (.int .i64 a2_1) := (blk_cell BK536.out 1).trans rfl; have hfz87_0 := blk_frozen BK536.out 0; have hfz87_1 := blk_frozen BK536.out 1) | ((with_reducible refine gate_callee (f := 30) rfl ?_); refine goesA (some 107) rfl rfl Tryd.func30 (by kernel_rfl) rfl #[.agg #[.int .i64 a1_0, .int .i64 a1_1], .agg #[.int .i64 a2_0, .int .i64 a2_1]] rfl ?_; (with_reducible refine (fleuronlaw01_sum.calls kj58 a1_0 a1_1 a2_0 a2_1 t553 t554 t555 _ A73.out).mono ?_); rintro e w88 ⟨rfl, hb⟩; refine ⟨_, rfl, ?_⟩; have n0_ := Fa.mk (blk_below (g := gb534) (o := .cells #[.int .i64 a0_0, .int .i64 a0_1] 23 (0, 0)) (by (with_reducible repeat (first | refine blk_drewN ?_ _ | refine blk_drew ?_ | refine blk_alloc ?_ _)); refine blk_far ?_ NB534_552.out _; (with_reducible repeat (first | refine blk_drewN ?_ _ | refine blk_drew ?_ | refine blk_alloc ?_ _)); refine blk_far ?_ NB534_552.out _; (with_reducible repeat (first | refine blk_drewN ?_ _ | refine blk_drew ?_ | refine blk_alloc ?_ _)); exact BK534.out) hb); have n1_ := Fa.mk (blk_below (g := gb535) (o := .cells #[.int .i64 a1_0, .int .i64 a1_1] 23 (0, 0)) (by (with_reducible repeat (first | refine blk_drewN ?_ _ | refine blk_drew ?_ | refine blk_alloc ?_ _)); refine blk_far ?_ NB535_552.out _; (with_reducible repeat (first | refine blk_drewN ?_ _ | refine blk_drew ?_ | refine blk_alloc ?_ _)); refine blk_far ?_ NB535_552.out _; (with_reducible repeat (first | refine blk_drewN ?_ _ | refine blk_drew ?_ | refine blk_alloc ?_ _)); exact BK535.out) hb); have n2_ := Fa.mk (blk_below (g := gb536) (o := .cells #[.int .i64 a2_0, .int .i64 a2_1] 23 (0, 0)) (by (with_reducible repeat (first | refine blk_drewN ?_ _ | refine blk_drew ?_ | refine blk_alloc ?_ _)); refine blk_far ?_ NB536_552.out _; (with_reducible repeat (first | refine blk_drewN ?_ _ | refine blk_drew ?_ | refine blk_alloc ?_ _)); refine blk_far ?_ NB536_552.out _; (with_reducible repeat (first | refine blk_drewN ?_ _ | refine blk_drew ?_ | refine blk_alloc ?_ _)); exact BK536.out) hb); have n3_ := Fa.mk (blk_below (g := gb552) (o := .cells #[.int .i64 t549, .int .i64 t550] 23 (0, 0)) (by (with_reducible repeat (first | refine blk_drewN ?_ _ | refine blk_drew ?_ | refine blk_alloc ?_ _)); refine blk_put (cs := #[.int .i64 t549, .int .i64 0]) ?_ 1 _ rfl; (with_reducible repeat (first | refine blk_drewN ?_ _ | refine blk_drew ?_ | refine blk_alloc ?_ _)); refine blk_put (cs := #[.int .i64 0, .int .i64 0]) ?_ 0 _ rfl; (with_reducible repeat (first | refine blk_drewN ?_ _ | refine blk_drew ?_ | refine blk_alloc ?_ _)); exact BK552.out) hb); have n4_ := Fa.mk (bst w hb); clear BK534; clear BK535; clear BK536; clear BK552; clear HB; have BK534 := n0_; have BK535 := n1_; have BK536 := n2_; have BK552 := n3_; have HB := n4_; clear n0_ n1_ n2_ n3_ n4_; (try clear hb); (try clear hb2); (try clear hk); (try clear hi)) | ((with_reducible refine gate_dst (N := 17) rfl ?_); refine boxF (N := 17) (cs := #[.int .i64 0, .int .i64 0]) (t := 23) ?_; intro gb556 hg w89 hbox hb; have n0_ := Fa.mk (blk_below (g := gb534) (o := .cells #[.int .i64 a0_0, .int .i64 a0_1] 23 (0, 0)) fa hb); have n1_ := Fa.mk (blk_below (g := gb535) (o := .cells #[.int .i64 a1_0, .int .i64 a1_1] 23 (0, 0)) fa hb); have n2_ := Fa.mk (blk_below (g := gb536) (o := .cells #[.int .i64 a2_0, .int .i64 a2_1] 23 (0, 0)) fa hb); have n3_ := Fa.mk (blk_below (g := gb552) (o := .cells #[.int .i64 t549, .int .i64 t550] 23 (0, 0)) fa hb); have n4_ := Fa.mk (bst w hb); have n5_ := Fa.mk (hbox); have n6_ := Fa.mk (gle hg : w.heap.size ≤ gb556); have n7_ := n6_; have n8_ := Fa.mk (gne (o := .cells #[.int .i64 a0_0, .int .i64 a0_1] 23 (0, 0)) hg : gb534 ≠ gb556); have n9_ := Fa.mk n8_.out.symm; have n10_ := Fa.mk (gne (o := .cells #[.int .i64 a1_0, .int .i64 a1_1] 23 (0, 0)) hg : gb535 ≠ gb556); have n11_ := Fa.mk n10_.out.symm; have n12_ := Fa.mk (gne (o := .cells #[.int .i64 a2_0, .int .i64 a2_1] 23 (0, 0)) hg : gb536 ≠ gb556); have n13_ := Fa.mk n12_.out.symm; have n14_ := Fa.mk (gne (o := .cells #[.int .i64 t549, .int .i64 t550] 23 (0, 0)) hg : gb552 ≠ gb556); have n15_ := Fa.mk n14_.out.symm; clear BK534; clear BK535; clear BK536; clear BK552; clear HB; have BK534 := n0_; have BK535 := n1_; have BK536 := n2_; have BK552 := n3_; have HB := n4_; have BK556 := n5_; have GW556 := n6_; have GE556 := n7_; have NB534_556 := n8_; have NB556_534 := n9_; have NB535_556 := n10_; have NB556_535 := n11_; have NB536_556 := n12_; have NB556_536 := n13_; have NB552_556 := n14_; have NB556_552 := n15_; clear n0_ n1_ n2_ n3_ n4_ n5_ n6_ n7_ n8_ n9_ n10_ n11_ n12_ n13_ n14_ n15_; clear hb hbox hg; have hnb90 := NB556_534.out; have hnc90 := NB534_556.out; have hnb91 := NB556_535.out; have hnc91 := NB535_556.out; have hnb92 := NB556_536.out; have hnc92 := NB536_556.out; have hnb93 := NB556_552.out; have hnc93 := NB552_556.out; have hcz94_0 : w89.cell? ⟨gb556, 0, none⟩ = some (.int .i64 0) := (blk_cell BK556.out 0).trans rfl; have hcz94_1 : w89.cell? ⟨gb556, 1, none⟩ = some (.int .i64 0) := (blk_cell BK556.out 1).trans rfl; have hfz94_0 := blk_frozen BK556.out 0; have hfz94_1 := blk_frozen BK556.out 1))
                    (try simp only [Act.put, List.setIfInBounds_toArray, List.set_cons_zero, List.set_cons_succ])
                    go_cut [113] (fun v113 wc => ∃ (kq : Nat) (x113_73 : Bool), v113 = .bool x113_73 ∧ Fa (fleuronlaw01_NumOrder.j3 kq t541 x113_73 a0_0 a0_1 a1_0 a1_1 t549 t550 t553 t554 = some r) ∧ Fa (kq ≤ kj58) ∧ Fa (wc.heap[gb534]? = some (.cells #[.int .i64 a0_0, .int .i64 a0_1] 23 (0, 0))) ∧ Fa (wc.heap[gb535]? = some (.cells #[.int .i64 a1_0, .int .i64 a1_1] 23 (0, 0))) ∧ Fa (wc.heap[gb536]? = some (.cells #[.int .i64 a2_0, .int .i64 a2_1] 23 (0, 0))) ∧ Fa (wc.heap[gb552]? = some (.cells #[.int .i64 t549, .int .i64 t550] 23 (0, 0))) ∧ Fa (wc.heap[gb556]? = some (.cells #[.int .i64 t553, .int .i64 t554] 23 (0, 0))) ∧ Fa (Below w.heap.size w wc))
                    case first =>
                      as_aux_lemma =>
                      have H := HC74.out
                      clear HC74
                      by_cases c95 : t551 = true
                      · subst c95
                        have H1 : (fleuronlaw01_NumOrder.j3 kj58 t541 t555 a0_0 a0_1 a1_0 a1_1 t549 t550 t553 t554) = some r := by rw [if_pos rfl] at H; exact H
                        clear H
                        have H := H1
                        clear H1
                        have H' := Fa.mk H
                        clear H
                        go_wp2
                        go_meet
                        case rel => exact ⟨_, (t555), (by first | rfl | (simp; done) | (simp [*]; done)), H', ⟨by have := HJ3.out; have := HJ37.out; have := HJ58.out; first | omega | exact Nat.le_refl _⟩, ⟨by (with_reducible repeat (first | refine blk_drewN ?_ _ | refine blk_drew ?_ | refine blk_alloc ?_ _)); refine blk_far ?_ NB534_556.out _; (with_reducible repeat (first | refine blk_drewN ?_ _ | refine blk_drew ?_ | refine blk_alloc ?_ _)); refine blk_far ?_ NB534_556.out _; (with_reducible repeat (first | refine blk_drewN ?_ _ | refine blk_drew ?_ | refine blk_alloc ?_ _)); exact BK534.out⟩, ⟨by (with_reducible repeat (first | refine blk_drewN ?_ _ | refine blk_drew ?_ | refine blk_alloc ?_ _)); refine blk_far ?_ NB535_556.out _; (with_reducible repeat (first | refine blk_drewN ?_ _ | refine blk_drew ?_ | refine blk_alloc ?_ _)); refine blk_far ?_ NB535_556.out _; (with_reducible repeat (first | refine blk_drewN ?_ _ | refine blk_drew ?_ | refine blk_alloc ?_ _)); exact BK535.out⟩, ⟨by (with_reducible repeat (first | refine blk_drewN ?_ _ | refine blk_drew ?_ | refine blk_alloc ?_ _)); refine blk_far ?_ NB536_556.out _; (with_reducible repeat (first | refine blk_drewN ?_ _ | refine blk_drew ?_ | refine blk_alloc ?_ _)); refine blk_far ?_ NB536_556.out _; (with_reducible repeat (first | refine blk_drewN ?_ _ | refine blk_drew ?_ | refine blk_alloc ?_ _)); exact BK536.out⟩, ⟨by (with_reducible repeat (first | refine blk_drewN ?_ _ | refine blk_drew ?_ | refine blk_alloc ?_ _)); refine blk_far ?_ NB552_556.out _; (with_reducible repeat (first | refine blk_drewN ?_ _ | refine blk_drew ?_ | refine blk_alloc ?_ _)); refine blk_far ?_ NB552_556.out _; (with_reducible repeat (first | refine blk_drewN ?_ _ | refine blk_drew ?_ | refine blk_alloc ?_ _)); exact BK552.out⟩, ⟨by (with_reducible repeat (first | refine blk_drewN ?_ _ | refine blk_drew ?_ | refine blk_alloc ?_ _)); refine blk_put (cs := #[.int .i64 t553, .int .i64 0]) ?_ 1 _ rfl; (with_reducible repeat (first | refine blk_drewN ?_ _ | refine blk_drew ?_ | refine blk_alloc ?_ _)); refine blk_put (cs := #[.int .i64 0, .int .i64 0]) ?_ 0 _ rfl; (with_reducible repeat (first | refine blk_drewN ?_ _ | refine blk_drew ?_ | refine blk_alloc ?_ _)); exact BK556.out⟩, ⟨fa⟩⟩
                      · replace c95 := Bool.eq_false_iff.mpr c95
                        subst c95
                        have H1 : (fleuronlaw01_NumOrder.j3 kj58 t541 false a0_0 a0_1 a1_0 a1_1 t549 t550 t553 t554) = some r := by rw [if_neg (show ¬ (false = true) by decide)] at H; exact H
                        clear H
                        have H := H1
                        clear H1
                        have H' := Fa.mk H
                        clear H
                        go_wp2
                        go_meet
                        case rel => exact ⟨_, (false), (by first | rfl | (simp; done) | (simp [*]; done)), H', ⟨by have := HJ3.out; have := HJ37.out; have := HJ58.out; first | omega | exact Nat.le_refl _⟩, ⟨by (with_reducible repeat (first | refine blk_drewN ?_ _ | refine blk_drew ?_ | refine blk_alloc ?_ _)); refine blk_far ?_ NB534_556.out _; (with_reducible repeat (first | refine blk_drewN ?_ _ | refine blk_drew ?_ | refine blk_alloc ?_ _)); refine blk_far ?_ NB534_556.out _; (with_reducible repeat (first | refine blk_drewN ?_ _ | refine blk_drew ?_ | refine blk_alloc ?_ _)); exact BK534.out⟩, ⟨by (with_reducible repeat (first | refine blk_drewN ?_ _ | refine blk_drew ?_ | refine blk_alloc ?_ _)); refine blk_far ?_ NB535_556.out _; (with_reducible repeat (first | refine blk_drewN ?_ _ | refine blk_drew ?_ | refine blk_alloc ?_ _)); refine blk_far ?_ NB535_556.out _; (with_reducible repeat (first | refine blk_drewN ?_ _ | refine blk_drew ?_ | refine blk_alloc ?_ _)); exact BK535.out⟩, ⟨by (with_reducible repeat (first | refine blk_drewN ?_ _ | refine blk_drew ?_ | refine blk_alloc ?_ _)); refine blk_far ?_ NB536_556.out _; (with_reducible repeat (first | refine blk_drewN ?_ _ | refine blk_drew ?_ | refine blk_alloc ?_ _)); refine blk_far ?_ NB536_556.out _; (with_reducible repeat (first | refine blk_drewN ?_ _ | refine blk_drew ?_ | refine blk_alloc ?_ _)); exact BK536.out⟩, ⟨by (with_reducible repeat (first | refine blk_drewN ?_ _ | refine blk_drew ?_ | refine blk_alloc ?_ _)); refine blk_far ?_ NB552_556.out _; (with_reducible repeat (first | refine blk_drewN ?_ _ | refine blk_drew ?_ | refine blk_alloc ?_ _)); refine blk_far ?_ NB552_556.out _; (with_reducible repeat (first | refine blk_drewN ?_ _ | refine blk_drew ?_ | refine blk_alloc ?_ _)); exact BK552.out⟩, ⟨by (with_reducible repeat (first | refine blk_drewN ?_ _ | refine blk_drew ?_ | refine blk_alloc ?_ _)); refine blk_put (cs := #[.int .i64 t553, .int .i64 0]) ?_ 1 _ rfl; (with_reducible repeat (first | refine blk_drewN ?_ _ | refine blk_drew ?_ | refine blk_alloc ?_ _)); refine blk_put (cs := #[.int .i64 0, .int .i64 0]) ?_ 0 _ rfl; (with_reducible repeat (first | refine blk_drewN ?_ _ | refine blk_drew ?_ | refine blk_alloc ?_ _)); exact BK556.out⟩, ⟨fa⟩⟩
                    case rest =>
                      as_aux_lemma =>
                      clear HC74
                      try clear c1
                      try clear c2
                      try clear p2
                      try clear c3
                      try clear c4
                      try clear c5
                      try clear c6
                      try clear p6
                      try clear c7
                      try clear c8
                      try clear c9
                      try clear c11
                      try clear c13
                      try clear c14
                      try clear c16
                      try clear c17
                      try clear c22
                      try clear c23
                      try clear c26
                      try clear c29
                      try clear c30
                      try clear c33
                      try clear c38
                      try clear c39
                      try clear c40
                      try clear c42
                      try clear c48
                      try clear c48b0
                      try clear c48b1
                      try clear c49
                      try clear c49b0
                      try clear c49b1
                      try clear c50
                      try clear c50b0
                      try clear c50b1
                      try clear c51
                      try clear c52
                      try clear c54
                      try clear c56
                      try clear c60
                      try clear c61
                      try clear c63
                      try clear p64
                      try clear c69
                      try clear c69b0
                      try clear c70
                      try clear c70b0
                      try clear c71
                      try clear c75
                      try clear c76
                      try clear c78
                      try clear c82
                      try clear c83
                      try clear c84
                      try clear c90
                      try clear c91
                      try clear c92
                      try clear c93
                      try clear c95
                      try clear hcz15_0
                      try clear hcz15_1
                      try clear hcz18_0
                      try clear hcz18_1
                      try clear hcz20_0
                      try clear hcz20_1
                      try clear hcz24_0
                      try clear hcz24_1
                      try clear hcz27_0
                      try clear hcz27_1
                      try clear hcz31_0
                      try clear hcz31_1
                      try clear hcz41_0
                      try clear hcz41_1
                      try clear hcz43_0
                      try clear hcz43_1
                      try clear hcz45_0
                      try clear hcz45_1
                      try clear hcz46_0
                      try clear hcz46_1
                      try clear hcz53_0
                      try clear hcz53_1
                      try clear hcz55_0
                      try clear hcz55_1
                      try clear hcz62_0
                      try clear hcz62_1
                      try clear hcz64_0
                      try clear hcz64_1
                      try clear hcz66_0
                      try clear hcz66_1
                      try clear hcz67_0
                      try clear hcz67_1
                      try clear hcz77_0
                      try clear hcz77_1
                      try clear hcz79_0
                      try clear hcz79_1
                      try clear hcz85_0
                      try clear hcz85_1
                      try clear hcz86_0
                      try clear hcz86_1
                      try clear hcz87_0
                      try clear hcz87_1
                      try clear hcz94_0
                      try clear hcz94_1
                      try clear hfz15_0
                      try clear hfz15_1
                      try clear hfz18_0
                      try clear hfz18_1
                      try clear hfz20_0
                      try clear hfz20_1
                      try clear hfz24_0
                      try clear hfz24_1
                      try clear hfz27_0
                      try clear hfz27_1
                      try clear hfz31_0
                      try clear hfz31_1
                      try clear hfz41_0
                      try clear hfz41_1
                      try clear hfz43_0
                      try clear hfz43_1
                      try clear hfz45_0
                      try clear hfz45_1
                      try clear hfz46_0
                      try clear hfz46_1
                      try clear hfz53_0
                      try clear hfz53_1
                      try clear hfz55_0
                      try clear hfz55_1
                      try clear hfz62_0
                      try clear hfz62_1
                      try clear hfz64_0
                      try clear hfz64_1
                      try clear hfz66_0
                      try clear hfz66_1
                      try clear hfz67_0
                      try clear hfz67_1
                      try clear hfz77_0
                      try clear hfz77_1
                      try clear hfz79_0
                      try clear hfz79_1
                      try clear hfz85_0
                      try clear hfz85_1
                      try clear hfz86_0
                      try clear hfz86_1
                      try clear hfz87_0
                      try clear hfz87_1
                      try clear hfz94_0
                      try clear hfz94_1
                      try clear p2
                      try clear p6
                      try clear p64
                      obtain ⟨kq, x113_73, rfl, HA, HJ73, BK534, BK535, BK536, BK552, BK556, HB⟩ := hcut
                      cases kq with
                      | zero => exact absurd HA.out (by simp [fleuronlaw01_NumOrder.j3])
                      | succ kj73 =>
                        have H := HA.out
                        clear HA
                        simp only [fleuronlaw01_NumOrder.j3] at H
                        have HC96 := Fa.mk H
                        clear H
                        go_upto_if 113 with (fail)
                        go_cut [] (fun wc => ∃ (kq : Nat), Fa (fleuronlaw01_NumOrder.j4 kq a0_0 a0_1 a1_0 a1_1 = some r) ∧ Fa (kq ≤ kj73) ∧ Fa (wc.heap[gb534]? = some (.cells #[.int .i64 a0_0, .int .i64 a0_1] 23 (0, 0))) ∧ Fa (wc.heap[gb535]? = some (.cells #[.int .i64 a1_0, .int .i64 a1_1] 23 (0, 0))) ∧ Fa (wc.heap[gb536]? = some (.cells #[.int .i64 a2_0, .int .i64 a2_1] 23 (0, 0))) ∧ Fa (wc.heap[gb552]? = some (.cells #[.int .i64 t549, .int .i64 t550] 23 (0, 0))) ∧ Fa (wc.heap[gb556]? = some (.cells #[.int .i64 t553, .int .i64 t554] 23 (0, 0))) ∧ Fa (Below w.heap.size w wc))
                        case first =>
                          as_aux_lemma =>
                          have H := HC96.out
                          clear HC96
                          by_cases c97 : x113_73 = true
                          · subst c97
                            have H1 : ((num_Cmp.f kj73 t549 t550 t553 t554).bind fun bt557 => (if bt557.2 = 0 then (if bt557.1 = t541 then (fleuronlaw01_NumOrder.j4 kj73 a0_0 a0_1 a1_0 a1_1) else (none)) else (none))) = some r := by rw [if_pos rfl] at H; exact H
                            clear H
                            have H := H1
                            clear H1
                            replace H := Option.bind_eq_some_iff.mp H
                            obtain ⟨⟨t557, t558⟩, A980, H⟩ := H
                            replace H : (if t558 = 0 then (if t557 = t541 then (fleuronlaw01_NumOrder.j4 kj73 a0_0 a0_1 a1_0 a1_1) else (none)) else (none)) = some r := H
                            have A98 := Fa.mk A980
                            clear A980
                            by_cases c99 : t558 = 0
                            · rw [if_pos c99] at H
                              have c99b0 : (t558 == 0) = true := beq_iff_eq.mpr c99
                              have c99b1 : (t558 != 0) = false := bne_eq_false_iff_eq.mpr c99
                              clear c99
                              (first | rw [c99b0] | (simp only [i64_w, i32_w]; rw [c99b0]) | skip)
                              by_cases c100 : t557 = t541
                              · rw [if_pos c100] at H
                                have c100b0 : (t557 == t541) = true := beq_iff_eq.mpr c100
                                have c100b1 : (t557 != t541) = false := bne_eq_false_iff_eq.mpr c100
                                clear c100
                                have H' := Fa.mk H
                                clear H
                                have hnb101 := NB552_534.out
                                have hnc101 := NB534_552.out
                                have hnb102 := NB552_535.out
                                have hnc102 := NB535_552.out
                                have hnb103 := NB552_536.out
                                have hnc103 := NB536_552.out
                                have hnb104 := NB552_556.out
                                have hnc104 := NB556_552.out
                                have hcz105_0 : wc.cell? ⟨gb552, 0, none⟩ = some (.int .i64 t549) := (blk_cell BK552.out 0).trans rfl
                                have hcz105_1 : wc.cell? ⟨gb552, 1, none⟩ = some (.int .i64 t550) := (blk_cell BK552.out 1).trans rfl
                                have hfz105_0 := blk_frozen BK552.out 0
                                have hfz105_1 := blk_frozen BK552.out 1
                                have hnb106 := NB556_534.out
                                have hnc106 := NB534_556.out
                                have hnb107 := NB556_535.out
                                have hnc107 := NB535_556.out
                                have hnb108 := NB556_536.out
                                have hnc108 := NB536_556.out
                                have hcz109_0 : wc.cell? ⟨gb556, 0, none⟩ = some (.int .i64 t553) := (blk_cell BK556.out 0).trans rfl
                                have hcz109_1 : wc.cell? ⟨gb556, 1, none⟩ = some (.int .i64 t554) := (blk_cell BK556.out 1).trans rfl
                                have hfz109_0 := blk_frozen BK556.out 0
                                have hfz109_1 := blk_frozen BK556.out 1
                                go_wp2_with (first | ((with_reducible refine gate_callee (f := 38) rfl ?_); refine goesA (some 117) rfl rfl Tryd.func38 (by kernel_rfl) rfl #[.agg #[.int .i64 t549, .int .i64 t550], .agg #[.int .i64 t553, .int .i64 t554]] rfl ?_; (with_reducible refine (num_Cmp.calls kj73 t549 t550 t553 t554 t557 t558 _ A98.out).mono ?_); rintro e w110 ⟨rfl, hb⟩; refine ⟨_, rfl, ?_⟩; have n0_ := Fa.mk (blk_below (g := gb534) (o := .cells #[.int .i64 a0_0, .int .i64 a0_1] 23 (0, 0)) fa hb); have n1_ := Fa.mk (blk_below (g := gb535) (o := .cells #[.int .i64 a1_0, .int .i64 a1_1] 23 (0, 0)) fa hb); have n2_ := Fa.mk (blk_below (g := gb536) (o := .cells #[.int .i64 a2_0, .int .i64 a2_1] 23 (0, 0)) fa hb); have n3_ := Fa.mk (blk_below (g := gb552) (o := .cells #[.int .i64 t549, .int .i64 t550] 23 (0, 0)) fa hb); have n4_ := Fa.mk (blk_below (g := gb556) (o := .cells #[.int .i64 t553, .int .i64 t554] 23 (0, 0)) fa hb); have n5_ := Fa.mk (bst w hb); clear BK534; clear BK535; clear BK536; clear BK552; clear BK556; clear HB; have BK534 := n0_; have BK535 := n1_; have BK536 := n2_; have BK552 := n3_; have BK556 := n4_; have HB := n5_; clear n0_ n1_ n2_ n3_ n4_ n5_; (try clear hb); (try clear hb2); (try clear hk); (try clear hi)))
                                go_meet
                                case rel => exact ⟨_, H', ⟨by have := HJ3.out; have := HJ37.out; have := HJ58.out; have := HJ73.out; first | omega | exact Nat.le_refl _⟩, ⟨by (with_reducible repeat (first | refine blk_drewN ?_ _ | refine blk_drew ?_ | refine blk_alloc ?_ _)); exact BK534.out⟩, ⟨by (with_reducible repeat (first | refine blk_drewN ?_ _ | refine blk_drew ?_ | refine blk_alloc ?_ _)); exact BK535.out⟩, ⟨by (with_reducible repeat (first | refine blk_drewN ?_ _ | refine blk_drew ?_ | refine blk_alloc ?_ _)); exact BK536.out⟩, ⟨by (with_reducible repeat (first | refine blk_drewN ?_ _ | refine blk_drew ?_ | refine blk_alloc ?_ _)); exact BK552.out⟩, ⟨by (with_reducible repeat (first | refine blk_drewN ?_ _ | refine blk_drew ?_ | refine blk_alloc ?_ _)); exact BK556.out⟩, ⟨fa⟩⟩
                              · rw [if_neg c100] at H
                                exact absurd H (by simp)
                            · rw [if_neg c99] at H
                              exact absurd H (by simp)
                          · replace c97 := Bool.eq_false_iff.mpr c97
                            subst c97
                            have H1 : (fleuronlaw01_NumOrder.j4 kj73 a0_0 a0_1 a1_0 a1_1) = some r := by rw [if_neg (show ¬ (false = true) by decide)] at H; exact H
                            clear H
                            have H := H1
                            clear H1
                            have H' := Fa.mk H
                            clear H
                            go_wp2
                            go_meet
                            case rel => exact ⟨_, H', ⟨by have := HJ3.out; have := HJ37.out; have := HJ58.out; have := HJ73.out; first | omega | exact Nat.le_refl _⟩, ⟨by (with_reducible repeat (first | refine blk_drewN ?_ _ | refine blk_drew ?_ | refine blk_alloc ?_ _)); exact BK534.out⟩, ⟨by (with_reducible repeat (first | refine blk_drewN ?_ _ | refine blk_drew ?_ | refine blk_alloc ?_ _)); exact BK535.out⟩, ⟨by (with_reducible repeat (first | refine blk_drewN ?_ _ | refine blk_drew ?_ | refine blk_alloc ?_ _)); exact BK536.out⟩, ⟨by (with_reducible repeat (first | refine blk_drewN ?_ _ | refine blk_drew ?_ | refine blk_alloc ?_ _)); exact BK552.out⟩, ⟨by (with_reducible repeat (first | refine blk_drewN ?_ _ | refine blk_drew ?_ | refine blk_alloc ?_ _)); exact BK556.out⟩, ⟨fa⟩⟩
                        case rest =>
                          as_aux_lemma =>
                          clear HC96
                          try clear c1
                          try clear c2
                          try clear p2
                          try clear c3
                          try clear c4
                          try clear c5
                          try clear c6
                          try clear p6
                          try clear c7
                          try clear c8
                          try clear c9
                          try clear c10
                          try clear c11
                          try clear c13
                          try clear c14
                          try clear c16
                          try clear c17
                          try clear c22
                          try clear c23
                          try clear c26
                          try clear c29
                          try clear c30
                          try clear c33
                          try clear c38
                          try clear c39
                          try clear c40
                          try clear c42
                          try clear c48
                          try clear c48b0
                          try clear c48b1
                          try clear c49
                          try clear c49b0
                          try clear c49b1
                          try clear c50
                          try clear c50b0
                          try clear c50b1
                          try clear c51
                          try clear c52
                          try clear c54
                          try clear c56
                          try clear c60
                          try clear c61
                          try clear c63
                          try clear p64
                          try clear c69
                          try clear c69b0
                          try clear c70
                          try clear c70b0
                          try clear c71
                          try clear c75
                          try clear c76
                          try clear c78
                          try clear c82
                          try clear c83
                          try clear c84
                          try clear c90
                          try clear c91
                          try clear c92
                          try clear c93
                          try clear c95
                          try clear c97
                          try clear c99
                          try clear c99b0
                          try clear c99b1
                          try clear c100
                          try clear c100b0
                          try clear c100b1
                          try clear c101
                          try clear c102
                          try clear c103
                          try clear c104
                          try clear c106
                          try clear c107
                          try clear c108
                          try clear hcz105_0
                          try clear hcz105_1
                          try clear hcz109_0
                          try clear hcz109_1
                          try clear hcz15_0
                          try clear hcz15_1
                          try clear hcz18_0
                          try clear hcz18_1
                          try clear hcz20_0
                          try clear hcz20_1
                          try clear hcz24_0
                          try clear hcz24_1
                          try clear hcz27_0
                          try clear hcz27_1
                          try clear hcz31_0
                          try clear hcz31_1
                          try clear hcz41_0
                          try clear hcz41_1
                          try clear hcz43_0
                          try clear hcz43_1
                          try clear hcz45_0
                          try clear hcz45_1
                          try clear hcz46_0
                          try clear hcz46_1
                          try clear hcz53_0
                          try clear hcz53_1
                          try clear hcz55_0
                          try clear hcz55_1
                          try clear hcz62_0
                          try clear hcz62_1
                          try clear hcz64_0
                          try clear hcz64_1
                          try clear hcz66_0
                          try clear hcz66_1
                          try clear hcz67_0
                          try clear hcz67_1
                          try clear hcz77_0
                          try clear hcz77_1
                          try clear hcz79_0
                          try clear hcz79_1
                          try clear hcz85_0
                          try clear hcz85_1
                          try clear hcz86_0
                          try clear hcz86_1
                          try clear hcz87_0
                          try clear hcz87_1
                          try clear hcz94_0
                          try clear hcz94_1
                          try clear hfz105_0
                          try clear hfz105_1
                          try clear hfz109_0
                          try clear hfz109_1
                          try clear hfz15_0
                          try clear hfz15_1
                          try clear hfz18_0
                          try clear hfz18_1
                          try clear hfz20_0
                          try clear hfz20_1
                          try clear hfz24_0
                          try clear hfz24_1
                          try clear hfz27_0
                          try clear hfz27_1
                          try clear hfz31_0
                          try clear hfz31_1
                          try clear hfz41_0
                          try clear hfz41_1
                          try clear hfz43_0
                          try clear hfz43_1
                          try clear hfz45_0
                          try clear hfz45_1
                          try clear hfz46_0
                          try clear hfz46_1
                          try clear hfz53_0
                          try clear hfz53_1
                          try clear hfz55_0
                          try clear hfz55_1
                          try clear hfz62_0
                          try clear hfz62_1
                          try clear hfz64_0
                          try clear hfz64_1
                          try clear hfz66_0
                          try clear hfz66_1
                          try clear hfz67_0
                          try clear hfz67_1
                          try clear hfz77_0
                          try clear hfz77_1
                          try clear hfz79_0
                          try clear hfz79_1
                          try clear hfz85_0
                          try clear hfz85_1
                          try clear hfz86_0
                          try clear hfz86_1
                          try clear hfz87_0
                          try clear hfz87_1
                          try clear hfz94_0
                          try clear hfz94_1
                          try clear p2
                          try clear p6
                          try clear p64
                          obtain ⟨kq, HA, HJ95, BK534, BK535, BK536, BK552, BK556, HB⟩ := hcut
                          cases kq with
                          | zero => exact absurd HA.out (by simp [fleuronlaw01_NumOrder.j4])
                          | succ kj95 =>
                            have H := HA.out
                            clear HA
                            simp only [fleuronlaw01_NumOrder.j4] at H
                            replace H := Option.bind_eq_some_iff.mp H
                            obtain ⟨⟨t559, t560⟩, A1110, H⟩ := H
                            replace H : (if t560 = 0 then (if (wrap64 (t559 * a0_1)) > a0_0 then (fleuronlaw01_NumOrder.j5 kj95 true a0_0 a0_1 a1_0 a1_1 t559 1) else (fleuronlaw01_NumOrder.j5 kj95 (decide (a0_0 ≥ (wrap64 ((wrap64 (t559 + 1)) * a0_1)))) a0_0 a0_1 a1_0 a1_1 t559 1)) else (fleuronlaw01_NumOrder.j5 kj95 true a0_0 a0_1 a1_0 a1_1 t559 1)) = some r := H
                            have A111 := Fa.mk A1110
                            clear A1110
                            have HC112 := Fa.mk H
                            clear H
                            have hnb113 := NB534_535.out
                            have hnc113 := NB535_534.out
                            have hnb114 := NB534_536.out
                            have hnc114 := NB536_534.out
                            have hnb115 := NB534_552.out
                            have hnc115 := NB552_534.out
                            have hnb116 := NB534_556.out
                            have hnc116 := NB556_534.out
                            have hcz117_0 : wc.cell? ⟨gb534, 0, none⟩ = some (.int .i64 a0_0) := (blk_cell BK534.out 0).trans rfl
                            have hcz117_1 : wc.cell? ⟨gb534, 1, none⟩ = some (.int .i64 a0_1) := (blk_cell BK534.out 1).trans rfl
                            have hfz117_0 := blk_frozen BK534.out 0
                            have hfz117_1 := blk_frozen BK534.out 1
                            go_upto_region 19 with (first | ((with_reducible refine gate_callee (f := 39) rfl ?_); refine goesA (some 129) rfl rfl Tryd.func39 (by kernel_rfl) rfl #[.agg #[.int .i64 a0_0, .int .i64 a0_1]] rfl ?_; (with_reducible refine (num_Floor.calls kj95 a0_0 a0_1 t559 t560 _ A111.out).mono ?_); rintro e w118 ⟨rfl, hb⟩; refine ⟨_, rfl, ?_⟩; have n0_ := Fa.mk (blk_below (g := gb534) (o := .cells #[.int .i64 a0_0, .int .i64 a0_1] 23 (0, 0)) fa hb); have n1_ := Fa.mk (blk_below (g := gb535) (o := .cells #[.int .i64 a1_0, .int .i64 a1_1] 23 (0, 0)) fa hb); have n2_ := Fa.mk (blk_below (g := gb536) (o := .cells #[.int .i64 a2_0, .int .i64 a2_1] 23 (0, 0)) fa hb); have n3_ := Fa.mk (blk_below (g := gb552) (o := .cells #[.int .i64 t549, .int .i64 t550] 23 (0, 0)) fa hb); have n4_ := Fa.mk (blk_below (g := gb556) (o := .cells #[.int .i64 t553, .int .i64 t554] 23 (0, 0)) fa hb); have n5_ := Fa.mk (bst w hb); clear BK534; clear BK535; clear BK536; clear BK552; clear BK556; clear HB; have BK534 := n0_; have BK535 := n1_; have BK536 := n2_; have BK552 := n3_; have BK556 := n4_; have HB := n5_; clear n0_ n1_ n2_ n3_ n4_ n5_; (try clear hb); (try clear hb2); (try clear hk); (try clear hi)) | ((with_reducible refine gate_dst (N := 23) rfl ?_); refine boxF (N := 23) (cs := #[.int .i64 0, .int .i64 0]) (t := 23) ?_; intro gb561 hg w119 hbox hb; have n0_ := Fa.mk (blk_below (g := gb534) (o := .cells #[.int .i64 a0_0, .int .i64 a0_1] 23 (0, 0)) fa hb); have n1_ := Fa.mk (blk_below (g := gb535) (o := .cells #[.int .i64 a1_0, .int .i64 a1_1] 23 (0, 0)) fa hb); have n2_ := Fa.mk (blk_below (g := gb536) (o := .cells #[.int .i64 a2_0, .int .i64 a2_1] 23 (0, 0)) fa hb); have n3_ := Fa.mk (blk_below (g := gb552) (o := .cells #[.int .i64 t549, .int .i64 t550] 23 (0, 0)) fa hb); have n4_ := Fa.mk (blk_below (g := gb556) (o := .cells #[.int .i64 t553, .int .i64 t554] 23 (0, 0)) fa hb); have n5_ := Fa.mk (bst w hb); have n6_ := Fa.mk (hbox); have n7_ := Fa.mk (gle hg : w.heap.size ≤ gb561); have n8_ := n7_; have n9_ := Fa.mk (gne (o := .cells #[.int .i64 a0_0, .int .i64 a0_1] 23 (0, 0)) hg : gb534 ≠ gb561); have n10_ := Fa.mk n9_.out.symm; have n11_ := Fa.mk (gne (o := .cells #[.int .i64 a1_0, .int .i64 a1_1] 23 (0, 0)) hg : gb535 ≠ gb561); have n12_ := Fa.mk n11_.out.symm; have n13_ := Fa.mk (gne (o := .cells #[.int .i64 a2_0, .int .i64 a2_1] 23 (0, 0)) hg : gb536 ≠ gb561); have n14_ := Fa.mk n13_.out.symm; have n15_ := Fa.mk (gne (o := .cells #[.int .i64 t549, .int .i64 t550] 23 (0, 0)) hg : gb552 ≠ gb561); have n16_ := Fa.mk n15_.out.symm; have n17_ := Fa.mk (gne (o := .cells #[.int .i64 t553, .int .i64 t554] 23 (0, 0)) hg : gb556 ≠ gb561); have n18_ := Fa.mk n17_.out.symm; clear BK534; clear BK535; clear BK536; clear BK552; clear BK556; clear HB; have BK534 := n0_; have BK535 := n1_; have BK536 := n2_; have BK552 := n3_; have BK556 := n4_; have HB := n5_; have BK561 := n6_; have GW561 := n7_; have GE561 := n8_; have NB534_561 := n9_; have NB561_534 := n10_; have NB535_561 := n11_; have NB561_535 := n12_; have NB536_561 := n13_; have NB561_536 := n14_; have NB552_561 := n15_; have NB561_552 := n16_; have NB556_561 := n17_; have NB561_556 := n18_; clear n0_ n1_ n2_ n3_ n4_ n5_ n6_ n7_ n8_ n9_ n10_ n11_ n12_ n13_ n14_ n15_ n16_ n17_ n18_; clear hb hbox hg; have hnb120 := NB561_534.out; have hnc120 := NB534_561.out; have hnb121 := NB561_535.out; have hnc121 := NB535_561.out; have hnb122 := NB561_536.out; have hnc122 := NB536_561.out; have hnb123 := NB561_552.out; have hnc123 := NB552_561.out; have hnb124 := NB561_556.out; have hnc124 := NB556_561.out; have hcz125_0 : w119.cell? ⟨gb561, 0, none⟩ = some (.int .i64 0) := (blk_cell BK561.out 0).trans rfl; have hcz125_1 : w119.cell? ⟨gb561, 1, none⟩ = some (.int .i64 0) := (blk_cell BK561.out 1).trans rfl; have hfz125_0 := blk_frozen BK561.out 0; have hfz125_1 := blk_frozen BK561.out 1))
                            (try simp only [Act.put, List.setIfInBounds_toArray, List.set_cons_zero, List.set_cons_succ])
                            go_cut [154] (fun v154 wc => ∃ (kq : Nat) (x154_111 : Bool), v154 = .bool x154_111 ∧ Fa (fleuronlaw01_NumOrder.j5 kq x154_111 a0_0 a0_1 a1_0 a1_1 t559 1 = some r) ∧ Fa (kq ≤ kj95) ∧ Fa (wc.heap[gb534]? = some (.cells #[.int .i64 a0_0, .int .i64 a0_1] 23 (0, 0))) ∧ Fa (wc.heap[gb535]? = some (.cells #[.int .i64 a1_0, .int .i64 a1_1] 23 (0, 0))) ∧ Fa (wc.heap[gb536]? = some (.cells #[.int .i64 a2_0, .int .i64 a2_1] 23 (0, 0))) ∧ Fa (wc.heap[gb552]? = some (.cells #[.int .i64 t549, .int .i64 t550] 23 (0, 0))) ∧ Fa (wc.heap[gb556]? = some (.cells #[.int .i64 t553, .int .i64 t554] 23 (0, 0))) ∧ Fa (wc.heap[gb561]? = some (.cells #[.int .i64 t559, .int .i64 1] 23 (0, 0))) ∧ Fa (Below w.heap.size w wc))
                            case first =>
                              as_aux_lemma =>
                              have H := HC112.out
                              clear HC112
                              by_cases c126 : t560 = 0
                              · rw [if_pos c126] at H
                                have c126b0 : (t560 == 0) = true := beq_iff_eq.mpr c126
                                have c126b1 : (t560 != 0) = false := bne_eq_false_iff_eq.mpr c126
                                clear c126
                                (first | rw [c126b0] | (simp only [i64_w, i32_w]; rw [c126b0]) | skip)
                                by_cases c127 : (wrap64 (t559 * a0_1)) > a0_0
                                · rw [if_pos c127] at H
                                  have c127b0 : decide (a0_0 < (wrap64 (t559 * a0_1))) = true := decide_eq_true c127
                                  clear c127
                                  have H' := Fa.mk H
                                  clear H
                                  have hnb128 := NB534_535.out
                                  have hnc128 := NB535_534.out
                                  have hnb129 := NB534_536.out
                                  have hnc129 := NB536_534.out
                                  have hnb130 := NB534_552.out
                                  have hnc130 := NB552_534.out
                                  have hnb131 := NB534_556.out
                                  have hnc131 := NB556_534.out
                                  have hnb132 := NB534_561.out
                                  have hnc132 := NB561_534.out
                                  have hcz133_0 : w119.cell? ⟨gb534, 0, none⟩ = some (.int .i64 a0_0) := (blk_cell BK534.out 0).trans rfl
                                  have hcz133_1 : w119.cell? ⟨gb534, 1, none⟩ = some (.int .i64 a0_1) := (blk_cell BK534.out 1).trans rfl
                                  have hfz133_0 := blk_frozen BK534.out 0
                                  have hfz133_1 := blk_frozen BK534.out 1
                                  go_wp2
                                  go_meet
                                  case rel => exact ⟨_, (true), (by first | rfl | (simp; done) | (simp [*]; done)), H', ⟨by have := HJ3.out; have := HJ37.out; have := HJ58.out; have := HJ73.out; have := HJ95.out; first | omega | exact Nat.le_refl _⟩, ⟨by (with_reducible repeat (first | refine blk_drewN ?_ _ | refine blk_drew ?_ | refine blk_alloc ?_ _)); refine blk_far ?_ NB534_561.out _; (with_reducible repeat (first | refine blk_drewN ?_ _ | refine blk_drew ?_ | refine blk_alloc ?_ _)); refine blk_far ?_ NB534_561.out _; (with_reducible repeat (first | refine blk_drewN ?_ _ | refine blk_drew ?_ | refine blk_alloc ?_ _)); exact BK534.out⟩, ⟨by (with_reducible repeat (first | refine blk_drewN ?_ _ | refine blk_drew ?_ | refine blk_alloc ?_ _)); refine blk_far ?_ NB535_561.out _; (with_reducible repeat (first | refine blk_drewN ?_ _ | refine blk_drew ?_ | refine blk_alloc ?_ _)); refine blk_far ?_ NB535_561.out _; (with_reducible repeat (first | refine blk_drewN ?_ _ | refine blk_drew ?_ | refine blk_alloc ?_ _)); exact BK535.out⟩, ⟨by (with_reducible repeat (first | refine blk_drewN ?_ _ | refine blk_drew ?_ | refine blk_alloc ?_ _)); refine blk_far ?_ NB536_561.out _; (with_reducible repeat (first | refine blk_drewN ?_ _ | refine blk_drew ?_ | refine blk_alloc ?_ _)); refine blk_far ?_ NB536_561.out _; (with_reducible repeat (first | refine blk_drewN ?_ _ | refine blk_drew ?_ | refine blk_alloc ?_ _)); exact BK536.out⟩, ⟨by (with_reducible repeat (first | refine blk_drewN ?_ _ | refine blk_drew ?_ | refine blk_alloc ?_ _)); refine blk_far ?_ NB552_561.out _; (with_reducible repeat (first | refine blk_drewN ?_ _ | refine blk_drew ?_ | refine blk_alloc ?_ _)); refine blk_far ?_ NB552_561.out _; (with_reducible repeat (first | refine blk_drewN ?_ _ | refine blk_drew ?_ | refine blk_alloc ?_ _)); exact BK552.out⟩, ⟨by (with_reducible repeat (first | refine blk_drewN ?_ _ | refine blk_drew ?_ | refine blk_alloc ?_ _)); refine blk_far ?_ NB556_561.out _; (with_reducible repeat (first | refine blk_drewN ?_ _ | refine blk_drew ?_ | refine blk_alloc ?_ _)); refine blk_far ?_ NB556_561.out _; (with_reducible repeat (first | refine blk_drewN ?_ _ | refine blk_drew ?_ | refine blk_alloc ?_ _)); exact BK556.out⟩, ⟨by (with_reducible repeat (first | refine blk_drewN ?_ _ | refine blk_drew ?_ | refine blk_alloc ?_ _)); refine blk_put (cs := #[.int .i64 t559, .int .i64 0]) ?_ 1 _ rfl; (with_reducible repeat (first | refine blk_drewN ?_ _ | refine blk_drew ?_ | refine blk_alloc ?_ _)); refine blk_put (cs := #[.int .i64 0, .int .i64 0]) ?_ 0 _ rfl; (with_reducible repeat (first | refine blk_drewN ?_ _ | refine blk_drew ?_ | refine blk_alloc ?_ _)); exact BK561.out⟩, ⟨fa⟩⟩
                                · rw [if_neg c127] at H
                                  have c127b0 : decide (a0_0 < (wrap64 (t559 * a0_1))) = false := decide_eq_false c127
                                  clear c127
                                  have H' := Fa.mk H
                                  clear H
                                  have hnb134 := NB534_535.out
                                  have hnc134 := NB535_534.out
                                  have hnb135 := NB534_536.out
                                  have hnc135 := NB536_534.out
                                  have hnb136 := NB534_552.out
                                  have hnc136 := NB552_534.out
                                  have hnb137 := NB534_556.out
                                  have hnc137 := NB556_534.out
                                  have hnb138 := NB534_561.out
                                  have hnc138 := NB561_534.out
                                  have hcz139_0 : w119.cell? ⟨gb534, 0, none⟩ = some (.int .i64 a0_0) := (blk_cell BK534.out 0).trans rfl
                                  have hcz139_1 : w119.cell? ⟨gb534, 1, none⟩ = some (.int .i64 a0_1) := (blk_cell BK534.out 1).trans rfl
                                  have hfz139_0 := blk_frozen BK534.out 0
                                  have hfz139_1 := blk_frozen BK534.out 1
                                  go_wp2
                                  go_meet
                                  case rel => exact ⟨_, (decide (a0_0 ≥ (wrap64 ((wrap64 (t559 + 1)) * a0_1)))), (by first | rfl | (simp; done) | (simp [*]; done)), H', ⟨by have := HJ3.out; have := HJ37.out; have := HJ58.out; have := HJ73.out; have := HJ95.out; first | omega | exact Nat.le_refl _⟩, ⟨by (with_reducible repeat (first | refine blk_drewN ?_ _ | refine blk_drew ?_ | refine blk_alloc ?_ _)); refine blk_far ?_ NB534_561.out _; (with_reducible repeat (first | refine blk_drewN ?_ _ | refine blk_drew ?_ | refine blk_alloc ?_ _)); refine blk_far ?_ NB534_561.out _; (with_reducible repeat (first | refine blk_drewN ?_ _ | refine blk_drew ?_ | refine blk_alloc ?_ _)); exact BK534.out⟩, ⟨by (with_reducible repeat (first | refine blk_drewN ?_ _ | refine blk_drew ?_ | refine blk_alloc ?_ _)); refine blk_far ?_ NB535_561.out _; (with_reducible repeat (first | refine blk_drewN ?_ _ | refine blk_drew ?_ | refine blk_alloc ?_ _)); refine blk_far ?_ NB535_561.out _; (with_reducible repeat (first | refine blk_drewN ?_ _ | refine blk_drew ?_ | refine blk_alloc ?_ _)); exact BK535.out⟩, ⟨by (with_reducible repeat (first | refine blk_drewN ?_ _ | refine blk_drew ?_ | refine blk_alloc ?_ _)); refine blk_far ?_ NB536_561.out _; (with_reducible repeat (first | refine blk_drewN ?_ _ | refine blk_drew ?_ | refine blk_alloc ?_ _)); refine blk_far ?_ NB536_561.out _; (with_reducible repeat (first | refine blk_drewN ?_ _ | refine blk_drew ?_ | refine blk_alloc ?_ _)); exact BK536.out⟩, ⟨by (with_reducible repeat (first | refine blk_drewN ?_ _ | refine blk_drew ?_ | refine blk_alloc ?_ _)); refine blk_far ?_ NB552_561.out _; (with_reducible repeat (first | refine blk_drewN ?_ _ | refine blk_drew ?_ | refine blk_alloc ?_ _)); refine blk_far ?_ NB552_561.out _; (with_reducible repeat (first | refine blk_drewN ?_ _ | refine blk_drew ?_ | refine blk_alloc ?_ _)); exact BK552.out⟩, ⟨by (with_reducible repeat (first | refine blk_drewN ?_ _ | refine blk_drew ?_ | refine blk_alloc ?_ _)); refine blk_far ?_ NB556_561.out _; (with_reducible repeat (first | refine blk_drewN ?_ _ | refine blk_drew ?_ | refine blk_alloc ?_ _)); refine blk_far ?_ NB556_561.out _; (with_reducible repeat (first | refine blk_drewN ?_ _ | refine blk_drew ?_ | refine blk_alloc ?_ _)); exact BK556.out⟩, ⟨by (with_reducible repeat (first | refine blk_drewN ?_ _ | refine blk_drew ?_ | refine blk_alloc ?_ _)); refine blk_put (cs := #[.int .i64 t559, .int .i64 0]) ?_ 1 _ rfl; (with_reducible repeat (first | refine blk_drewN ?_ _ | refine blk_drew ?_ | refine blk_alloc ?_ _)); refine blk_put (cs := #[.int .i64 0, .int .i64 0]) ?_ 0 _ rfl; (with_reducible repeat (first | refine blk_drewN ?_ _ | refine blk_drew ?_ | refine blk_alloc ?_ _)); exact BK561.out⟩, ⟨fa⟩⟩
                              · rw [if_neg c126] at H
                                have c126b0 : (t560 == 0) = false := beq_eq_false_iff_ne.mpr c126
                                have c126b1 : (t560 != 0) = true := bne_iff_ne.mpr c126
                                (first | rw [c126b0] | (simp only [i64_w, i32_w]; rw [c126b0]) | skip)
                                have H' := Fa.mk H
                                clear H
                                go_wp2
                                go_meet
                                case rel => exact ⟨_, (true), (by first | rfl | (simp; done) | (simp [*]; done)), H', ⟨by have := HJ3.out; have := HJ37.out; have := HJ58.out; have := HJ73.out; have := HJ95.out; first | omega | exact Nat.le_refl _⟩, ⟨by (with_reducible repeat (first | refine blk_drewN ?_ _ | refine blk_drew ?_ | refine blk_alloc ?_ _)); refine blk_far ?_ NB534_561.out _; (with_reducible repeat (first | refine blk_drewN ?_ _ | refine blk_drew ?_ | refine blk_alloc ?_ _)); refine blk_far ?_ NB534_561.out _; (with_reducible repeat (first | refine blk_drewN ?_ _ | refine blk_drew ?_ | refine blk_alloc ?_ _)); exact BK534.out⟩, ⟨by (with_reducible repeat (first | refine blk_drewN ?_ _ | refine blk_drew ?_ | refine blk_alloc ?_ _)); refine blk_far ?_ NB535_561.out _; (with_reducible repeat (first | refine blk_drewN ?_ _ | refine blk_drew ?_ | refine blk_alloc ?_ _)); refine blk_far ?_ NB535_561.out _; (with_reducible repeat (first | refine blk_drewN ?_ _ | refine blk_drew ?_ | refine blk_alloc ?_ _)); exact BK535.out⟩, ⟨by (with_reducible repeat (first | refine blk_drewN ?_ _ | refine blk_drew ?_ | refine blk_alloc ?_ _)); refine blk_far ?_ NB536_561.out _; (with_reducible repeat (first | refine blk_drewN ?_ _ | refine blk_drew ?_ | refine blk_alloc ?_ _)); refine blk_far ?_ NB536_561.out _; (with_reducible repeat (first | refine blk_drewN ?_ _ | refine blk_drew ?_ | refine blk_alloc ?_ _)); exact BK536.out⟩, ⟨by (with_reducible repeat (first | refine blk_drewN ?_ _ | refine blk_drew ?_ | refine blk_alloc ?_ _)); refine blk_far ?_ NB552_561.out _; (with_reducible repeat (first | refine blk_drewN ?_ _ | refine blk_drew ?_ | refine blk_alloc ?_ _)); refine blk_far ?_ NB552_561.out _; (with_reducible repeat (first | refine blk_drewN ?_ _ | refine blk_drew ?_ | refine blk_alloc ?_ _)); exact BK552.out⟩, ⟨by (with_reducible repeat (first | refine blk_drewN ?_ _ | refine blk_drew ?_ | refine blk_alloc ?_ _)); refine blk_far ?_ NB556_561.out _; (with_reducible repeat (first | refine blk_drewN ?_ _ | refine blk_drew ?_ | refine blk_alloc ?_ _)); refine blk_far ?_ NB556_561.out _; (with_reducible repeat (first | refine blk_drewN ?_ _ | refine blk_drew ?_ | refine blk_alloc ?_ _)); exact BK556.out⟩, ⟨by (with_reducible repeat (first | refine blk_drewN ?_ _ | refine blk_drew ?_ | refine blk_alloc ?_ _)); refine blk_put (cs := #[.int .i64 t559, .int .i64 0]) ?_ 1 _ rfl; (with_reducible repeat (first | refine blk_drewN ?_ _ | refine blk_drew ?_ | refine blk_alloc ?_ _)); refine blk_put (cs := #[.int .i64 0, .int .i64 0]) ?_ 0 _ rfl; (with_reducible repeat (first | refine blk_drewN ?_ _ | refine blk_drew ?_ | refine blk_alloc ?_ _)); exact BK561.out⟩, ⟨fa⟩⟩
                            case rest =>
                              as_aux_lemma =>
                              clear HC112
                              try clear c1
                              try clear c2
                              try clear p2
                              try clear c3
                              try clear c4
                              try clear c5
                              try clear c6
                              try clear p6
                              try clear c7
                              try clear c8
                              try clear c9
                              try clear c10
                              try clear c11
                              try clear c12
                              try clear c13
                              try clear c14
                              try clear c16
                              try clear c17
                              try clear c22
                              try clear c23
                              try clear c26
                              try clear c29
                              try clear c30
                              try clear c33
                              try clear c38
                              try clear c39
                              try clear c40
                              try clear c42
                              try clear c48
                              try clear c48b0
                              try clear c48b1
                              try clear c49
                              try clear c49b0
                              try clear c49b1
                              try clear c50
                              try clear c50b0
                              try clear c50b1
                              try clear c51
                              try clear c52
                              try clear c54
                              try clear c56
                              try clear c60
                              try clear c61
                              try clear c63
                              try clear p64
                              try clear c69
                              try clear c69b0
                              try clear c70
                              try clear c70b0
                              try clear c71
                              try clear c75
                              try clear c76
                              try clear c78
                              try clear c82
                              try clear c83
                              try clear c84
                              try clear c90
                              try clear c91
                              try clear c92
                              try clear c93
                              try clear c95
                              try clear c97
                              try clear c99
                              try clear c99b0
                              try clear c99b1
                              try clear c100
                              try clear c100b0
                              try clear c100b1
                              try clear c101
                              try clear c102
                              try clear c103
                              try clear c104
                              try clear c106
                              try clear c107
                              try clear c108
                              try clear c113
                              try clear c114
                              try clear c115
                              try clear c116
                              try clear c120
                              try clear c121
                              try clear c122
                              try clear c123
                              try clear c124
                              try clear c126
                              try clear c126b0
                              try clear c126b1
                              try clear c127
                              try clear c127b0
                              try clear c128
                              try clear c129
                              try clear c130
                              try clear c131
                              try clear c132
                              try clear c134
                              try clear c135
                              try clear c136
                              try clear c137
                              try clear c138
                              try clear hcz105_0
                              try clear hcz105_1
                              try clear hcz109_0
                              try clear hcz109_1
                              try clear hcz117_0
                              try clear hcz117_1
                              try clear hcz125_0
                              try clear hcz125_1
                              try clear hcz133_0
                              try clear hcz133_1
                              try clear hcz139_0
                              try clear hcz139_1
                              try clear hcz15_0
                              try clear hcz15_1
                              try clear hcz18_0
                              try clear hcz18_1
                              try clear hcz20_0
                              try clear hcz20_1
                              try clear hcz24_0
                              try clear hcz24_1
                              try clear hcz27_0
                              try clear hcz27_1
                              try clear hcz31_0
                              try clear hcz31_1
                              try clear hcz41_0
                              try clear hcz41_1
                              try clear hcz43_0
                              try clear hcz43_1
                              try clear hcz45_0
                              try clear hcz45_1
                              try clear hcz46_0
                              try clear hcz46_1
                              try clear hcz53_0
                              try clear hcz53_1
                              try clear hcz55_0
                              try clear hcz55_1
                              try clear hcz62_0
                              try clear hcz62_1
                              try clear hcz64_0
                              try clear hcz64_1
                              try clear hcz66_0
                              try clear hcz66_1
                              try clear hcz67_0
                              try clear hcz67_1
                              try clear hcz77_0
                              try clear hcz77_1
                              try clear hcz79_0
                              try clear hcz79_1
                              try clear hcz85_0
                              try clear hcz85_1
                              try clear hcz86_0
                              try clear hcz86_1
                              try clear hcz87_0
                              try clear hcz87_1
                              try clear hcz94_0
                              try clear hcz94_1
                              try clear hfz105_0
                              try clear hfz105_1
                              try clear hfz109_0
                              try clear hfz109_1
                              try clear hfz117_0
                              try clear hfz117_1
                              try clear hfz125_0
                              try clear hfz125_1
                              try clear hfz133_0
                              try clear hfz133_1
                              try clear hfz139_0
                              try clear hfz139_1
                              try clear hfz15_0
                              try clear hfz15_1
                              try clear hfz18_0
                              try clear hfz18_1
                              try clear hfz20_0
                              try clear hfz20_1
                              try clear hfz24_0
                              try clear hfz24_1
                              try clear hfz27_0
                              try clear hfz27_1
                              try clear hfz31_0
                              try clear hfz31_1
                              try clear hfz41_0
                              try clear hfz41_1
                              try clear hfz43_0
                              try clear hfz43_1
                              try clear hfz45_0
                              try clear hfz45_1
                              try clear hfz46_0
                              try clear hfz46_1
                              try clear hfz53_0
                              try clear hfz53_1
                              try clear hfz55_0
                              try clear hfz55_1
                              try clear hfz62_0
                              try clear hfz62_1
                              try clear hfz64_0
                              try clear hfz64_1
                              try clear hfz66_0
                              try clear hfz66_1
                              try clear hfz67_0
                              try clear hfz67_1
                              try clear hfz77_0
                              try clear hfz77_1
                              try clear hfz79_0
                              try clear hfz79_1
                              try clear hfz85_0
                              try clear hfz85_1
                              try clear hfz86_0
                              try clear hfz86_1
                              try clear hfz87_0
                              try clear hfz87_1
                              try clear hfz94_0
                              try clear hfz94_1
                              try clear p2
                              try clear p6
                              try clear p64
                              obtain ⟨kq, x154_111, rfl, HA, HJ111, BK534, BK535, BK536, BK552, BK556, BK561, HB⟩ := hcut
                              cases kq with
                              | zero => exact absurd HA.out (by simp [fleuronlaw01_NumOrder.j5])
                              | succ kj111 =>
                                have H := HA.out
                                clear HA
                                simp only [fleuronlaw01_NumOrder.j5] at H
                                by_cases c140 : x154_111 = true
                                · subst c140
                                  have H1 : (none) = some r := by rw [if_pos rfl] at H; exact H
                                  clear H
                                  have H := H1
                                  clear H1
                                  exact absurd H (by simp)
                                · replace c140 := Bool.eq_false_iff.mpr c140
                                  subst c140
                                  have H1 : ((num_Mod.f kj111 a0_0 a0_1 a1_0 a1_1).bind fun bt562 => (if bt562.2.2 = 0 then ((num_Cmp.f kj111 bt562.1 bt562.2.1 0 1).bind fun bt566 => ((num_Cmp.f kj111 bt562.1 bt562.2.1 a1_0 a1_1).bind fun bt568 => (if a1_0 > 0 then (if bt566.1 < 0 then (none) else (if bt568.1 ≥ 0 then (none) else (if a1_0 < 0 then (if bt566.1 > 0 then (none) else (if bt568.1 ≤ 0 then (none) else (if 1 = 1 then ((fleuronlaw01_awake.f kj111).bind fun t570 => (some t570)) else (none)))) else (if 1 = 1 then ((fleuronlaw01_awake.f kj111).bind fun t571 => (some t571)) else (none))))) else (if a1_0 < 0 then (if bt566.1 > 0 then (none) else (if bt568.1 ≤ 0 then (none) else (if 1 = 1 then ((fleuronlaw01_awake.f kj111).bind fun t572 => (some t572)) else (none)))) else (if 1 = 1 then ((fleuronlaw01_awake.f kj111).bind fun t573 => (some t573)) else (none)))))) else (if 1 = 1 then ((fleuronlaw01_awake.f kj111).bind fun t574 => (some t574)) else (none)))) = some r := by rw [if_neg (show ¬ (false = true) by decide)] at H; exact H
                                  clear H
                                  have H := H1
                                  clear H1
                                  replace H := Option.bind_eq_some_iff.mp H
                                  obtain ⟨⟨t562, t563, t564⟩, A1410, H⟩ := H
                                  replace H : (if t564 = 0 then ((num_Cmp.f kj111 t562 t563 0 1).bind fun bt566 => ((num_Cmp.f kj111 t562 t563 a1_0 a1_1).bind fun bt568 => (if a1_0 > 0 then (if bt566.1 < 0 then (none) else (if bt568.1 ≥ 0 then (none) else (if a1_0 < 0 then (if bt566.1 > 0 then (none) else (if bt568.1 ≤ 0 then (none) else (if 1 = 1 then ((fleuronlaw01_awake.f kj111).bind fun t570 => (some t570)) else (none)))) else (if 1 = 1 then ((fleuronlaw01_awake.f kj111).bind fun t571 => (some t571)) else (none))))) else (if a1_0 < 0 then (if bt566.1 > 0 then (none) else (if bt568.1 ≤ 0 then (none) else (if 1 = 1 then ((fleuronlaw01_awake.f kj111).bind fun t572 => (some t572)) else (none)))) else (if 1 = 1 then ((fleuronlaw01_awake.f kj111).bind fun t573 => (some t573)) else (none)))))) else (if 1 = 1 then ((fleuronlaw01_awake.f kj111).bind fun t574 => (some t574)) else (none))) = some r := H
                                  have A141 := Fa.mk A1410
                                  clear A1410
                                  by_cases c142 : t564 = 0
                                  · rw [if_pos c142] at H
                                    have c142b0 : (t564 == 0) = true := beq_iff_eq.mpr c142
                                    have c142b1 : (t564 != 0) = false := bne_eq_false_iff_eq.mpr c142
                                    clear c142
                                    replace H := Option.bind_eq_some_iff.mp H
                                    obtain ⟨⟨t566, t567⟩, A1430, H⟩ := H
                                    replace H : ((num_Cmp.f kj111 t562 t563 a1_0 a1_1).bind fun bt568 => (if a1_0 > 0 then (if t566 < 0 then (none) else (if bt568.1 ≥ 0 then (none) else (if a1_0 < 0 then (if t566 > 0 then (none) else (if bt568.1 ≤ 0 then (none) else (if 1 = 1 then ((fleuronlaw01_awake.f kj111).bind fun t570 => (some t570)) else (none)))) else (if 1 = 1 then ((fleuronlaw01_awake.f kj111).bind fun t571 => (some t571)) else (none))))) else (if a1_0 < 0 then (if t566 > 0 then (none) else (if bt568.1 ≤ 0 then (none) else (if 1 = 1 then ((fleuronlaw01_awake.f kj111).bind fun t572 => (some t572)) else (none)))) else (if 1 = 1 then ((fleuronlaw01_awake.f kj111).bind fun t573 => (some t573)) else (none))))) = some r := H
                                    have A143 := Fa.mk A1430
                                    clear A1430
                                    replace H := Option.bind_eq_some_iff.mp H
                                    obtain ⟨⟨t568, t569⟩, A1440, H⟩ := H
                                    replace H : (if a1_0 > 0 then (if t566 < 0 then (none) else (if t568 ≥ 0 then (none) else (if a1_0 < 0 then (if t566 > 0 then (none) else (if t568 ≤ 0 then (none) else (if 1 = 1 then ((fleuronlaw01_awake.f kj111).bind fun t570 => (some t570)) else (none)))) else (if 1 = 1 then ((fleuronlaw01_awake.f kj111).bind fun t571 => (some t571)) else (none))))) else (if a1_0 < 0 then (if t566 > 0 then (none) else (if t568 ≤ 0 then (none) else (if 1 = 1 then ((fleuronlaw01_awake.f kj111).bind fun t572 => (some t572)) else (none)))) else (if 1 = 1 then ((fleuronlaw01_awake.f kj111).bind fun t573 => (some t573)) else (none)))) = some r := H
                                    have A144 := Fa.mk A1440
                                    clear A1440
                                    by_cases c145 : a1_0 > 0
                                    · rw [if_pos c145] at H
                                      have c145b0 : decide (0 < a1_0) = true := decide_eq_true c145
                                      clear c145
                                      by_cases c146 : t566 < 0
                                      · rw [if_pos c146] at H
                                        exact absurd H (by simp)
                                      · rw [if_neg c146] at H
                                        have c146b0 : decide (t566 < 0) = false := decide_eq_false c146
                                        clear c146
                                        by_cases c147 : t568 ≥ 0
                                        · rw [if_pos c147] at H
                                          exact absurd H (by simp)
                                        · rw [if_neg c147] at H
                                          have c147b0 : decide (0 ≤ t568) = false := decide_eq_false c147
                                          clear c147
                                          by_cases c148 : a1_0 < 0
                                          · rw [if_pos c148] at H
                                            have c148b0 : decide (a1_0 < 0) = true := decide_eq_true c148
                                            clear c148
                                            by_cases c149 : t566 > 0
                                            · rw [if_pos c149] at H
                                              exact absurd H (by simp)
                                            · rw [if_neg c149] at H
                                              have c149b0 : decide (0 < t566) = false := decide_eq_false c149
                                              clear c149
                                              by_cases c150 : t568 ≤ 0
                                              · rw [if_pos c150] at H
                                                exact absurd H (by simp)
                                              · rw [if_neg c150] at H
                                                have c150b0 : decide (t568 ≤ 0) = false := decide_eq_false c150
                                                clear c150
                                                by_cases c151 : 1 = 1
                                                · rw [if_pos c151] at H
                                                  have c151b0 : (1 == 1) = true := beq_iff_eq.mpr c151
                                                  have c151b1 : (1 != 1) = false := bne_eq_false_iff_eq.mpr c151
                                                  clear c151
                                                  replace H := Option.bind_eq_some_iff.mp H
                                                  obtain ⟨t570, A1520, H⟩ := H
                                                  replace H : (some t570) = some r := H
                                                  have A152 := Fa.mk A1520
                                                  clear A1520
                                                  obtain rfl := Option.some.inj H
                                                  have hnb153 := NB534_535.out
                                                  have hnc153 := NB535_534.out
                                                  have hnb154 := NB534_536.out
                                                  have hnc154 := NB536_534.out
                                                  have hnb155 := NB534_552.out
                                                  have hnc155 := NB552_534.out
                                                  have hnb156 := NB534_556.out
                                                  have hnc156 := NB556_534.out
                                                  have hnb157 := NB534_561.out
                                                  have hnc157 := NB561_534.out
                                                  have hcz158_0 : wc.cell? ⟨gb534, 0, none⟩ = some (.int .i64 a0_0) := (blk_cell BK534.out 0).trans rfl
                                                  have hcz158_1 : wc.cell? ⟨gb534, 1, none⟩ = some (.int .i64 a0_1) := (blk_cell BK534.out 1).trans rfl
                                                  have hfz158_0 := blk_frozen BK534.out 0
                                                  have hfz158_1 := blk_frozen BK534.out 1
                                                  have hnb159 := NB535_536.out
                                                  have hnc159 := NB536_535.out
                                                  have hnb160 := NB535_552.out
                                                  have hnc160 := NB552_535.out
                                                  have hnb161 := NB535_556.out
                                                  have hnc161 := NB556_535.out
                                                  have hnb162 := NB535_561.out
                                                  have hnc162 := NB561_535.out
                                                  have hcz163_0 : wc.cell? ⟨gb535, 0, none⟩ = some (.int .i64 a1_0) := (blk_cell BK535.out 0).trans rfl
                                                  have hcz163_1 : wc.cell? ⟨gb535, 1, none⟩ = some (.int .i64 a1_1) := (blk_cell BK535.out 1).trans rfl
                                                  have hfz163_0 := blk_frozen BK535.out 0
                                                  have hfz163_1 := blk_frozen BK535.out 1
                                                  go_wp2_with (first | ((with_reducible refine gate_callee (f := 40) rfl ?_); refine goesA (some 158) rfl rfl Tryd.func40 (by kernel_rfl) rfl #[.agg #[.int .i64 a0_0, .int .i64 a0_1], .agg #[.int .i64 a1_0, .int .i64 a1_1]] rfl ?_; (with_reducible refine (num_Mod.calls kj111 a0_0 a0_1 a1_0 a1_1 t562 t563 t564 _ A141.out).mono ?_); rintro e w164 ⟨rfl, hb⟩; refine ⟨_, rfl, ?_⟩; have n0_ := Fa.mk (blk_below (g := gb534) (o := .cells #[.int .i64 a0_0, .int .i64 a0_1] 23 (0, 0)) fa hb); have n1_ := Fa.mk (blk_below (g := gb535) (o := .cells #[.int .i64 a1_0, .int .i64 a1_1] 23 (0, 0)) fa hb); have n2_ := Fa.mk (blk_below (g := gb536) (o := .cells #[.int .i64 a2_0, .int .i64 a2_1] 23 (0, 0)) fa hb); have n3_ := Fa.mk (blk_below (g := gb552) (o := .cells #[.int .i64 t549, .int .i64 t550] 23 (0, 0)) fa hb); have n4_ := Fa.mk (blk_below (g := gb556) (o := .cells #[.int .i64 t553, .int .i64 t554] 23 (0, 0)) fa hb); have n5_ := Fa.mk (blk_below (g := gb561) (o := .cells #[.int .i64 t559, .int .i64 1] 23 (0, 0)) fa hb); have n6_ := Fa.mk (bst w hb); clear BK534; clear BK535; clear BK536; clear BK552; clear BK556; clear BK561; clear HB; have BK534 := n0_; have BK535 := n1_; have BK536 := n2_; have BK552 := n3_; have BK556 := n4_; have BK561 := n5_; have HB := n6_; clear n0_ n1_ n2_ n3_ n4_ n5_ n6_; (try clear hb); (try clear hb2); (try clear hk); (try clear hi)) | ((with_reducible refine gate_dst (N := 24) rfl ?_); refine boxF (N := 24) (cs := #[.int .i64 0, .int .i64 0]) (t := 23) ?_; intro gb565 hg w165 hbox hb; have n0_ := Fa.mk (blk_below (g := gb534) (o := .cells #[.int .i64 a0_0, .int .i64 a0_1] 23 (0, 0)) fa hb); have n1_ := Fa.mk (blk_below (g := gb535) (o := .cells #[.int .i64 a1_0, .int .i64 a1_1] 23 (0, 0)) fa hb); have n2_ := Fa.mk (blk_below (g := gb536) (o := .cells #[.int .i64 a2_0, .int .i64 a2_1] 23 (0, 0)) fa hb); have n3_ := Fa.mk (blk_below (g := gb552) (o := .cells #[.int .i64 t549, .int .i64 t550] 23 (0, 0)) fa hb); have n4_ := Fa.mk (blk_below (g := gb556) (o := .cells #[.int .i64 t553, .int .i64 t554] 23 (0, 0)) fa hb); have n5_ := Fa.mk (blk_below (g := gb561) (o := .cells #[.int .i64 t559, .int .i64 1] 23 (0, 0)) fa hb); have n6_ := Fa.mk (bst w hb); have n7_ := Fa.mk (hbox); have n8_ := Fa.mk (gle hg : w.heap.size ≤ gb565); have n9_ := n8_; have n10_ := Fa.mk (gne (o := .cells #[.int .i64 a0_0, .int .i64 a0_1] 23 (0, 0)) hg : gb534 ≠ gb565); have n11_ := Fa.mk n10_.out.symm; have n12_ := Fa.mk (gne (o := .cells #[.int .i64 a1_0, .int .i64 a1_1] 23 (0, 0)) hg : gb535 ≠ gb565); have n13_ := Fa.mk n12_.out.symm; have n14_ := Fa.mk (gne (o := .cells #[.int .i64 a2_0, .int .i64 a2_1] 23 (0, 0)) hg : gb536 ≠ gb565); have n15_ := Fa.mk n14_.out.symm; have n16_ := Fa.mk (gne (o := .cells #[.int .i64 t549, .int .i64 t550] 23 (0, 0)) hg : gb552 ≠ gb565); have n17_ := Fa.mk n16_.out.symm; have n18_ := Fa.mk (gne (o := .cells #[.int .i64 t553, .int .i64 t554] 23 (0, 0)) hg : gb556 ≠ gb565); have n19_ := Fa.mk n18_.out.symm; have n20_ := Fa.mk (gne (o := .cells #[.int .i64 t559, .int .i64 1] 23 (0, 0)) hg : gb561 ≠ gb565); have n21_ := Fa.mk n20_.out.symm; clear BK534; clear BK535; clear BK536; clear BK552; clear BK556; clear BK561; clear HB; have BK534 := n0_; have BK535 := n1_; have BK536 := n2_; have BK552 := n3_; have BK556 := n4_; have BK561 := n5_; have HB := n6_; have BK565 := n7_; have GW565 := n8_; have GE565 := n9_; have NB534_565 := n10_; have NB565_534 := n11_; have NB535_565 := n12_; have NB565_535 := n13_; have NB536_565 := n14_; have NB565_536 := n15_; have NB552_565 := n16_; have NB565_552 := n17_; have NB556_565 := n18_; have NB565_556 := n19_; have NB561_565 := n20_; have NB565_561 := n21_; clear n0_ n1_ n2_ n3_ n4_ n5_ n6_ n7_ n8_ n9_ n10_ n11_ n12_ n13_ n14_ n15_ n16_ n17_ n18_ n19_ n20_ n21_; clear hb hbox hg; have hnb166 := NB565_534.out; have hnc166 := NB534_565.out; have hnb167 := NB565_535.out; have hnc167 := NB535_565.out; have hnb168 := NB565_536.out; have hnc168 := NB536_565.out; have hnb169 := NB565_552.out; have hnc169 := NB552_565.out; have hnb170 := NB565_556.out; have hnc170 := NB556_565.out; have hnb171 := NB565_561.out; have hnc171 := NB561_565.out; have hcz172_0 : w165.cell? ⟨gb565, 0, none⟩ = some (.int .i64 0) := (blk_cell BK565.out 0).trans rfl; have hcz172_1 : w165.cell? ⟨gb565, 1, none⟩ = some (.int .i64 0) := (blk_cell BK565.out 1).trans rfl; have hfz172_0 := blk_frozen BK565.out 0; have hfz172_1 := blk_frozen BK565.out 1) | ((with_reducible refine gate_callee (f := 38) rfl ?_); refine goesA (some 166) rfl rfl Tryd.func38 (by kernel_rfl) rfl #[.agg #[.int .i64 t562, .int .i64 t563], .agg #[.int .i64 0, .int .i64 1]] rfl ?_; (with_reducible refine (num_Cmp.calls kj111 t562 t563 0 1 t566 t567 _ A143.out).mono ?_); rintro e w173 ⟨rfl, hb⟩; refine ⟨_, rfl, ?_⟩; have n0_ := Fa.mk (blk_below (g := gb534) (o := .cells #[.int .i64 a0_0, .int .i64 a0_1] 23 (0, 0)) (by (with_reducible repeat (first | refine blk_drewN ?_ _ | refine blk_drew ?_ | refine blk_alloc ?_ _)); refine blk_far ?_ NB534_565.out _; (with_reducible repeat (first | refine blk_drewN ?_ _ | refine blk_drew ?_ | refine blk_alloc ?_ _)); refine blk_far ?_ NB534_565.out _; (with_reducible repeat (first | refine blk_drewN ?_ _ | refine blk_drew ?_ | refine blk_alloc ?_ _)); exact BK534.out) hb); have n1_ := Fa.mk (blk_below (g := gb535) (o := .cells #[.int .i64 a1_0, .int .i64 a1_1] 23 (0, 0)) (by (with_reducible repeat (first | refine blk_drewN ?_ _ | refine blk_drew ?_ | refine blk_alloc ?_ _)); refine blk_far ?_ NB535_565.out _; (with_reducible repeat (first | refine blk_drewN ?_ _ | refine blk_drew ?_ | refine blk_alloc ?_ _)); refine blk_far ?_ NB535_565.out _; (with_reducible repeat (first | refine blk_drewN ?_ _ | refine blk_drew ?_ | refine blk_alloc ?_ _)); exact BK535.out) hb); have n2_ := Fa.mk (blk_below (g := gb536) (o := .cells #[.int .i64 a2_0, .int .i64 a2_1] 23 (0, 0)) (by (with_reducible repeat (first | refine blk_drewN ?_ _ | refine blk_drew ?_ | refine blk_alloc ?_ _)); refine blk_far ?_ NB536_565.out _; (with_reducible repeat (first | refine blk_drewN ?_ _ | refine blk_drew ?_ | refine blk_alloc ?_ _)); refine blk_far ?_ NB536_565.out _; (with_reducible repeat (first | refine blk_drewN ?_ _ | refine blk_drew ?_ | refine blk_alloc ?_ _)); exact BK536.out) hb); have n3_ := Fa.mk (blk_below (g := gb552) (o := .cells #[.int .i64 t549, .int .i64 t550] 23 (0, 0)) (by (with_reducible repeat (first | refine blk_drewN ?_ _ | refine blk_drew ?_ | refine blk_alloc ?_ _)); refine blk_far ?_ NB552_565.out _; (with_reducible repeat (first | refine blk_drewN ?_ _ | refine blk_drew ?_ | refine blk_alloc ?_ _)); refine blk_far ?_ NB552_565.out _; (with_reducible repeat (first | refine blk_drewN ?_ _ | refine blk_drew ?_ | refine blk_alloc ?_ _)); exact BK552.out) hb); have n4_ := Fa.mk (blk_below (g := gb556) (o := .cells #[.int .i64 t553, .int .i64 t554] 23 (0, 0)) (by (with_reducible repeat (first | refine blk_drewN ?_ _ | refine blk_drew ?_ | refine blk_alloc ?_ _)); refine blk_far ?_ NB556_565.out _; (with_reducible repeat (first | refine blk_drewN ?_ _ | refine blk_drew ?_ | refine blk_alloc ?_ _)); refine blk_far ?_ NB556_565.out _; (with_reducible repeat (first | refine blk_drewN ?_ _ | refine blk_drew ?_ | refine blk_alloc ?_ _)); exact BK556.out) hb); have n5_ := Fa.mk (blk_below (g := gb561) (o := .cells #[.int .i64 t559, .int .i64 1] 23 (0, 0)) (by (with_reducible repeat (first | refine blk_drewN ?_ _ | refine blk_drew ?_ | refine blk_alloc ?_ _)); refine blk_far ?_ NB561_565.out _; (with_reducible repeat (first | refine blk_drewN ?_ _ | refine blk_drew ?_ | refine blk_alloc ?_ _)); refine blk_far ?_ NB561_565.out _; (with_reducible repeat (first | refine blk_drewN ?_ _ | refine blk_drew ?_ | refine blk_alloc ?_ _)); exact BK561.out) hb); have n6_ := Fa.mk (blk_below (g := gb565) (o := .cells #[.int .i64 t562, .int .i64 t563] 23 (0, 0)) (by (with_reducible repeat (first | refine blk_drewN ?_ _ | refine blk_drew ?_ | refine blk_alloc ?_ _)); refine blk_put (cs := #[.int .i64 t562, .int .i64 0]) ?_ 1 _ rfl; (with_reducible repeat (first | refine blk_drewN ?_ _ | refine blk_drew ?_ | refine blk_alloc ?_ _)); refine blk_put (cs := #[.int .i64 0, .int .i64 0]) ?_ 0 _ rfl; (with_reducible repeat (first | refine blk_drewN ?_ _ | refine blk_drew ?_ | refine blk_alloc ?_ _)); exact BK565.out) hb); have n7_ := Fa.mk (bst w hb); clear BK534; clear BK535; clear BK536; clear BK552; clear BK556; clear BK561; clear BK565; clear HB; have BK534 := n0_; have BK535 := n1_; have BK536 := n2_; have BK552 := n3_; have BK556 := n4_; have BK561 := n5_; have BK565 := n6_; have HB := n7_; clear n0_ n1_ n2_ n3_ n4_ n5_ n6_ n7_; (try clear hb); (try clear hb2); (try clear hk); (try clear hi); have hcz174_0 : w173.cell? ⟨gb565, 0, none⟩ = some (.int .i64 t562) := (blk_cell BK565.out 0).trans rfl; have hcz174_1 : w173.cell? ⟨gb565, 1, none⟩ = some (.int .i64 t563) := (blk_cell BK565.out 1).trans rfl; have hfz174_0 := blk_frozen BK565.out 0; have hfz174_1 := blk_frozen BK565.out 1; have hcz175_0 : w173.cell? ⟨gb535, 0, none⟩ = some (.int .i64 a1_0) := (blk_cell BK535.out 0).trans rfl; have hcz175_1 : w173.cell? ⟨gb535, 1, none⟩ = some (.int .i64 a1_1) := (blk_cell BK535.out 1).trans rfl; have hfz175_0 := blk_frozen BK535.out 0; have hfz175_1 := blk_frozen BK535.out 1) | ((with_reducible refine gate_callee (f := 38) rfl ?_); refine goesA (some 172) rfl rfl Tryd.func38 (by kernel_rfl) rfl #[.agg #[.int .i64 t562, .int .i64 t563], .agg #[.int .i64 a1_0, .int .i64 a1_1]] rfl ?_; (with_reducible refine (num_Cmp.calls kj111 t562 t563 a1_0 a1_1 t568 t569 _ A144.out).mono ?_); rintro e w176 ⟨rfl, hb⟩; refine ⟨_, rfl, ?_⟩; have n0_ := Fa.mk (blk_below (g := gb534) (o := .cells #[.int .i64 a0_0, .int .i64 a0_1] 23 (0, 0)) fa hb); have n1_ := Fa.mk (blk_below (g := gb535) (o := .cells #[.int .i64 a1_0, .int .i64 a1_1] 23 (0, 0)) fa hb); have n2_ := Fa.mk (blk_below (g := gb536) (o := .cells #[.int .i64 a2_0, .int .i64 a2_1] 23 (0, 0)) fa hb); have n3_ := Fa.mk (blk_below (g := gb552) (o := .cells #[.int .i64 t549, .int .i64 t550] 23 (0, 0)) fa hb); have n4_ := Fa.mk (blk_below (g := gb556) (o := .cells #[.int .i64 t553, .int .i64 t554] 23 (0, 0)) fa hb); have n5_ := Fa.mk (blk_below (g := gb561) (o := .cells #[.int .i64 t559, .int .i64 1] 23 (0, 0)) fa hb); have n6_ := Fa.mk (blk_below (g := gb565) (o := .cells #[.int .i64 t562, .int .i64 t563] 23 (0, 0)) fa hb); have n7_ := Fa.mk (bst w hb); clear BK534; clear BK535; clear BK536; clear BK552; clear BK556; clear BK561; clear BK565; clear HB; have BK534 := n0_; have BK535 := n1_; have BK536 := n2_; have BK552 := n3_; have BK556 := n4_; have BK561 := n5_; have BK565 := n6_; have HB := n7_; clear n0_ n1_ n2_ n3_ n4_ n5_ n6_ n7_; (try clear hb); (try clear hb2); (try clear hk); (try clear hi); have hcz177_0 : w176.cell? ⟨gb535, 0, none⟩ = some (.int .i64 a1_0) := (blk_cell BK535.out 0).trans rfl; have hcz177_1 : w176.cell? ⟨gb535, 1, none⟩ = some (.int .i64 a1_1) := (blk_cell BK535.out 1).trans rfl; have hfz177_0 := blk_frozen BK535.out 0; have hfz177_1 := blk_frozen BK535.out 1; have hnb178 := NB561_536.out; have hnc178 := NB536_561.out; have hnb179 := NB561_552.out; have hnc179 := NB552_561.out; have hnb180 := NB561_556.out; have hnc180 := NB556_561.out; have hcz181_0 : w176.cell? ⟨gb561, 0, none⟩ = some (.int .i64 t559) := (blk_cell BK561.out 0).trans rfl; have hcz181_1 : w176.cell? ⟨gb561, 1, none⟩ = some (.int .i64 1) := (blk_cell BK561.out 1).trans rfl; have hfz181_0 := blk_frozen BK561.out 0; have hfz181_1 := blk_frozen BK561.out 1) | (go_at_call 17; (with_reducible refine (fleuronlaw01_awake.calls kj111  t570 _ A152.out (HG.out.below fa)).mono ?_); rintro e w182 ⟨rfl, hb⟩; have n0_ := Fa.mk (blk_below (g := gb534) (o := .cells #[.int .i64 a0_0, .int .i64 a0_1] 23 (0, 0)) fa hb); have n1_ := Fa.mk (blk_below (g := gb535) (o := .cells #[.int .i64 a1_0, .int .i64 a1_1] 23 (0, 0)) fa hb); have n2_ := Fa.mk (blk_below (g := gb536) (o := .cells #[.int .i64 a2_0, .int .i64 a2_1] 23 (0, 0)) fa hb); have n3_ := Fa.mk (blk_below (g := gb552) (o := .cells #[.int .i64 t549, .int .i64 t550] 23 (0, 0)) fa hb); have n4_ := Fa.mk (blk_below (g := gb556) (o := .cells #[.int .i64 t553, .int .i64 t554] 23 (0, 0)) fa hb); have n5_ := Fa.mk (blk_below (g := gb561) (o := .cells #[.int .i64 t559, .int .i64 1] 23 (0, 0)) fa hb); have n6_ := Fa.mk (blk_below (g := gb565) (o := .cells #[.int .i64 t562, .int .i64 t563] 23 (0, 0)) fa hb); have n7_ := Fa.mk (bst w hb); clear BK534; clear BK535; clear BK536; clear BK552; clear BK556; clear BK561; clear BK565; clear HB; have BK534 := n0_; have BK535 := n1_; have BK536 := n2_; have BK552 := n3_; have BK556 := n4_; have BK561 := n5_; have BK565 := n6_; have HB := n7_; clear n0_ n1_ n2_ n3_ n4_ n5_ n6_ n7_; (try clear hb); (try clear hb2); (try clear hk); (try clear hi)))
                                                  go_ret
                                                  exact ⟨by first | rfl | (simp [errW_none, errW_some] <;> rfl) | (simp [*, errW_none, errW_some] <;> rfl), fa⟩
                                                · rw [if_neg c151] at H
                                                  exact absurd H (by simp)
                                          · rw [if_neg c148] at H
                                            have c148b0 : decide (a1_0 < 0) = false := decide_eq_false c148
                                            clear c148
                                            by_cases c183 : 1 = 1
                                            · rw [if_pos c183] at H
                                              have c183b0 : (1 == 1) = true := beq_iff_eq.mpr c183
                                              have c183b1 : (1 != 1) = false := bne_eq_false_iff_eq.mpr c183
                                              clear c183
                                              replace H := Option.bind_eq_some_iff.mp H
                                              obtain ⟨t571, A1840, H⟩ := H
                                              replace H : (some t571) = some r := H
                                              have A184 := Fa.mk A1840
                                              clear A1840
                                              obtain rfl := Option.some.inj H
                                              have hnb185 := NB534_535.out
                                              have hnc185 := NB535_534.out
                                              have hnb186 := NB534_536.out
                                              have hnc186 := NB536_534.out
                                              have hnb187 := NB534_552.out
                                              have hnc187 := NB552_534.out
                                              have hnb188 := NB534_556.out
                                              have hnc188 := NB556_534.out
                                              have hnb189 := NB534_561.out
                                              have hnc189 := NB561_534.out
                                              have hcz190_0 : wc.cell? ⟨gb534, 0, none⟩ = some (.int .i64 a0_0) := (blk_cell BK534.out 0).trans rfl
                                              have hcz190_1 : wc.cell? ⟨gb534, 1, none⟩ = some (.int .i64 a0_1) := (blk_cell BK534.out 1).trans rfl
                                              have hfz190_0 := blk_frozen BK534.out 0
                                              have hfz190_1 := blk_frozen BK534.out 1
                                              have hnb191 := NB535_536.out
                                              have hnc191 := NB536_535.out
                                              have hnb192 := NB535_552.out
                                              have hnc192 := NB552_535.out
                                              have hnb193 := NB535_556.out
                                              have hnc193 := NB556_535.out
                                              have hnb194 := NB535_561.out
                                              have hnc194 := NB561_535.out
                                              have hcz195_0 : wc.cell? ⟨gb535, 0, none⟩ = some (.int .i64 a1_0) := (blk_cell BK535.out 0).trans rfl
                                              have hcz195_1 : wc.cell? ⟨gb535, 1, none⟩ = some (.int .i64 a1_1) := (blk_cell BK535.out 1).trans rfl
                                              have hfz195_0 := blk_frozen BK535.out 0
                                              have hfz195_1 := blk_frozen BK535.out 1
                                              go_wp2_with (first | ((with_reducible refine gate_callee (f := 40) rfl ?_); refine goesA (some 158) rfl rfl Tryd.func40 (by kernel_rfl) rfl #[.agg #[.int .i64 a0_0, .int .i64 a0_1], .agg #[.int .i64 a1_0, .int .i64 a1_1]] rfl ?_; (with_reducible refine (num_Mod.calls kj111 a0_0 a0_1 a1_0 a1_1 t562 t563 t564 _ A141.out).mono ?_); rintro e w196 ⟨rfl, hb⟩; refine ⟨_, rfl, ?_⟩; have n0_ := Fa.mk (blk_below (g := gb534) (o := .cells #[.int .i64 a0_0, .int .i64 a0_1] 23 (0, 0)) fa hb); have n1_ := Fa.mk (blk_below (g := gb535) (o := .cells #[.int .i64 a1_0, .int .i64 a1_1] 23 (0, 0)) fa hb); have n2_ := Fa.mk (blk_below (g := gb536) (o := .cells #[.int .i64 a2_0, .int .i64 a2_1] 23 (0, 0)) fa hb); have n3_ := Fa.mk (blk_below (g := gb552) (o := .cells #[.int .i64 t549, .int .i64 t550] 23 (0, 0)) fa hb); have n4_ := Fa.mk (blk_below (g := gb556) (o := .cells #[.int .i64 t553, .int .i64 t554] 23 (0, 0)) fa hb); have n5_ := Fa.mk (blk_below (g := gb561) (o := .cells #[.int .i64 t559, .int .i64 1] 23 (0, 0)) fa hb); have n6_ := Fa.mk (bst w hb); clear BK534; clear BK535; clear BK536; clear BK552; clear BK556; clear BK561; clear HB; have BK534 := n0_; have BK535 := n1_; have BK536 := n2_; have BK552 := n3_; have BK556 := n4_; have BK561 := n5_; have HB := n6_; clear n0_ n1_ n2_ n3_ n4_ n5_ n6_; (try clear hb); (try clear hb2); (try clear hk); (try clear hi)) | ((with_reducible refine gate_dst (N := 24) rfl ?_); refine boxF (N := 24) (cs := #[.int .i64 0, .int .i64 0]) (t := 23) ?_; intro gb565 hg w197 hbox hb; have n0_ := Fa.mk (blk_below (g := gb534) (o := .cells #[.int .i64 a0_0, .int .i64 a0_1] 23 (0, 0)) fa hb); have n1_ := Fa.mk (blk_below (g := gb535) (o := .cells #[.int .i64 a1_0, .int .i64 a1_1] 23 (0, 0)) fa hb); have n2_ := Fa.mk (blk_below (g := gb536) (o := .cells #[.int .i64 a2_0, .int .i64 a2_1] 23 (0, 0)) fa hb); have n3_ := Fa.mk (blk_below (g := gb552) (o := .cells #[.int .i64 t549, .int .i64 t550] 23 (0, 0)) fa hb); have n4_ := Fa.mk (blk_below (g := gb556) (o := .cells #[.int .i64 t553, .int .i64 t554] 23 (0, 0)) fa hb); have n5_ := Fa.mk (blk_below (g := gb561) (o := .cells #[.int .i64 t559, .int .i64 1] 23 (0, 0)) fa hb); have n6_ := Fa.mk (bst w hb); have n7_ := Fa.mk (hbox); have n8_ := Fa.mk (gle hg : w.heap.size ≤ gb565); have n9_ := n8_; have n10_ := Fa.mk (gne (o := .cells #[.int .i64 a0_0, .int .i64 a0_1] 23 (0, 0)) hg : gb534 ≠ gb565); have n11_ := Fa.mk n10_.out.symm; have n12_ := Fa.mk (gne (o := .cells #[.int .i64 a1_0, .int .i64 a1_1] 23 (0, 0)) hg : gb535 ≠ gb565); have n13_ := Fa.mk n12_.out.symm; have n14_ := Fa.mk (gne (o := .cells #[.int .i64 a2_0, .int .i64 a2_1] 23 (0, 0)) hg : gb536 ≠ gb565); have n15_ := Fa.mk n14_.out.symm; have n16_ := Fa.mk (gne (o := .cells #[.int .i64 t549, .int .i64 t550] 23 (0, 0)) hg : gb552 ≠ gb565); have n17_ := Fa.mk n16_.out.symm; have n18_ := Fa.mk (gne (o := .cells #[.int .i64 t553, .int .i64 t554] 23 (0, 0)) hg : gb556 ≠ gb565); have n19_ := Fa.mk n18_.out.symm; have n20_ := Fa.mk (gne (o := .cells #[.int .i64 t559, .int .i64 1] 23 (0, 0)) hg : gb561 ≠ gb565); have n21_ := Fa.mk n20_.out.symm; clear BK534; clear BK535; clear BK536; clear BK552; clear BK556; clear BK561; clear HB; have BK534 := n0_; have BK535 := n1_; have BK536 := n2_; have BK552 := n3_; have BK556 := n4_; have BK561 := n5_; have HB := n6_; have BK565 := n7_; have GW565 := n8_; have GE565 := n9_; have NB534_565 := n10_; have NB565_534 := n11_; have NB535_565 := n12_; have NB565_535 := n13_; have NB536_565 := n14_; have NB565_536 := n15_; have NB552_565 := n16_; have NB565_552 := n17_; have NB556_565 := n18_; have NB565_556 := n19_; have NB561_565 := n20_; have NB565_561 := n21_; clear n0_ n1_ n2_ n3_ n4_ n5_ n6_ n7_ n8_ n9_ n10_ n11_ n12_ n13_ n14_ n15_ n16_ n17_ n18_ n19_ n20_ n21_; clear hb hbox hg; have hnb198 := NB565_534.out; have hnc198 := NB534_565.out; have hnb199 := NB565_535.out; have hnc199 := NB535_565.out; have hnb200 := NB565_536.out; have hnc200 := NB536_565.out; have hnb201 := NB565_552.out; have hnc201 := NB552_565.out; have hnb202 := NB565_556.out; have hnc202 := NB556_565.out; have hnb203 := NB565_561.out; have hnc203 := NB561_565.out; have hcz204_0 : w197.cell? ⟨gb565, 0, none⟩ = some (.int .i64 0) := (blk_cell BK565.out 0).trans rfl; have hcz204_1 : w197.cell? ⟨gb565, 1, none⟩ = some (.int .i64 0) := (blk_cell BK565.out 1).trans rfl; have hfz204_0 := blk_frozen BK565.out 0; have hfz204_1 := blk_frozen BK565.out 1) | ((with_reducible refine gate_callee (f := 38) rfl ?_); refine goesA (some 166) rfl rfl Tryd.func38 (by kernel_rfl) rfl #[.agg #[.int .i64 t562, .int .i64 t563], .agg #[.int .i64 0, .int .i64 1]] rfl ?_; (with_reducible refine (num_Cmp.calls kj111 t562 t563 0 1 t566 t567 _ A143.out).mono ?_); rintro e w205 ⟨rfl, hb⟩; refine ⟨_, rfl, ?_⟩; have n0_ := Fa.mk (blk_below (g := gb534) (o := .cells #[.int .i64 a0_0, .int .i64 a0_1] 23 (0, 0)) (by (with_reducible repeat (first | refine blk_drewN ?_ _ | refine blk_drew ?_ | refine blk_alloc ?_ _)); refine blk_far ?_ NB534_565.out _; (with_reducible repeat (first | refine blk_drewN ?_ _ | refine blk_drew ?_ | refine blk_alloc ?_ _)); refine blk_far ?_ NB534_565.out _; (with_reducible repeat (first | refine blk_drewN ?_ _ | refine blk_drew ?_ | refine blk_alloc ?_ _)); exact BK534.out) hb); have n1_ := Fa.mk (blk_below (g := gb535) (o := .cells #[.int .i64 a1_0, .int .i64 a1_1] 23 (0, 0)) (by (with_reducible repeat (first | refine blk_drewN ?_ _ | refine blk_drew ?_ | refine blk_alloc ?_ _)); refine blk_far ?_ NB535_565.out _; (with_reducible repeat (first | refine blk_drewN ?_ _ | refine blk_drew ?_ | refine blk_alloc ?_ _)); refine blk_far ?_ NB535_565.out _; (with_reducible repeat (first | refine blk_drewN ?_ _ | refine blk_drew ?_ | refine blk_alloc ?_ _)); exact BK535.out) hb); have n2_ := Fa.mk (blk_below (g := gb536) (o := .cells #[.int .i64 a2_0, .int .i64 a2_1] 23 (0, 0)) (by (with_reducible repeat (first | refine blk_drewN ?_ _ | refine blk_drew ?_ | refine blk_alloc ?_ _)); refine blk_far ?_ NB536_565.out _; (with_reducible repeat (first | refine blk_drewN ?_ _ | refine blk_drew ?_ | refine blk_alloc ?_ _)); refine blk_far ?_ NB536_565.out _; (with_reducible repeat (first | refine blk_drewN ?_ _ | refine blk_drew ?_ | refine blk_alloc ?_ _)); exact BK536.out) hb); have n3_ := Fa.mk (blk_below (g := gb552) (o := .cells #[.int .i64 t549, .int .i64 t550] 23 (0, 0)) (by (with_reducible repeat (first | refine blk_drewN ?_ _ | refine blk_drew ?_ | refine blk_alloc ?_ _)); refine blk_far ?_ NB552_565.out _; (with_reducible repeat (first | refine blk_drewN ?_ _ | refine blk_drew ?_ | refine blk_alloc ?_ _)); refine blk_far ?_ NB552_565.out _; (with_reducible repeat (first | refine blk_drewN ?_ _ | refine blk_drew ?_ | refine blk_alloc ?_ _)); exact BK552.out) hb); have n4_ := Fa.mk (blk_below (g := gb556) (o := .cells #[.int .i64 t553, .int .i64 t554] 23 (0, 0)) (by (with_reducible repeat (first | refine blk_drewN ?_ _ | refine blk_drew ?_ | refine blk_alloc ?_ _)); refine blk_far ?_ NB556_565.out _; (with_reducible repeat (first | refine blk_drewN ?_ _ | refine blk_drew ?_ | refine blk_alloc ?_ _)); refine blk_far ?_ NB556_565.out _; (with_reducible repeat (first | refine blk_drewN ?_ _ | refine blk_drew ?_ | refine blk_alloc ?_ _)); exact BK556.out) hb); have n5_ := Fa.mk (blk_below (g := gb561) (o := .cells #[.int .i64 t559, .int .i64 1] 23 (0, 0)) (by (with_reducible repeat (first | refine blk_drewN ?_ _ | refine blk_drew ?_ | refine blk_alloc ?_ _)); refine blk_far ?_ NB561_565.out _; (with_reducible repeat (first | refine blk_drewN ?_ _ | refine blk_drew ?_ | refine blk_alloc ?_ _)); refine blk_far ?_ NB561_565.out _; (with_reducible repeat (first | refine blk_drewN ?_ _ | refine blk_drew ?_ | refine blk_alloc ?_ _)); exact BK561.out) hb); have n6_ := Fa.mk (blk_below (g := gb565) (o := .cells #[.int .i64 t562, .int .i64 t563] 23 (0, 0)) (by (with_reducible repeat (first | refine blk_drewN ?_ _ | refine blk_drew ?_ | refine blk_alloc ?_ _)); refine blk_put (cs := #[.int .i64 t562, .int .i64 0]) ?_ 1 _ rfl; (with_reducible repeat (first | refine blk_drewN ?_ _ | refine blk_drew ?_ | refine blk_alloc ?_ _)); refine blk_put (cs := #[.int .i64 0, .int .i64 0]) ?_ 0 _ rfl; (with_reducible repeat (first | refine blk_drewN ?_ _ | refine blk_drew ?_ | refine blk_alloc ?_ _)); exact BK565.out) hb); have n7_ := Fa.mk (bst w hb); clear BK534; clear BK535; clear BK536; clear BK552; clear BK556; clear BK561; clear BK565; clear HB; have BK534 := n0_; have BK535 := n1_; have BK536 := n2_; have BK552 := n3_; have BK556 := n4_; have BK561 := n5_; have BK565 := n6_; have HB := n7_; clear n0_ n1_ n2_ n3_ n4_ n5_ n6_ n7_; (try clear hb); (try clear hb2); (try clear hk); (try clear hi); have hcz206_0 : w205.cell? ⟨gb565, 0, none⟩ = some (.int .i64 t562) := (blk_cell BK565.out 0).trans rfl; have hcz206_1 : w205.cell? ⟨gb565, 1, none⟩ = some (.int .i64 t563) := (blk_cell BK565.out 1).trans rfl; have hfz206_0 := blk_frozen BK565.out 0; have hfz206_1 := blk_frozen BK565.out 1; have hcz207_0 : w205.cell? ⟨gb535, 0, none⟩ = some (.int .i64 a1_0) := (blk_cell BK535.out 0).trans rfl; have hcz207_1 : w205.cell? ⟨gb535, 1, none⟩ = some (.int .i64 a1_1) := (blk_cell BK535.out 1).trans rfl; have hfz207_0 := blk_frozen BK535.out 0; have hfz207_1 := blk_frozen BK535.out 1) | ((with_reducible refine gate_callee (f := 38) rfl ?_); refine goesA (some 172) rfl rfl Tryd.func38 (by kernel_rfl) rfl #[.agg #[.int .i64 t562, .int .i64 t563], .agg #[.int .i64 a1_0, .int .i64 a1_1]] rfl ?_; (with_reducible refine (num_Cmp.calls kj111 t562 t563 a1_0 a1_1 t568 t569 _ A144.out).mono ?_); rintro e w208 ⟨rfl, hb⟩; refine ⟨_, rfl, ?_⟩; have n0_ := Fa.mk (blk_below (g := gb534) (o := .cells #[.int .i64 a0_0, .int .i64 a0_1] 23 (0, 0)) fa hb); have n1_ := Fa.mk (blk_below (g := gb535) (o := .cells #[.int .i64 a1_0, .int .i64 a1_1] 23 (0, 0)) fa hb); have n2_ := Fa.mk (blk_below (g := gb536) (o := .cells #[.int .i64 a2_0, .int .i64 a2_1] 23 (0, 0)) fa hb); have n3_ := Fa.mk (blk_below (g := gb552) (o := .cells #[.int .i64 t549, .int .i64 t550] 23 (0, 0)) fa hb); have n4_ := Fa.mk (blk_below (g := gb556) (o := .cells #[.int .i64 t553, .int .i64 t554] 23 (0, 0)) fa hb); have n5_ := Fa.mk (blk_below (g := gb561) (o := .cells #[.int .i64 t559, .int .i64 1] 23 (0, 0)) fa hb); have n6_ := Fa.mk (blk_below (g := gb565) (o := .cells #[.int .i64 t562, .int .i64 t563] 23 (0, 0)) fa hb); have n7_ := Fa.mk (bst w hb); clear BK534; clear BK535; clear BK536; clear BK552; clear BK556; clear BK561; clear BK565; clear HB; have BK534 := n0_; have BK535 := n1_; have BK536 := n2_; have BK552 := n3_; have BK556 := n4_; have BK561 := n5_; have BK565 := n6_; have HB := n7_; clear n0_ n1_ n2_ n3_ n4_ n5_ n6_ n7_; (try clear hb); (try clear hb2); (try clear hk); (try clear hi); have hcz209_0 : w208.cell? ⟨gb535, 0, none⟩ = some (.int .i64 a1_0) := (blk_cell BK535.out 0).trans rfl; have hcz209_1 : w208.cell? ⟨gb535, 1, none⟩ = some (.int .i64 a1_1) := (blk_cell BK535.out 1).trans rfl; have hfz209_0 := blk_frozen BK535.out 0; have hfz209_1 := blk_frozen BK535.out 1; have hnb210 := NB561_536.out; have hnc210 := NB536_561.out; have hnb211 := NB561_552.out; have hnc211 := NB552_561.out; have hnb212 := NB561_556.out; have hnc212 := NB556_561.out; have hcz213_0 : w208.cell? ⟨gb561, 0, none⟩ = some (.int .i64 t559) := (blk_cell BK561.out 0).trans rfl; have hcz213_1 : w208.cell? ⟨gb561, 1, none⟩ = some (.int .i64 1) := (blk_cell BK561.out 1).trans rfl; have hfz213_0 := blk_frozen BK561.out 0; have hfz213_1 := blk_frozen BK561.out 1) | (go_at_call 17; (with_reducible refine (fleuronlaw01_awake.calls kj111  t571 _ A184.out (HG.out.below fa)).mono ?_); rintro e w214 ⟨rfl, hb⟩; have n0_ := Fa.mk (blk_below (g := gb534) (o := .cells #[.int .i64 a0_0, .int .i64 a0_1] 23 (0, 0)) fa hb); have n1_ := Fa.mk (blk_below (g := gb535) (o := .cells #[.int .i64 a1_0, .int .i64 a1_1] 23 (0, 0)) fa hb); have n2_ := Fa.mk (blk_below (g := gb536) (o := .cells #[.int .i64 a2_0, .int .i64 a2_1] 23 (0, 0)) fa hb); have n3_ := Fa.mk (blk_below (g := gb552) (o := .cells #[.int .i64 t549, .int .i64 t550] 23 (0, 0)) fa hb); have n4_ := Fa.mk (blk_below (g := gb556) (o := .cells #[.int .i64 t553, .int .i64 t554] 23 (0, 0)) fa hb); have n5_ := Fa.mk (blk_below (g := gb561) (o := .cells #[.int .i64 t559, .int .i64 1] 23 (0, 0)) fa hb); have n6_ := Fa.mk (blk_below (g := gb565) (o := .cells #[.int .i64 t562, .int .i64 t563] 23 (0, 0)) fa hb); have n7_ := Fa.mk (bst w hb); clear BK534; clear BK535; clear BK536; clear BK552; clear BK556; clear BK561; clear BK565; clear HB; have BK534 := n0_; have BK535 := n1_; have BK536 := n2_; have BK552 := n3_; have BK556 := n4_; have BK561 := n5_; have BK565 := n6_; have HB := n7_; clear n0_ n1_ n2_ n3_ n4_ n5_ n6_ n7_; (try clear hb); (try clear hb2); (try clear hk); (try clear hi)))
                                              go_ret
                                              exact ⟨by first | rfl | (simp [errW_none, errW_some] <;> rfl) | (simp [*, errW_none, errW_some] <;> rfl), fa⟩
                                            · rw [if_neg c183] at H
                                              exact absurd H (by simp)
                                    · rw [if_neg c145] at H
                                      have c145b0 : decide (0 < a1_0) = false := decide_eq_false c145
                                      clear c145
                                      by_cases c215 : a1_0 < 0
                                      · rw [if_pos c215] at H
                                        have c215b0 : decide (a1_0 < 0) = true := decide_eq_true c215
                                        clear c215
                                        by_cases c216 : t566 > 0
                                        · rw [if_pos c216] at H
                                          exact absurd H (by simp)
                                        · rw [if_neg c216] at H
                                          have c216b0 : decide (0 < t566) = false := decide_eq_false c216
                                          clear c216
                                          by_cases c217 : t568 ≤ 0
                                          · rw [if_pos c217] at H
                                            exact absurd H (by simp)
                                          · rw [if_neg c217] at H
                                            have c217b0 : decide (t568 ≤ 0) = false := decide_eq_false c217
                                            clear c217
                                            by_cases c218 : 1 = 1
                                            · rw [if_pos c218] at H
                                              have c218b0 : (1 == 1) = true := beq_iff_eq.mpr c218
                                              have c218b1 : (1 != 1) = false := bne_eq_false_iff_eq.mpr c218
                                              clear c218
                                              replace H := Option.bind_eq_some_iff.mp H
                                              obtain ⟨t572, A2190, H⟩ := H
                                              replace H : (some t572) = some r := H
                                              have A219 := Fa.mk A2190
                                              clear A2190
                                              obtain rfl := Option.some.inj H
                                              have hnb220 := NB534_535.out
                                              have hnc220 := NB535_534.out
                                              have hnb221 := NB534_536.out
                                              have hnc221 := NB536_534.out
                                              have hnb222 := NB534_552.out
                                              have hnc222 := NB552_534.out
                                              have hnb223 := NB534_556.out
                                              have hnc223 := NB556_534.out
                                              have hnb224 := NB534_561.out
                                              have hnc224 := NB561_534.out
                                              have hcz225_0 : wc.cell? ⟨gb534, 0, none⟩ = some (.int .i64 a0_0) := (blk_cell BK534.out 0).trans rfl
                                              have hcz225_1 : wc.cell? ⟨gb534, 1, none⟩ = some (.int .i64 a0_1) := (blk_cell BK534.out 1).trans rfl
                                              have hfz225_0 := blk_frozen BK534.out 0
                                              have hfz225_1 := blk_frozen BK534.out 1
                                              have hnb226 := NB535_536.out
                                              have hnc226 := NB536_535.out
                                              have hnb227 := NB535_552.out
                                              have hnc227 := NB552_535.out
                                              have hnb228 := NB535_556.out
                                              have hnc228 := NB556_535.out
                                              have hnb229 := NB535_561.out
                                              have hnc229 := NB561_535.out
                                              have hcz230_0 : wc.cell? ⟨gb535, 0, none⟩ = some (.int .i64 a1_0) := (blk_cell BK535.out 0).trans rfl
                                              have hcz230_1 : wc.cell? ⟨gb535, 1, none⟩ = some (.int .i64 a1_1) := (blk_cell BK535.out 1).trans rfl
                                              have hfz230_0 := blk_frozen BK535.out 0
                                              have hfz230_1 := blk_frozen BK535.out 1
                                              go_wp2_with (first | ((with_reducible refine gate_callee (f := 40) rfl ?_); refine goesA (some 158) rfl rfl Tryd.func40 (by kernel_rfl) rfl #[.agg #[.int .i64 a0_0, .int .i64 a0_1], .agg #[.int .i64 a1_0, .int .i64 a1_1]] rfl ?_; (with_reducible refine (num_Mod.calls kj111 a0_0 a0_1 a1_0 a1_1 t562 t563 t564 _ A141.out).mono ?_); rintro e w231 ⟨rfl, hb⟩; refine ⟨_, rfl, ?_⟩; have n0_ := Fa.mk (blk_below (g := gb534) (o := .cells #[.int .i64 a0_0, .int .i64 a0_1] 23 (0, 0)) fa hb); have n1_ := Fa.mk (blk_below (g := gb535) (o := .cells #[.int .i64 a1_0, .int .i64 a1_1] 23 (0, 0)) fa hb); have n2_ := Fa.mk (blk_below (g := gb536) (o := .cells #[.int .i64 a2_0, .int .i64 a2_1] 23 (0, 0)) fa hb); have n3_ := Fa.mk (blk_below (g := gb552) (o := .cells #[.int .i64 t549, .int .i64 t550] 23 (0, 0)) fa hb); have n4_ := Fa.mk (blk_below (g := gb556) (o := .cells #[.int .i64 t553, .int .i64 t554] 23 (0, 0)) fa hb); have n5_ := Fa.mk (blk_below (g := gb561) (o := .cells #[.int .i64 t559, .int .i64 1] 23 (0, 0)) fa hb); have n6_ := Fa.mk (bst w hb); clear BK534; clear BK535; clear BK536; clear BK552; clear BK556; clear BK561; clear HB; have BK534 := n0_; have BK535 := n1_; have BK536 := n2_; have BK552 := n3_; have BK556 := n4_; have BK561 := n5_; have HB := n6_; clear n0_ n1_ n2_ n3_ n4_ n5_ n6_; (try clear hb); (try clear hb2); (try clear hk); (try clear hi)) | ((with_reducible refine gate_dst (N := 24) rfl ?_); refine boxF (N := 24) (cs := #[.int .i64 0, .int .i64 0]) (t := 23) ?_; intro gb565 hg w232 hbox hb; have n0_ := Fa.mk (blk_below (g := gb534) (o := .cells #[.int .i64 a0_0, .int .i64 a0_1] 23 (0, 0)) fa hb); have n1_ := Fa.mk (blk_below (g := gb535) (o := .cells #[.int .i64 a1_0, .int .i64 a1_1] 23 (0, 0)) fa hb); have n2_ := Fa.mk (blk_below (g := gb536) (o := .cells #[.int .i64 a2_0, .int .i64 a2_1] 23 (0, 0)) fa hb); have n3_ := Fa.mk (blk_below (g := gb552) (o := .cells #[.int .i64 t549, .int .i64 t550] 23 (0, 0)) fa hb); have n4_ := Fa.mk (blk_below (g := gb556) (o := .cells #[.int .i64 t553, .int .i64 t554] 23 (0, 0)) fa hb); have n5_ := Fa.mk (blk_below (g := gb561) (o := .cells #[.int .i64 t559, .int .i64 1] 23 (0, 0)) fa hb); have n6_ := Fa.mk (bst w hb); have n7_ := Fa.mk (hbox); have n8_ := Fa.mk (gle hg : w.heap.size ≤ gb565); have n9_ := n8_; have n10_ := Fa.mk (gne (o := .cells #[.int .i64 a0_0, .int .i64 a0_1] 23 (0, 0)) hg : gb534 ≠ gb565); have n11_ := Fa.mk n10_.out.symm; have n12_ := Fa.mk (gne (o := .cells #[.int .i64 a1_0, .int .i64 a1_1] 23 (0, 0)) hg : gb535 ≠ gb565); have n13_ := Fa.mk n12_.out.symm; have n14_ := Fa.mk (gne (o := .cells #[.int .i64 a2_0, .int .i64 a2_1] 23 (0, 0)) hg : gb536 ≠ gb565); have n15_ := Fa.mk n14_.out.symm; have n16_ := Fa.mk (gne (o := .cells #[.int .i64 t549, .int .i64 t550] 23 (0, 0)) hg : gb552 ≠ gb565); have n17_ := Fa.mk n16_.out.symm; have n18_ := Fa.mk (gne (o := .cells #[.int .i64 t553, .int .i64 t554] 23 (0, 0)) hg : gb556 ≠ gb565); have n19_ := Fa.mk n18_.out.symm; have n20_ := Fa.mk (gne (o := .cells #[.int .i64 t559, .int .i64 1] 23 (0, 0)) hg : gb561 ≠ gb565); have n21_ := Fa.mk n20_.out.symm; clear BK534; clear BK535; clear BK536; clear BK552; clear BK556; clear BK561; clear HB; have BK534 := n0_; have BK535 := n1_; have BK536 := n2_; have BK552 := n3_; have BK556 := n4_; have BK561 := n5_; have HB := n6_; have BK565 := n7_; have GW565 := n8_; have GE565 := n9_; have NB534_565 := n10_; have NB565_534 := n11_; have NB535_565 := n12_; have NB565_535 := n13_; have NB536_565 := n14_; have NB565_536 := n15_; have NB552_565 := n16_; have NB565_552 := n17_; have NB556_565 := n18_; have NB565_556 := n19_; have NB561_565 := n20_; have NB565_561 := n21_; clear n0_ n1_ n2_ n3_ n4_ n5_ n6_ n7_ n8_ n9_ n10_ n11_ n12_ n13_ n14_ n15_ n16_ n17_ n18_ n19_ n20_ n21_; clear hb hbox hg; have hnb233 := NB565_534.out; have hnc233 := NB534_565.out; have hnb234 := NB565_535.out; have hnc234 := NB535_565.out; have hnb235 := NB565_536.out; have hnc235 := NB536_565.out; have hnb236 := NB565_552.out; have hnc236 := NB552_565.out; have hnb237 := NB565_556.out; have hnc237 := NB556_565.out; have hnb238 := NB565_561.out; have hnc238 := NB561_565.out; have hcz239_0 : w232.cell? ⟨gb565, 0, none⟩ = some (.int .i64 0) := (blk_cell BK565.out 0).trans rfl; have hcz239_1 : w232.cell? ⟨gb565, 1, none⟩ = some (.int .i64 0) := (blk_cell BK565.out 1).trans rfl; have hfz239_0 := blk_frozen BK565.out 0; have hfz239_1 := blk_frozen BK565.out 1) | ((with_reducible refine gate_callee (f := 38) rfl ?_); refine goesA (some 166) rfl rfl Tryd.func38 (by kernel_rfl) rfl #[.agg #[.int .i64 t562, .int .i64 t563], .agg #[.int .i64 0, .int .i64 1]] rfl ?_; (with_reducible refine (num_Cmp.calls kj111 t562 t563 0 1 t566 t567 _ A143.out).mono ?_); rintro e w240 ⟨rfl, hb⟩; refine ⟨_, rfl, ?_⟩; have n0_ := Fa.mk (blk_below (g := gb534) (o := .cells #[.int .i64 a0_0, .int .i64 a0_1] 23 (0, 0)) (by (with_reducible repeat (first | refine blk_drewN ?_ _ | refine blk_drew ?_ | refine blk_alloc ?_ _)); refine blk_far ?_ NB534_565.out _; (with_reducible repeat (first | refine blk_drewN ?_ _ | refine blk_drew ?_ | refine blk_alloc ?_ _)); refine blk_far ?_ NB534_565.out _; (with_reducible repeat (first | refine blk_drewN ?_ _ | refine blk_drew ?_ | refine blk_alloc ?_ _)); exact BK534.out) hb); have n1_ := Fa.mk (blk_below (g := gb535) (o := .cells #[.int .i64 a1_0, .int .i64 a1_1] 23 (0, 0)) (by (with_reducible repeat (first | refine blk_drewN ?_ _ | refine blk_drew ?_ | refine blk_alloc ?_ _)); refine blk_far ?_ NB535_565.out _; (with_reducible repeat (first | refine blk_drewN ?_ _ | refine blk_drew ?_ | refine blk_alloc ?_ _)); refine blk_far ?_ NB535_565.out _; (with_reducible repeat (first | refine blk_drewN ?_ _ | refine blk_drew ?_ | refine blk_alloc ?_ _)); exact BK535.out) hb); have n2_ := Fa.mk (blk_below (g := gb536) (o := .cells #[.int .i64 a2_0, .int .i64 a2_1] 23 (0, 0)) (by (with_reducible repeat (first | refine blk_drewN ?_ _ | refine blk_drew ?_ | refine blk_alloc ?_ _)); refine blk_far ?_ NB536_565.out _; (with_reducible repeat (first | refine blk_drewN ?_ _ | refine blk_drew ?_ | refine blk_alloc ?_ _)); refine blk_far ?_ NB536_565.out _; (with_reducible repeat (first | refine blk_drewN ?_ _ | refine blk_drew ?_ | refine blk_alloc ?_ _)); exact BK536.out) hb); have n3_ := Fa.mk (blk_below (g := gb552) (o := .cells #[.int .i64 t549, .int .i64 t550] 23 (0, 0)) (by (with_reducible repeat (first | refine blk_drewN ?_ _ | refine blk_drew ?_ | refine blk_alloc ?_ _)); refine blk_far ?_ NB552_565.out _; (with_reducible repeat (first | refine blk_drewN ?_ _ | refine blk_drew ?_ | refine blk_alloc ?_ _)); refine blk_far ?_ NB552_565.out _; (with_reducible repeat (first | refine blk_drewN ?_ _ | refine blk_drew ?_ | refine blk_alloc ?_ _)); exact BK552.out) hb); have n4_ := Fa.mk (blk_below (g := gb556) (o := .cells #[.int .i64 t553, .int .i64 t554] 23 (0, 0)) (by (with_reducible repeat (first | refine blk_drewN ?_ _ | refine blk_drew ?_ | refine blk_alloc ?_ _)); refine blk_far ?_ NB556_565.out _; (with_reducible repeat (first | refine blk_drewN ?_ _ | refine blk_drew ?_ | refine blk_alloc ?_ _)); refine blk_far ?_ NB556_565.out _; (with_reducible repeat (first | refine blk_drewN ?_ _ | refine blk_drew ?_ | refine blk_alloc ?_ _)); exact BK556.out) hb); have n5_ := Fa.mk (blk_below (g := gb561) (o := .cells #[.int .i64 t559, .int .i64 1] 23 (0, 0)) (by (with_reducible repeat (first | refine blk_drewN ?_ _ | refine blk_drew ?_ | refine blk_alloc ?_ _)); refine blk_far ?_ NB561_565.out _; (with_reducible repeat (first | refine blk_drewN ?_ _ | refine blk_drew ?_ | refine blk_alloc ?_ _)); refine blk_far ?_ NB561_565.out _; (with_reducible repeat (first | refine blk_drewN ?_ _ | refine blk_drew ?_ | refine blk_alloc ?_ _)); exact BK561.out) hb); have n6_ := Fa.mk (blk_below (g := gb565) (o := .cells #[.int .i64 t562, .int .i64 t563] 23 (0, 0)) (by (with_reducible repeat (first | refine blk_drewN ?_ _ | refine blk_drew ?_ | refine blk_alloc ?_ _)); refine blk_put (cs := #[.int .i64 t562, .int .i64 0]) ?_ 1 _ rfl; (with_reducible repeat (first | refine blk_drewN ?_ _ | refine blk_drew ?_ | refine blk_alloc ?_ _)); refine blk_put (cs := #[.int .i64 0, .int .i64 0]) ?_ 0 _ rfl; (with_reducible repeat (first | refine blk_drewN ?_ _ | refine blk_drew ?_ | refine blk_alloc ?_ _)); exact BK565.out) hb); have n7_ := Fa.mk (bst w hb); clear BK534; clear BK535; clear BK536; clear BK552; clear BK556; clear BK561; clear BK565; clear HB; have BK534 := n0_; have BK535 := n1_; have BK536 := n2_; have BK552 := n3_; have BK556 := n4_; have BK561 := n5_; have BK565 := n6_; have HB := n7_; clear n0_ n1_ n2_ n3_ n4_ n5_ n6_ n7_; (try clear hb); (try clear hb2); (try clear hk); (try clear hi); have hcz241_0 : w240.cell? ⟨gb565, 0, none⟩ = some (.int .i64 t562) := (blk_cell BK565.out 0).trans rfl; have hcz241_1 : w240.cell? ⟨gb565, 1, none⟩ = some (.int .i64 t563) := (blk_cell BK565.out 1).trans rfl; have hfz241_0 := blk_frozen BK565.out 0; have hfz241_1 := blk_frozen BK565.out 1; have hcz242_0 : w240.cell? ⟨gb535, 0, none⟩ = some (.int .i64 a1_0) := (blk_cell BK535.out 0).trans rfl; have hcz242_1 : w240.cell? ⟨gb535, 1, none⟩ = some (.int .i64 a1_1) := (blk_cell BK535.out 1).trans rfl; have hfz242_0 := blk_frozen BK535.out 0; have hfz242_1 := blk_frozen BK535.out 1) | ((with_reducible refine gate_callee (f := 38) rfl ?_); refine goesA (some 172) rfl rfl Tryd.func38 (by kernel_rfl) rfl #[.agg #[.int .i64 t562, .int .i64 t563], .agg #[.int .i64 a1_0, .int .i64 a1_1]] rfl ?_; (with_reducible refine (num_Cmp.calls kj111 t562 t563 a1_0 a1_1 t568 t569 _ A144.out).mono ?_); rintro e w243 ⟨rfl, hb⟩; refine ⟨_, rfl, ?_⟩; have n0_ := Fa.mk (blk_below (g := gb534) (o := .cells #[.int .i64 a0_0, .int .i64 a0_1] 23 (0, 0)) fa hb); have n1_ := Fa.mk (blk_below (g := gb535) (o := .cells #[.int .i64 a1_0, .int .i64 a1_1] 23 (0, 0)) fa hb); have n2_ := Fa.mk (blk_below (g := gb536) (o := .cells #[.int .i64 a2_0, .int .i64 a2_1] 23 (0, 0)) fa hb); have n3_ := Fa.mk (blk_below (g := gb552) (o := .cells #[.int .i64 t549, .int .i64 t550] 23 (0, 0)) fa hb); have n4_ := Fa.mk (blk_below (g := gb556) (o := .cells #[.int .i64 t553, .int .i64 t554] 23 (0, 0)) fa hb); have n5_ := Fa.mk (blk_below (g := gb561) (o := .cells #[.int .i64 t559, .int .i64 1] 23 (0, 0)) fa hb); have n6_ := Fa.mk (blk_below (g := gb565) (o := .cells #[.int .i64 t562, .int .i64 t563] 23 (0, 0)) fa hb); have n7_ := Fa.mk (bst w hb); clear BK534; clear BK535; clear BK536; clear BK552; clear BK556; clear BK561; clear BK565; clear HB; have BK534 := n0_; have BK535 := n1_; have BK536 := n2_; have BK552 := n3_; have BK556 := n4_; have BK561 := n5_; have BK565 := n6_; have HB := n7_; clear n0_ n1_ n2_ n3_ n4_ n5_ n6_ n7_; (try clear hb); (try clear hb2); (try clear hk); (try clear hi); have hcz244_0 : w243.cell? ⟨gb535, 0, none⟩ = some (.int .i64 a1_0) := (blk_cell BK535.out 0).trans rfl; have hcz244_1 : w243.cell? ⟨gb535, 1, none⟩ = some (.int .i64 a1_1) := (blk_cell BK535.out 1).trans rfl; have hfz244_0 := blk_frozen BK535.out 0; have hfz244_1 := blk_frozen BK535.out 1; have hnb245 := NB561_536.out; have hnc245 := NB536_561.out; have hnb246 := NB561_552.out; have hnc246 := NB552_561.out; have hnb247 := NB561_556.out; have hnc247 := NB556_561.out; have hcz248_0 : w243.cell? ⟨gb561, 0, none⟩ = some (.int .i64 t559) := (blk_cell BK561.out 0).trans rfl; have hcz248_1 : w243.cell? ⟨gb561, 1, none⟩ = some (.int .i64 1) := (blk_cell BK561.out 1).trans rfl; have hfz248_0 := blk_frozen BK561.out 0; have hfz248_1 := blk_frozen BK561.out 1) | (go_at_call 17; (with_reducible refine (fleuronlaw01_awake.calls kj111  t572 _ A219.out (HG.out.below fa)).mono ?_); rintro e w249 ⟨rfl, hb⟩; have n0_ := Fa.mk (blk_below (g := gb534) (o := .cells #[.int .i64 a0_0, .int .i64 a0_1] 23 (0, 0)) fa hb); have n1_ := Fa.mk (blk_below (g := gb535) (o := .cells #[.int .i64 a1_0, .int .i64 a1_1] 23 (0, 0)) fa hb); have n2_ := Fa.mk (blk_below (g := gb536) (o := .cells #[.int .i64 a2_0, .int .i64 a2_1] 23 (0, 0)) fa hb); have n3_ := Fa.mk (blk_below (g := gb552) (o := .cells #[.int .i64 t549, .int .i64 t550] 23 (0, 0)) fa hb); have n4_ := Fa.mk (blk_below (g := gb556) (o := .cells #[.int .i64 t553, .int .i64 t554] 23 (0, 0)) fa hb); have n5_ := Fa.mk (blk_below (g := gb561) (o := .cells #[.int .i64 t559, .int .i64 1] 23 (0, 0)) fa hb); have n6_ := Fa.mk (blk_below (g := gb565) (o := .cells #[.int .i64 t562, .int .i64 t563] 23 (0, 0)) fa hb); have n7_ := Fa.mk (bst w hb); clear BK534; clear BK535; clear BK536; clear BK552; clear BK556; clear BK561; clear BK565; clear HB; have BK534 := n0_; have BK535 := n1_; have BK536 := n2_; have BK552 := n3_; have BK556 := n4_; have BK561 := n5_; have BK565 := n6_; have HB := n7_; clear n0_ n1_ n2_ n3_ n4_ n5_ n6_ n7_; (try clear hb); (try clear hb2); (try clear hk); (try clear hi)))
                                              go_ret
                                              exact ⟨by first | rfl | (simp [errW_none, errW_some] <;> rfl) | (simp [*, errW_none, errW_some] <;> rfl), fa⟩
                                            · rw [if_neg c218] at H
                                              exact absurd H (by simp)
                                      · rw [if_neg c215] at H
                                        have c215b0 : decide (a1_0 < 0) = false := decide_eq_false c215
                                        clear c215
                                        by_cases c250 : 1 = 1
                                        · rw [if_pos c250] at H
                                          have c250b0 : (1 == 1) = true := beq_iff_eq.mpr c250
                                          have c250b1 : (1 != 1) = false := bne_eq_false_iff_eq.mpr c250
                                          clear c250
                                          replace H := Option.bind_eq_some_iff.mp H
                                          obtain ⟨t573, A2510, H⟩ := H
                                          replace H : (some t573) = some r := H
                                          have A251 := Fa.mk A2510
                                          clear A2510
                                          obtain rfl := Option.some.inj H
                                          have hnb252 := NB534_535.out
                                          have hnc252 := NB535_534.out
                                          have hnb253 := NB534_536.out
                                          have hnc253 := NB536_534.out
                                          have hnb254 := NB534_552.out
                                          have hnc254 := NB552_534.out
                                          have hnb255 := NB534_556.out
                                          have hnc255 := NB556_534.out
                                          have hnb256 := NB534_561.out
                                          have hnc256 := NB561_534.out
                                          have hcz257_0 : wc.cell? ⟨gb534, 0, none⟩ = some (.int .i64 a0_0) := (blk_cell BK534.out 0).trans rfl
                                          have hcz257_1 : wc.cell? ⟨gb534, 1, none⟩ = some (.int .i64 a0_1) := (blk_cell BK534.out 1).trans rfl
                                          have hfz257_0 := blk_frozen BK534.out 0
                                          have hfz257_1 := blk_frozen BK534.out 1
                                          have hnb258 := NB535_536.out
                                          have hnc258 := NB536_535.out
                                          have hnb259 := NB535_552.out
                                          have hnc259 := NB552_535.out
                                          have hnb260 := NB535_556.out
                                          have hnc260 := NB556_535.out
                                          have hnb261 := NB535_561.out
                                          have hnc261 := NB561_535.out
                                          have hcz262_0 : wc.cell? ⟨gb535, 0, none⟩ = some (.int .i64 a1_0) := (blk_cell BK535.out 0).trans rfl
                                          have hcz262_1 : wc.cell? ⟨gb535, 1, none⟩ = some (.int .i64 a1_1) := (blk_cell BK535.out 1).trans rfl
                                          have hfz262_0 := blk_frozen BK535.out 0
                                          have hfz262_1 := blk_frozen BK535.out 1
                                          go_wp2_with (first | ((with_reducible refine gate_callee (f := 40) rfl ?_); refine goesA (some 158) rfl rfl Tryd.func40 (by kernel_rfl) rfl #[.agg #[.int .i64 a0_0, .int .i64 a0_1], .agg #[.int .i64 a1_0, .int .i64 a1_1]] rfl ?_; (with_reducible refine (num_Mod.calls kj111 a0_0 a0_1 a1_0 a1_1 t562 t563 t564 _ A141.out).mono ?_); rintro e w263 ⟨rfl, hb⟩; refine ⟨_, rfl, ?_⟩; have n0_ := Fa.mk (blk_below (g := gb534) (o := .cells #[.int .i64 a0_0, .int .i64 a0_1] 23 (0, 0)) fa hb); have n1_ := Fa.mk (blk_below (g := gb535) (o := .cells #[.int .i64 a1_0, .int .i64 a1_1] 23 (0, 0)) fa hb); have n2_ := Fa.mk (blk_below (g := gb536) (o := .cells #[.int .i64 a2_0, .int .i64 a2_1] 23 (0, 0)) fa hb); have n3_ := Fa.mk (blk_below (g := gb552) (o := .cells #[.int .i64 t549, .int .i64 t550] 23 (0, 0)) fa hb); have n4_ := Fa.mk (blk_below (g := gb556) (o := .cells #[.int .i64 t553, .int .i64 t554] 23 (0, 0)) fa hb); have n5_ := Fa.mk (blk_below (g := gb561) (o := .cells #[.int .i64 t559, .int .i64 1] 23 (0, 0)) fa hb); have n6_ := Fa.mk (bst w hb); clear BK534; clear BK535; clear BK536; clear BK552; clear BK556; clear BK561; clear HB; have BK534 := n0_; have BK535 := n1_; have BK536 := n2_; have BK552 := n3_; have BK556 := n4_; have BK561 := n5_; have HB := n6_; clear n0_ n1_ n2_ n3_ n4_ n5_ n6_; (try clear hb); (try clear hb2); (try clear hk); (try clear hi)) | ((with_reducible refine gate_dst (N := 24) rfl ?_); refine boxF (N := 24) (cs := #[.int .i64 0, .int .i64 0]) (t := 23) ?_; intro gb565 hg w264 hbox hb; have n0_ := Fa.mk (blk_below (g := gb534) (o := .cells #[.int .i64 a0_0, .int .i64 a0_1] 23 (0, 0)) fa hb); have n1_ := Fa.mk (blk_below (g := gb535) (o := .cells #[.int .i64 a1_0, .int .i64 a1_1] 23 (0, 0)) fa hb); have n2_ := Fa.mk (blk_below (g := gb536) (o := .cells #[.int .i64 a2_0, .int .i64 a2_1] 23 (0, 0)) fa hb); have n3_ := Fa.mk (blk_below (g := gb552) (o := .cells #[.int .i64 t549, .int .i64 t550] 23 (0, 0)) fa hb); have n4_ := Fa.mk (blk_below (g := gb556) (o := .cells #[.int .i64 t553, .int .i64 t554] 23 (0, 0)) fa hb); have n5_ := Fa.mk (blk_below (g := gb561) (o := .cells #[.int .i64 t559, .int .i64 1] 23 (0, 0)) fa hb); have n6_ := Fa.mk (bst w hb); have n7_ := Fa.mk (hbox); have n8_ := Fa.mk (gle hg : w.heap.size ≤ gb565); have n9_ := n8_; have n10_ := Fa.mk (gne (o := .cells #[.int .i64 a0_0, .int .i64 a0_1] 23 (0, 0)) hg : gb534 ≠ gb565); have n11_ := Fa.mk n10_.out.symm; have n12_ := Fa.mk (gne (o := .cells #[.int .i64 a1_0, .int .i64 a1_1] 23 (0, 0)) hg : gb535 ≠ gb565); have n13_ := Fa.mk n12_.out.symm; have n14_ := Fa.mk (gne (o := .cells #[.int .i64 a2_0, .int .i64 a2_1] 23 (0, 0)) hg : gb536 ≠ gb565); have n15_ := Fa.mk n14_.out.symm; have n16_ := Fa.mk (gne (o := .cells #[.int .i64 t549, .int .i64 t550] 23 (0, 0)) hg : gb552 ≠ gb565); have n17_ := Fa.mk n16_.out.symm; have n18_ := Fa.mk (gne (o := .cells #[.int .i64 t553, .int .i64 t554] 23 (0, 0)) hg : gb556 ≠ gb565); have n19_ := Fa.mk n18_.out.symm; have n20_ := Fa.mk (gne (o := .cells #[.int .i64 t559, .int .i64 1] 23 (0, 0)) hg : gb561 ≠ gb565); have n21_ := Fa.mk n20_.out.symm; clear BK534; clear BK535; clear BK536; clear BK552; clear BK556; clear BK561; clear HB; have BK534 := n0_; have BK535 := n1_; have BK536 := n2_; have BK552 := n3_; have BK556 := n4_; have BK561 := n5_; have HB := n6_; have BK565 := n7_; have GW565 := n8_; have GE565 := n9_; have NB534_565 := n10_; have NB565_534 := n11_; have NB535_565 := n12_; have NB565_535 := n13_; have NB536_565 := n14_; have NB565_536 := n15_; have NB552_565 := n16_; have NB565_552 := n17_; have NB556_565 := n18_; have NB565_556 := n19_; have NB561_565 := n20_; have NB565_561 := n21_; clear n0_ n1_ n2_ n3_ n4_ n5_ n6_ n7_ n8_ n9_ n10_ n11_ n12_ n13_ n14_ n15_ n16_ n17_ n18_ n19_ n20_ n21_; clear hb hbox hg; have hnb265 := NB565_534.out; have hnc265 := NB534_565.out; have hnb266 := NB565_535.out; have hnc266 := NB535_565.out; have hnb267 := NB565_536.out; have hnc267 := NB536_565.out; have hnb268 := NB565_552.out; have hnc268 := NB552_565.out; have hnb269 := NB565_556.out; have hnc269 := NB556_565.out; have hnb270 := NB565_561.out; have hnc270 := NB561_565.out; have hcz271_0 : w264.cell? ⟨gb565, 0, none⟩ = some (.int .i64 0) := (blk_cell BK565.out 0).trans rfl; have hcz271_1 : w264.cell? ⟨gb565, 1, none⟩ = some (.int .i64 0) := (blk_cell BK565.out 1).trans rfl; have hfz271_0 := blk_frozen BK565.out 0; have hfz271_1 := blk_frozen BK565.out 1) | ((with_reducible refine gate_callee (f := 38) rfl ?_); refine goesA (some 166) rfl rfl Tryd.func38 (by kernel_rfl) rfl #[.agg #[.int .i64 t562, .int .i64 t563], .agg #[.int .i64 0, .int .i64 1]] rfl ?_; (with_reducible refine (num_Cmp.calls kj111 t562 t563 0 1 t566 t567 _ A143.out).mono ?_); rintro e w272 ⟨rfl, hb⟩; refine ⟨_, rfl, ?_⟩; have n0_ := Fa.mk (blk_below (g := gb534) (o := .cells #[.int .i64 a0_0, .int .i64 a0_1] 23 (0, 0)) (by (with_reducible repeat (first | refine blk_drewN ?_ _ | refine blk_drew ?_ | refine blk_alloc ?_ _)); refine blk_far ?_ NB534_565.out _; (with_reducible repeat (first | refine blk_drewN ?_ _ | refine blk_drew ?_ | refine blk_alloc ?_ _)); refine blk_far ?_ NB534_565.out _; (with_reducible repeat (first | refine blk_drewN ?_ _ | refine blk_drew ?_ | refine blk_alloc ?_ _)); exact BK534.out) hb); have n1_ := Fa.mk (blk_below (g := gb535) (o := .cells #[.int .i64 a1_0, .int .i64 a1_1] 23 (0, 0)) (by (with_reducible repeat (first | refine blk_drewN ?_ _ | refine blk_drew ?_ | refine blk_alloc ?_ _)); refine blk_far ?_ NB535_565.out _; (with_reducible repeat (first | refine blk_drewN ?_ _ | refine blk_drew ?_ | refine blk_alloc ?_ _)); refine blk_far ?_ NB535_565.out _; (with_reducible repeat (first | refine blk_drewN ?_ _ | refine blk_drew ?_ | refine blk_alloc ?_ _)); exact BK535.out) hb); have n2_ := Fa.mk (blk_below (g := gb536) (o := .cells #[.int .i64 a2_0, .int .i64 a2_1] 23 (0, 0)) (by (with_reducible repeat (first | refine blk_drewN ?_ _ | refine blk_drew ?_ | refine blk_alloc ?_ _)); refine blk_far ?_ NB536_565.out _; (with_reducible repeat (first | refine blk_drewN ?_ _ | refine blk_drew ?_ | refine blk_alloc ?_ _)); refine blk_far ?_ NB536_565.out _; (with_reducible repeat (first | refine blk_drewN ?_ _ | refine blk_drew ?_ | refine blk_alloc ?_ _)); exact BK536.out) hb); have n3_ := Fa.mk (blk_below (g := gb552) (o := .cells #[.int .i64 t549, .int .i64 t550] 23 (0, 0)) (by (with_reducible repeat (first | refine blk_drewN ?_ _ | refine blk_drew ?_ | refine blk_alloc ?_ _)); refine blk_far ?_ NB552_565.out _; (with_reducible repeat (first | refine blk_drewN ?_ _ | refine blk_drew ?_ | refine blk_alloc ?_ _)); refine blk_far ?_ NB552_565.out _; (with_reducible repeat (first | refine blk_drewN ?_ _ | refine blk_drew ?_ | refine blk_alloc ?_ _)); exact BK552.out) hb); have n4_ := Fa.mk (blk_below (g := gb556) (o := .cells #[.int .i64 t553, .int .i64 t554] 23 (0, 0)) (by (with_reducible repeat (first | refine blk_drewN ?_ _ | refine blk_drew ?_ | refine blk_alloc ?_ _)); refine blk_far ?_ NB556_565.out _; (with_reducible repeat (first | refine blk_drewN ?_ _ | refine blk_drew ?_ | refine blk_alloc ?_ _)); refine blk_far ?_ NB556_565.out _; (with_reducible repeat (first | refine blk_drewN ?_ _ | refine blk_drew ?_ | refine blk_alloc ?_ _)); exact BK556.out) hb); have n5_ := Fa.mk (blk_below (g := gb561) (o := .cells #[.int .i64 t559, .int .i64 1] 23 (0, 0)) (by (with_reducible repeat (first | refine blk_drewN ?_ _ | refine blk_drew ?_ | refine blk_alloc ?_ _)); refine blk_far ?_ NB561_565.out _; (with_reducible repeat (first | refine blk_drewN ?_ _ | refine blk_drew ?_ | refine blk_alloc ?_ _)); refine blk_far ?_ NB561_565.out _; (with_reducible repeat (first | refine blk_drewN ?_ _ | refine blk_drew ?_ | refine blk_alloc ?_ _)); exact BK561.out) hb); have n6_ := Fa.mk (blk_below (g := gb565) (o := .cells #[.int .i64 t562, .int .i64 t563] 23 (0, 0)) (by (with_reducible repeat (first | refine blk_drewN ?_ _ | refine blk_drew ?_ | refine blk_alloc ?_ _)); refine blk_put (cs := #[.int .i64 t562, .int .i64 0]) ?_ 1 _ rfl; (with_reducible repeat (first | refine blk_drewN ?_ _ | refine blk_drew ?_ | refine blk_alloc ?_ _)); refine blk_put (cs := #[.int .i64 0, .int .i64 0]) ?_ 0 _ rfl; (with_reducible repeat (first | refine blk_drewN ?_ _ | refine blk_drew ?_ | refine blk_alloc ?_ _)); exact BK565.out) hb); have n7_ := Fa.mk (bst w hb); clear BK534; clear BK535; clear BK536; clear BK552; clear BK556; clear BK561; clear BK565; clear HB; have BK534 := n0_; have BK535 := n1_; have BK536 := n2_; have BK552 := n3_; have BK556 := n4_; have BK561 := n5_; have BK565 := n6_; have HB := n7_; clear n0_ n1_ n2_ n3_ n4_ n5_ n6_ n7_; (try clear hb); (try clear hb2); (try clear hk); (try clear hi); have hcz273_0 : w272.cell? ⟨gb565, 0, none⟩ = some (.int .i64 t562) := (blk_cell BK565.out 0).trans rfl; have hcz273_1 : w272.cell? ⟨gb565, 1, none⟩ = some (.int .i64 t563) := (blk_cell BK565.out 1).trans rfl; have hfz273_0 := blk_frozen BK565.out 0; have hfz273_1 := blk_frozen BK565.out 1; have hcz274_0 : w272.cell? ⟨gb535, 0, none⟩ = some (.int .i64 a1_0) := (blk_cell BK535.out 0).trans rfl; have hcz274_1 : w272.cell? ⟨gb535, 1, none⟩ = some (.int .i64 a1_1) := (blk_cell BK535.out 1).trans rfl; have hfz274_0 := blk_frozen BK535.out 0; have hfz274_1 := blk_frozen BK535.out 1) | ((with_reducible refine gate_callee (f := 38) rfl ?_); refine goesA (some 172) rfl rfl Tryd.func38 (by kernel_rfl) rfl #[.agg #[.int .i64 t562, .int .i64 t563], .agg #[.int .i64 a1_0, .int .i64 a1_1]] rfl ?_; (with_reducible refine (num_Cmp.calls kj111 t562 t563 a1_0 a1_1 t568 t569 _ A144.out).mono ?_); rintro e w275 ⟨rfl, hb⟩; refine ⟨_, rfl, ?_⟩; have n0_ := Fa.mk (blk_below (g := gb534) (o := .cells #[.int .i64 a0_0, .int .i64 a0_1] 23 (0, 0)) fa hb); have n1_ := Fa.mk (blk_below (g := gb535) (o := .cells #[.int .i64 a1_0, .int .i64 a1_1] 23 (0, 0)) fa hb); have n2_ := Fa.mk (blk_below (g := gb536) (o := .cells #[.int .i64 a2_0, .int .i64 a2_1] 23 (0, 0)) fa hb); have n3_ := Fa.mk (blk_below (g := gb552) (o := .cells #[.int .i64 t549, .int .i64 t550] 23 (0, 0)) fa hb); have n4_ := Fa.mk (blk_below (g := gb556) (o := .cells #[.int .i64 t553, .int .i64 t554] 23 (0, 0)) fa hb); have n5_ := Fa.mk (blk_below (g := gb561) (o := .cells #[.int .i64 t559, .int .i64 1] 23 (0, 0)) fa hb); have n6_ := Fa.mk (blk_below (g := gb565) (o := .cells #[.int .i64 t562, .int .i64 t563] 23 (0, 0)) fa hb); have n7_ := Fa.mk (bst w hb); clear BK534; clear BK535; clear BK536; clear BK552; clear BK556; clear BK561; clear BK565; clear HB; have BK534 := n0_; have BK535 := n1_; have BK536 := n2_; have BK552 := n3_; have BK556 := n4_; have BK561 := n5_; have BK565 := n6_; have HB := n7_; clear n0_ n1_ n2_ n3_ n4_ n5_ n6_ n7_; (try clear hb); (try clear hb2); (try clear hk); (try clear hi); have hcz276_0 : w275.cell? ⟨gb535, 0, none⟩ = some (.int .i64 a1_0) := (blk_cell BK535.out 0).trans rfl; have hcz276_1 : w275.cell? ⟨gb535, 1, none⟩ = some (.int .i64 a1_1) := (blk_cell BK535.out 1).trans rfl; have hfz276_0 := blk_frozen BK535.out 0; have hfz276_1 := blk_frozen BK535.out 1; have hnb277 := NB561_536.out; have hnc277 := NB536_561.out; have hnb278 := NB561_552.out; have hnc278 := NB552_561.out; have hnb279 := NB561_556.out; have hnc279 := NB556_561.out; have hcz280_0 : w275.cell? ⟨gb561, 0, none⟩ = some (.int .i64 t559) := (blk_cell BK561.out 0).trans rfl; have hcz280_1 : w275.cell? ⟨gb561, 1, none⟩ = some (.int .i64 1) := (blk_cell BK561.out 1).trans rfl; have hfz280_0 := blk_frozen BK561.out 0; have hfz280_1 := blk_frozen BK561.out 1) | (go_at_call 17; (with_reducible refine (fleuronlaw01_awake.calls kj111  t573 _ A251.out (HG.out.below fa)).mono ?_); rintro e w281 ⟨rfl, hb⟩; have n0_ := Fa.mk (blk_below (g := gb534) (o := .cells #[.int .i64 a0_0, .int .i64 a0_1] 23 (0, 0)) fa hb); have n1_ := Fa.mk (blk_below (g := gb535) (o := .cells #[.int .i64 a1_0, .int .i64 a1_1] 23 (0, 0)) fa hb); have n2_ := Fa.mk (blk_below (g := gb536) (o := .cells #[.int .i64 a2_0, .int .i64 a2_1] 23 (0, 0)) fa hb); have n3_ := Fa.mk (blk_below (g := gb552) (o := .cells #[.int .i64 t549, .int .i64 t550] 23 (0, 0)) fa hb); have n4_ := Fa.mk (blk_below (g := gb556) (o := .cells #[.int .i64 t553, .int .i64 t554] 23 (0, 0)) fa hb); have n5_ := Fa.mk (blk_below (g := gb561) (o := .cells #[.int .i64 t559, .int .i64 1] 23 (0, 0)) fa hb); have n6_ := Fa.mk (blk_below (g := gb565) (o := .cells #[.int .i64 t562, .int .i64 t563] 23 (0, 0)) fa hb); have n7_ := Fa.mk (bst w hb); clear BK534; clear BK535; clear BK536; clear BK552; clear BK556; clear BK561; clear BK565; clear HB; have BK534 := n0_; have BK535 := n1_; have BK536 := n2_; have BK552 := n3_; have BK556 := n4_; have BK561 := n5_; have BK565 := n6_; have HB := n7_; clear n0_ n1_ n2_ n3_ n4_ n5_ n6_ n7_; (try clear hb); (try clear hb2); (try clear hk); (try clear hi)))
                                          go_ret
                                          exact ⟨by first | rfl | (simp [errW_none, errW_some] <;> rfl) | (simp [*, errW_none, errW_some] <;> rfl), fa⟩
                                        · rw [if_neg c250] at H
                                          exact absurd H (by simp)
                                  · rw [if_neg c142] at H
                                    have c142b0 : (t564 == 0) = false := beq_eq_false_iff_ne.mpr c142
                                    have c142b1 : (t564 != 0) = true := bne_iff_ne.mpr c142
                                    by_cases c282 : 1 = 1
                                    · rw [if_pos c282] at H
                                      have c282b0 : (1 == 1) = true := beq_iff_eq.mpr c282
                                      have c282b1 : (1 != 1) = false := bne_eq_false_iff_eq.mpr c282
                                      clear c282
                                      replace H := Option.bind_eq_some_iff.mp H
                                      obtain ⟨t574, A2830, H⟩ := H
                                      replace H : (some t574) = some r := H
                                      have A283 := Fa.mk A2830
                                      clear A2830
                                      obtain rfl := Option.some.inj H
                                      have hnb284 := NB534_535.out
                                      have hnc284 := NB535_534.out
                                      have hnb285 := NB534_536.out
                                      have hnc285 := NB536_534.out
                                      have hnb286 := NB534_552.out
                                      have hnc286 := NB552_534.out
                                      have hnb287 := NB534_556.out
                                      have hnc287 := NB556_534.out
                                      have hnb288 := NB534_561.out
                                      have hnc288 := NB561_534.out
                                      have hcz289_0 : wc.cell? ⟨gb534, 0, none⟩ = some (.int .i64 a0_0) := (blk_cell BK534.out 0).trans rfl
                                      have hcz289_1 : wc.cell? ⟨gb534, 1, none⟩ = some (.int .i64 a0_1) := (blk_cell BK534.out 1).trans rfl
                                      have hfz289_0 := blk_frozen BK534.out 0
                                      have hfz289_1 := blk_frozen BK534.out 1
                                      have hnb290 := NB535_536.out
                                      have hnc290 := NB536_535.out
                                      have hnb291 := NB535_552.out
                                      have hnc291 := NB552_535.out
                                      have hnb292 := NB535_556.out
                                      have hnc292 := NB556_535.out
                                      have hnb293 := NB535_561.out
                                      have hnc293 := NB561_535.out
                                      have hcz294_0 : wc.cell? ⟨gb535, 0, none⟩ = some (.int .i64 a1_0) := (blk_cell BK535.out 0).trans rfl
                                      have hcz294_1 : wc.cell? ⟨gb535, 1, none⟩ = some (.int .i64 a1_1) := (blk_cell BK535.out 1).trans rfl
                                      have hfz294_0 := blk_frozen BK535.out 0
                                      have hfz294_1 := blk_frozen BK535.out 1
                                      go_wp2_with (first | ((with_reducible refine gate_callee (f := 40) rfl ?_); refine goesA (some 158) rfl rfl Tryd.func40 (by kernel_rfl) rfl #[.agg #[.int .i64 a0_0, .int .i64 a0_1], .agg #[.int .i64 a1_0, .int .i64 a1_1]] rfl ?_; (with_reducible refine (num_Mod.calls kj111 a0_0 a0_1 a1_0 a1_1 t562 t563 t564 _ A141.out).mono ?_); rintro e w295 ⟨rfl, hb⟩; refine ⟨_, rfl, ?_⟩; have n0_ := Fa.mk (blk_below (g := gb534) (o := .cells #[.int .i64 a0_0, .int .i64 a0_1] 23 (0, 0)) fa hb); have n1_ := Fa.mk (blk_below (g := gb535) (o := .cells #[.int .i64 a1_0, .int .i64 a1_1] 23 (0, 0)) fa hb); have n2_ := Fa.mk (blk_below (g := gb536) (o := .cells #[.int .i64 a2_0, .int .i64 a2_1] 23 (0, 0)) fa hb); have n3_ := Fa.mk (blk_below (g := gb552) (o := .cells #[.int .i64 t549, .int .i64 t550] 23 (0, 0)) fa hb); have n4_ := Fa.mk (blk_below (g := gb556) (o := .cells #[.int .i64 t553, .int .i64 t554] 23 (0, 0)) fa hb); have n5_ := Fa.mk (blk_below (g := gb561) (o := .cells #[.int .i64 t559, .int .i64 1] 23 (0, 0)) fa hb); have n6_ := Fa.mk (bst w hb); clear BK534; clear BK535; clear BK536; clear BK552; clear BK556; clear BK561; clear HB; have BK534 := n0_; have BK535 := n1_; have BK536 := n2_; have BK552 := n3_; have BK556 := n4_; have BK561 := n5_; have HB := n6_; clear n0_ n1_ n2_ n3_ n4_ n5_ n6_; (try clear hb); (try clear hb2); (try clear hk); (try clear hi)) | ((with_reducible refine gate_dst (N := 24) rfl ?_); refine boxF (N := 24) (cs := #[.int .i64 0, .int .i64 0]) (t := 23) ?_; intro gb565 hg w296 hbox hb; have n0_ := Fa.mk (blk_below (g := gb534) (o := .cells #[.int .i64 a0_0, .int .i64 a0_1] 23 (0, 0)) fa hb); have n1_ := Fa.mk (blk_below (g := gb535) (o := .cells #[.int .i64 a1_0, .int .i64 a1_1] 23 (0, 0)) fa hb); have n2_ := Fa.mk (blk_below (g := gb536) (o := .cells #[.int .i64 a2_0, .int .i64 a2_1] 23 (0, 0)) fa hb); have n3_ := Fa.mk (blk_below (g := gb552) (o := .cells #[.int .i64 t549, .int .i64 t550] 23 (0, 0)) fa hb); have n4_ := Fa.mk (blk_below (g := gb556) (o := .cells #[.int .i64 t553, .int .i64 t554] 23 (0, 0)) fa hb); have n5_ := Fa.mk (blk_below (g := gb561) (o := .cells #[.int .i64 t559, .int .i64 1] 23 (0, 0)) fa hb); have n6_ := Fa.mk (bst w hb); have n7_ := Fa.mk (hbox); have n8_ := Fa.mk (gle hg : w.heap.size ≤ gb565); have n9_ := n8_; have n10_ := Fa.mk (gne (o := .cells #[.int .i64 a0_0, .int .i64 a0_1] 23 (0, 0)) hg : gb534 ≠ gb565); have n11_ := Fa.mk n10_.out.symm; have n12_ := Fa.mk (gne (o := .cells #[.int .i64 a1_0, .int .i64 a1_1] 23 (0, 0)) hg : gb535 ≠ gb565); have n13_ := Fa.mk n12_.out.symm; have n14_ := Fa.mk (gne (o := .cells #[.int .i64 a2_0, .int .i64 a2_1] 23 (0, 0)) hg : gb536 ≠ gb565); have n15_ := Fa.mk n14_.out.symm; have n16_ := Fa.mk (gne (o := .cells #[.int .i64 t549, .int .i64 t550] 23 (0, 0)) hg : gb552 ≠ gb565); have n17_ := Fa.mk n16_.out.symm; have n18_ := Fa.mk (gne (o := .cells #[.int .i64 t553, .int .i64 t554] 23 (0, 0)) hg : gb556 ≠ gb565); have n19_ := Fa.mk n18_.out.symm; have n20_ := Fa.mk (gne (o := .cells #[.int .i64 t559, .int .i64 1] 23 (0, 0)) hg : gb561 ≠ gb565); have n21_ := Fa.mk n20_.out.symm; clear BK534; clear BK535; clear BK536; clear BK552; clear BK556; clear BK561; clear HB; have BK534 := n0_; have BK535 := n1_; have BK536 := n2_; have BK552 := n3_; have BK556 := n4_; have BK561 := n5_; have HB := n6_; have BK565 := n7_; have GW565 := n8_; have GE565 := n9_; have NB534_565 := n10_; have NB565_534 := n11_; have NB535_565 := n12_; have NB565_535 := n13_; have NB536_565 := n14_; have NB565_536 := n15_; have NB552_565 := n16_; have NB565_552 := n17_; have NB556_565 := n18_; have NB565_556 := n19_; have NB561_565 := n20_; have NB565_561 := n21_; clear n0_ n1_ n2_ n3_ n4_ n5_ n6_ n7_ n8_ n9_ n10_ n11_ n12_ n13_ n14_ n15_ n16_ n17_ n18_ n19_ n20_ n21_; clear hb hbox hg; have hnb297 := NB565_534.out; have hnc297 := NB534_565.out; have hnb298 := NB565_535.out; have hnc298 := NB535_565.out; have hnb299 := NB565_536.out; have hnc299 := NB536_565.out; have hnb300 := NB565_552.out; have hnc300 := NB552_565.out; have hnb301 := NB565_556.out; have hnc301 := NB556_565.out; have hnb302 := NB565_561.out; have hnc302 := NB561_565.out; have hcz303_0 : w296.cell? ⟨gb565, 0, none⟩ = some (.int .i64 0) := (blk_cell BK565.out 0).trans rfl; have hcz303_1 : w296.cell? ⟨gb565, 1, none⟩ = some (.int .i64 0) := (blk_cell BK565.out 1).trans rfl; have hfz303_0 := blk_frozen BK565.out 0; have hfz303_1 := blk_frozen BK565.out 1; have hnb304 := NB561_536.out; have hnc304 := NB536_561.out; have hnb305 := NB561_552.out; have hnc305 := NB552_561.out; have hnb306 := NB561_556.out; have hnc306 := NB556_561.out; have hcz307_0 : w296.cell? ⟨gb561, 0, none⟩ = some (.int .i64 t559) := (blk_cell BK561.out 0).trans rfl; have hcz307_1 : w296.cell? ⟨gb561, 1, none⟩ = some (.int .i64 1) := (blk_cell BK561.out 1).trans rfl; have hfz307_0 := blk_frozen BK561.out 0; have hfz307_1 := blk_frozen BK561.out 1) | (go_at_call 17; (with_reducible refine (fleuronlaw01_awake.calls kj111  t574 _ A283.out (HG.out.below fa)).mono ?_); rintro e w308 ⟨rfl, hb⟩; have n0_ := Fa.mk (blk_below (g := gb534) (o := .cells #[.int .i64 a0_0, .int .i64 a0_1] 23 (0, 0)) (by (with_reducible repeat (first | refine blk_drewN ?_ _ | refine blk_drew ?_ | refine blk_alloc ?_ _)); refine blk_far ?_ NB534_565.out _; (with_reducible repeat (first | refine blk_drewN ?_ _ | refine blk_drew ?_ | refine blk_alloc ?_ _)); refine blk_far ?_ NB534_565.out _; (with_reducible repeat (first | refine blk_drewN ?_ _ | refine blk_drew ?_ | refine blk_alloc ?_ _)); exact BK534.out) hb); have n1_ := Fa.mk (blk_below (g := gb535) (o := .cells #[.int .i64 a1_0, .int .i64 a1_1] 23 (0, 0)) (by (with_reducible repeat (first | refine blk_drewN ?_ _ | refine blk_drew ?_ | refine blk_alloc ?_ _)); refine blk_far ?_ NB535_565.out _; (with_reducible repeat (first | refine blk_drewN ?_ _ | refine blk_drew ?_ | refine blk_alloc ?_ _)); refine blk_far ?_ NB535_565.out _; (with_reducible repeat (first | refine blk_drewN ?_ _ | refine blk_drew ?_ | refine blk_alloc ?_ _)); exact BK535.out) hb); have n2_ := Fa.mk (blk_below (g := gb536) (o := .cells #[.int .i64 a2_0, .int .i64 a2_1] 23 (0, 0)) (by (with_reducible repeat (first | refine blk_drewN ?_ _ | refine blk_drew ?_ | refine blk_alloc ?_ _)); refine blk_far ?_ NB536_565.out _; (with_reducible repeat (first | refine blk_drewN ?_ _ | refine blk_drew ?_ | refine blk_alloc ?_ _)); refine blk_far ?_ NB536_565.out _; (with_reducible repeat (first | refine blk_drewN ?_ _ | refine blk_drew ?_ | refine blk_alloc ?_ _)); exact BK536.out) hb); have n3_ := Fa.mk (blk_below (g := gb552) (o := .cells #[.int .i64 t549, .int .i64 t550] 23 (0, 0)) (by (with_reducible repeat (first | refine blk_drewN ?_ _ | refine blk_drew ?_ | refine blk_alloc ?_ _)); refine blk_far ?_ NB552_565.out _; (with_reducible repeat (first | refine blk_drewN ?_ _ | refine blk_drew ?_ | refine blk_alloc ?_ _)); refine blk_far ?_ NB552_565.out _; (with_reducible repeat (first | refine blk_drewN ?_ _ | refine blk_drew ?_ | refine blk_alloc ?_ _)); exact BK552.out) hb); have n4_ := Fa.mk (blk_below (g := gb556) (o := .cells #[.int .i64 t553, .int .i64 t554] 23 (0, 0)) (by (with_reducible repeat (first | refine blk_drewN ?_ _ | refine blk_drew ?_ | refine blk_alloc ?_ _)); refine blk_far ?_ NB556_565.out _; (with_reducible repeat (first | refine blk_drewN ?_ _ | refine blk_drew ?_ | refine blk_alloc ?_ _)); refine blk_far ?_ NB556_565.out _; (with_reducible repeat (first | refine blk_drewN ?_ _ | refine blk_drew ?_ | refine blk_alloc ?_ _)); exact BK556.out) hb); have n5_ := Fa.mk (blk_below (g := gb561) (o := .cells #[.int .i64 t559, .int .i64 1] 23 (0, 0)) (by (with_reducible repeat (first | refine blk_drewN ?_ _ | refine blk_drew ?_ | refine blk_alloc ?_ _)); refine blk_far ?_ NB561_565.out _; (with_reducible repeat (first | refine blk_drewN ?_ _ | refine blk_drew ?_ | refine blk_alloc ?_ _)); refine blk_far ?_ NB561_565.out _; (with_reducible repeat (first | refine blk_drewN ?_ _ | refine blk_drew ?_ | refine blk_alloc ?_ _)); exact BK561.out) hb); have n6_ := Fa.mk (blk_below (g := gb565) (o := .cells #[.int .i64 t562, .int .i64 t563] 23 (0, 0)) (by (with_reducible repeat (first | refine blk_drewN ?_ _ | refine blk_drew ?_ | refine blk_alloc ?_ _)); refine blk_put (cs := #[.int .i64 t562, .int .i64 0]) ?_ 1 _ rfl; (with_reducible repeat (first | refine blk_drewN ?_ _ | refine blk_drew ?_ | refine blk_alloc ?_ _)); refine blk_put (cs := #[.int .i64 0, .int .i64 0]) ?_ 0 _ rfl; (with_reducible repeat (first | refine blk_drewN ?_ _ | refine blk_drew ?_ | refine blk_alloc ?_ _)); exact BK565.out) hb); have n7_ := Fa.mk (bst w hb); clear BK534; clear BK535; clear BK536; clear BK552; clear BK556; clear BK561; clear BK565; clear HB; have BK534 := n0_; have BK535 := n1_; have BK536 := n2_; have BK552 := n3_; have BK556 := n4_; have BK561 := n5_; have BK565 := n6_; have HB := n7_; clear n0_ n1_ n2_ n3_ n4_ n5_ n6_ n7_; (try clear hb); (try clear hb2); (try clear hk); (try clear hi)))
                                      go_ret
                                      exact ⟨by first | rfl | (simp [errW_none, errW_some] <;> rfl) | (simp [*, errW_none, errW_some] <;> rfl), fa⟩
                                    · rw [if_neg c282] at H
                                      exact absurd H (by simp)

end Go.Proofs.YtndbdnkpnjibkaaDoor.P
