-- PRINTED by print.py (a twelfth state) out of the translation. Not trusted: Lean checks it.
import Derived.Test.YtndbdnkpnjibkaaDoorPx0
import Derived.Test.YtndbdnkpnjibkaaDoorStp
import Derived.Test.YtndbdnkpnjibkaaDoorPxEq1
import Derived.Test.YtndbdnkpnjibkaaDoorPxrationalsize
import Derived.Test.YtndbdnkpnjibkaaDoorPxfleuronlaw01awake
import Derived.Test.YtndbdnkpnjibkaaDoorPxnumSub
import Derived.Test.YtndbdnkpnjibkaaDoorPxfleuronlaw01sum
import Derived.Test.YtndbdnkpnjibkaaDoorPxfleuronlaw01product
namespace Go.Proofs.YtndbdnkpnjibkaaDoor.P
open Go.RowKit Go.Proofs.YtndbdnkpnjibkaaDoorW.PrintWords Go.Proofs.YtndbdnkpnjibkaaDoorW.PrintLast Go.Proofs.YtndbdnkpnjibkaaDoorW.PrintMore
attribute [local go_sem] max2_int min2_int max_two min_two max_three min_three max_four min_four   -- for this text's walks alone
set_option linter.unusedVariables false
set_option linter.unusedSimpArgs false

attribute [local go_sem high] eqA23
/-! ### fleuronlaw01_NumField: function 7 -/
mutual
def fleuronlaw01_NumField.j0 : Nat → Bool → Int → Int → Int → Int → Int → Int → Option (Bool)
  | 0, _, _, _, _, _, _, _ => none
  | k + 1, x53, x396000, x396001, x397000, x397001, x398000, x398001 => if x53 = true then ((fleuronlaw01_awake.f k).bind fun t401 => (some t401)) else ((fleuronlaw01_sum.f k x396000 x396001 x397000 x397001).bind fun bt402 => ((fleuronlaw01_sum.f k x397000 x397001 x396000 x396001).bind fun bt406 => (if (bt402.2.2 != bt406.2.2) = true then (fleuronlaw01_NumField.j1 k bt402.2.2 true x396000 x396001 x397000 x397001 x398000 x398001 bt402.1 bt402.2.1) else (fleuronlaw01_NumField.j1 k bt402.2.2 (!(bt402.1 == bt406.1) || (!(bt402.2.1 == bt406.2.1))) x396000 x396001 x397000 x397001 x398000 x398001 bt402.1 bt402.2.1))))
def fleuronlaw01_NumField.j1 : Nat → Bool → Bool → Int → Int → Int → Int → Int → Int → Int → Int → Option (Bool)
  | 0, _, _, _, _, _, _, _, _, _, _ => none
  | k + 1, x8, x74, x396000, x396001, x397000, x397001, x398000, x398001, x406000, x406001 => if x74 = true then (none) else ((fleuronlaw01_product.f k x396000 x396001 x397000 x397001).bind fun bt410 => ((fleuronlaw01_product.f k x397000 x397001 x396000 x396001).bind fun bt414 => (if (bt410.2.2 != bt414.2.2) = true then (fleuronlaw01_NumField.j2 k x8 bt410.2.2 true x396000 x396001 x397000 x397001 x398000 x398001 x406000 x406001 bt410.1 bt410.2.1) else (fleuronlaw01_NumField.j2 k x8 bt410.2.2 (!(bt410.1 == bt414.1) || (!(bt410.2.1 == bt414.2.1))) x396000 x396001 x397000 x397001 x398000 x398001 x406000 x406001 bt410.1 bt410.2.1))))
def fleuronlaw01_NumField.j2 : Nat → Bool → Bool → Bool → Int → Int → Int → Int → Int → Int → Int → Int → Int → Int → Option (Bool)
  | 0, _, _, _, _, _, _, _, _, _, _, _, _, _ => none
  | k + 1, x8, x12, x94, x396000, x396001, x397000, x397001, x398000, x398001, x406000, x406001, x414000, x414001 => if x94 = true then (none) else (if x8 = true then ((num_Sub.f k x406000 x406001 x397000 x397001).bind fun bt418 => (if bt418.2.2 = 0 then (fleuronlaw01_NumField.j3 k x12 (!(bt418.1 == x396000) || (!(bt418.2.1 == x396001))) x396000 x396001 x397000 x397001 x398000 x398001 x406000 x406001 x414000 x414001) else (fleuronlaw01_NumField.j3 k x12 true x396000 x396001 x397000 x397001 x398000 x398001 x406000 x406001 x414000 x414001))) else (fleuronlaw01_NumField.j4 k x12 x396000 x396001 x397000 x397001 x398000 x398001 x414000 x414001))
def fleuronlaw01_NumField.j4 : Nat → Bool → Int → Int → Int → Int → Int → Int → Int → Int → Option (Bool)
  | 0, _, _, _, _, _, _, _, _, _ => none
  | k + 1, x12, x396000, x396001, x397000, x397001, x398000, x398001, x414000, x414001 => if x12 = true then ((num_Div.f k x414000 x414001 x397000 x397001).bind fun bt434 => (if x397000 = 0 then (fleuronlaw01_NumField.j5 k false x396000 x396001 x397000 x397001 x398000 x398001 x414000 x414001) else (if bt434.2.2 = 0 then (fleuronlaw01_NumField.j5 k (!(bt434.1 == x396000) || (!(bt434.2.1 == x396001))) x396000 x396001 x397000 x397001 x398000 x398001 x414000 x414001) else (fleuronlaw01_NumField.j5 k true x396000 x396001 x397000 x397001 x398000 x398001 x414000 x414001)))) else (fleuronlaw01_NumField.j6 k x396000 x396001 x397000 x397001 x398000 x398001)
def fleuronlaw01_NumField.j6 : Nat → Int → Int → Int → Int → Int → Int → Option (Bool)
  | 0, _, _, _, _, _, _ => none
  | k + 1, x396000, x396001, x397000, x397001, x398000, x398001 => (fleuronlaw01_sum.f k x397000 x397001 x398000 x398001).bind fun bt450 => ((fleuronlaw01_product.f k x396000 x396001 bt450.1 bt450.2.1).bind fun bt454 => ((fleuronlaw01_product.f k x396000 x396001 x397000 x397001).bind fun bt458 => ((fleuronlaw01_product.f k x396000 x396001 x398000 x398001).bind fun bt462 => ((fleuronlaw01_sum.f k bt458.1 bt458.2.1 bt462.1 bt462.2.1).bind fun bt466 => (if bt450.2.2 = true then (if bt454.2.2 = true then (if bt458.2.2 = true then (if bt462.2.2 = true then (if bt466.2.2 = true then (if (bt454.1 == bt466.1 && (bt454.2.1 == bt466.2.1)) = true then ((fleuronlaw01_awake.f k).bind fun t470 => (some t470)) else (none)) else ((fleuronlaw01_awake.f k).bind fun t471 => (some t471))) else ((fleuronlaw01_awake.f k).bind fun t472 => (some t472))) else ((fleuronlaw01_awake.f k).bind fun t473 => (some t473))) else ((fleuronlaw01_awake.f k).bind fun t474 => (some t474))) else ((fleuronlaw01_awake.f k).bind fun t475 => (some t475)))))))
def fleuronlaw01_NumField.j5 : Nat → Bool → Int → Int → Int → Int → Int → Int → Int → Int → Option (Bool)
  | 0, _, _, _, _, _, _, _, _, _ => none
  | k + 1, x157, x396000, x396001, x397000, x397001, x398000, x398001, x414000, x414001 => if x157 = true then (none) else ((fleuronlaw01_product.f k x414000 x414001 x398000 x398001).bind fun bt438 => ((fleuronlaw01_product.f k x397000 x397001 x398000 x398001).bind fun bt442 => ((fleuronlaw01_product.f k x396000 x396001 bt442.1 bt442.2.1).bind fun bt446 => (if bt438.2.2 = true then (if bt442.2.2 = true then (if bt446.2.2 = true then (if (!(bt438.1 == bt446.1) || (!(bt438.2.1 == bt446.2.1))) = true then (none) else (fleuronlaw01_NumField.j6 k x396000 x396001 x397000 x397001 x398000 x398001)) else (fleuronlaw01_NumField.j6 k x396000 x396001 x397000 x397001 x398000 x398001)) else (fleuronlaw01_NumField.j6 k x396000 x396001 x397000 x397001 x398000 x398001)) else (fleuronlaw01_NumField.j6 k x396000 x396001 x397000 x397001 x398000 x398001)))))
def fleuronlaw01_NumField.j3 : Nat → Bool → Bool → Int → Int → Int → Int → Int → Int → Int → Int → Int → Int → Option (Bool)
  | 0, _, _, _, _, _, _, _, _, _, _, _, _ => none
  | k + 1, x12, x108, x396000, x396001, x397000, x397001, x398000, x398001, x406000, x406001, x414000, x414001 => if x108 = true then (none) else ((fleuronlaw01_sum.f k x406000 x406001 x398000 x398001).bind fun bt422 => ((fleuronlaw01_sum.f k x397000 x397001 x398000 x398001).bind fun bt426 => ((fleuronlaw01_sum.f k x396000 x396001 bt426.1 bt426.2.1).bind fun bt430 => (if bt422.2.2 = true then (if bt426.2.2 = true then (if bt430.2.2 = true then (if (!(bt422.1 == bt430.1) || (!(bt422.2.1 == bt430.2.1))) = true then (none) else (fleuronlaw01_NumField.j4 k x12 x396000 x396001 x397000 x397001 x398000 x398001 x414000 x414001)) else (fleuronlaw01_NumField.j4 k x12 x396000 x396001 x397000 x397001 x398000 x398001 x414000 x414001)) else (fleuronlaw01_NumField.j4 k x12 x396000 x396001 x397000 x397001 x398000 x398001 x414000 x414001)) else (fleuronlaw01_NumField.j4 k x12 x396000 x396001 x397000 x397001 x398000 x398001 x414000 x414001)))))
end
def fleuronlaw01_NumField.f (k : Nat) (a0_0 : Int) (a0_1 : Int) (a1_0 : Int) (a1_1 : Int) (a2_0 : Int) (a2_1 : Int) : Option (Bool) := (fleuronref01_Valid.f k a0_0 a0_1).bind fun t398 => (if t398 = true then ((fleuronref01_Valid.f k a1_0 a1_1).bind fun t399 => (if t399 = true then ((fleuronref01_Valid.f k a2_0 a2_1).bind fun t400 => (fleuronlaw01_NumField.j0 k (!t400) a0_0 a0_1 a1_0 a1_1 a2_0 a2_1)) else (fleuronlaw01_NumField.j0 k true a0_0 a0_1 a1_0 a1_1 a2_0 a2_1))) else (fleuronlaw01_NumField.j0 k true a0_0 a0_1 a1_0 a1_1 a2_0 a2_1))
theorem fleuronlaw01_NumField.mono_l : ∀ k, (∀ y0 y1 y2 y3 y4 y5 y6, LeO (fleuronlaw01_NumField.j0 k y0 y1 y2 y3 y4 y5 y6) (fleuronlaw01_NumField.j0 (k + 1) y0 y1 y2 y3 y4 y5 y6)) ∧ (∀ y0 y1 y2 y3 y4 y5 y6 y7 y8 y9, LeO (fleuronlaw01_NumField.j1 k y0 y1 y2 y3 y4 y5 y6 y7 y8 y9) (fleuronlaw01_NumField.j1 (k + 1) y0 y1 y2 y3 y4 y5 y6 y7 y8 y9)) ∧ (∀ y0 y1 y2 y3 y4 y5 y6 y7 y8 y9 y10 y11 y12, LeO (fleuronlaw01_NumField.j2 k y0 y1 y2 y3 y4 y5 y6 y7 y8 y9 y10 y11 y12) (fleuronlaw01_NumField.j2 (k + 1) y0 y1 y2 y3 y4 y5 y6 y7 y8 y9 y10 y11 y12)) ∧ (∀ y0 y1 y2 y3 y4 y5 y6 y7 y8, LeO (fleuronlaw01_NumField.j4 k y0 y1 y2 y3 y4 y5 y6 y7 y8) (fleuronlaw01_NumField.j4 (k + 1) y0 y1 y2 y3 y4 y5 y6 y7 y8)) ∧ (∀ y0 y1 y2 y3 y4 y5, LeO (fleuronlaw01_NumField.j6 k y0 y1 y2 y3 y4 y5) (fleuronlaw01_NumField.j6 (k + 1) y0 y1 y2 y3 y4 y5)) ∧ (∀ y0 y1 y2 y3 y4 y5 y6 y7 y8, LeO (fleuronlaw01_NumField.j5 k y0 y1 y2 y3 y4 y5 y6 y7 y8) (fleuronlaw01_NumField.j5 (k + 1) y0 y1 y2 y3 y4 y5 y6 y7 y8)) ∧ (∀ y0 y1 y2 y3 y4 y5 y6 y7 y8 y9 y10 y11, LeO (fleuronlaw01_NumField.j3 k y0 y1 y2 y3 y4 y5 y6 y7 y8 y9 y10 y11) (fleuronlaw01_NumField.j3 (k + 1) y0 y1 y2 y3 y4 y5 y6 y7 y8 y9 y10 y11))
  | 0 => ⟨fun _ _ _ _ _ _ _ r h => by simp [fleuronlaw01_NumField.j0] at h, fun _ _ _ _ _ _ _ _ _ _ r h => by simp [fleuronlaw01_NumField.j1] at h, fun _ _ _ _ _ _ _ _ _ _ _ _ _ r h => by simp [fleuronlaw01_NumField.j2] at h, fun _ _ _ _ _ _ _ _ _ r h => by simp [fleuronlaw01_NumField.j4] at h, fun _ _ _ _ _ _ r h => by simp [fleuronlaw01_NumField.j6] at h, fun _ _ _ _ _ _ _ _ _ r h => by simp [fleuronlaw01_NumField.j5] at h, fun _ _ _ _ _ _ _ _ _ _ _ _ r h => by simp [fleuronlaw01_NumField.j3] at h⟩
  | k + 1 => by
    obtain ⟨ih0, ih1, ih2, ih3, ih4, ih5, ih6⟩ := fleuronlaw01_NumField.mono_l k
    refine ⟨?_, ?_, ?_, ?_, ?_, ?_, ?_⟩
    · intro y0 y1 y2 y3 y4 y5 y6
      unfold fleuronlaw01_NumField.j0
      repeat' first
      | (with_reducible exact ih0 _ _ _ _ _ _ _)
      | (with_reducible exact ih1 _ _ _ _ _ _ _ _ _ _)
      | (with_reducible exact ih2 _ _ _ _ _ _ _ _ _ _ _ _ _)
      | (with_reducible exact ih3 _ _ _ _ _ _ _ _ _)
      | (with_reducible exact ih4 _ _ _ _ _ _)
      | (with_reducible exact ih5 _ _ _ _ _ _ _ _ _)
      | (with_reducible exact ih6 _ _ _ _ _ _ _ _ _ _ _ _)
      | (with_reducible exact fleuronlaw01_awake.mono _)
      | (with_reducible exact fleuronlaw01_product.mono _ _ _ _ _)
      | (with_reducible exact fleuronlaw01_sum.mono _ _ _ _ _)
      | (with_reducible exact fleuronref01_Valid.mono _ _ _)
      | (with_reducible exact num_Div.mono _ _ _ _ _)
      | (with_reducible exact num_Sub.mono _ _ _ _ _)
      | (with_reducible exact LeO.refl _)
      | (with_reducible exact LeO.none _)
      | (with_reducible refine LeO.ite ?_ ?_)
      | (with_reducible refine LeO.bind ?_ (fun _ => ?_))
      | exact ih0 _ _ _ _ _ _ _
      | exact ih1 _ _ _ _ _ _ _ _ _ _
      | exact ih2 _ _ _ _ _ _ _ _ _ _ _ _ _
      | exact ih3 _ _ _ _ _ _ _ _ _
      | exact ih4 _ _ _ _ _ _
      | exact ih5 _ _ _ _ _ _ _ _ _
      | exact ih6 _ _ _ _ _ _ _ _ _ _ _ _
      | exact fleuronlaw01_awake.mono _
      | exact fleuronlaw01_product.mono _ _ _ _ _
      | exact fleuronlaw01_sum.mono _ _ _ _ _
      | exact fleuronref01_Valid.mono _ _ _
      | exact num_Div.mono _ _ _ _ _
      | exact num_Sub.mono _ _ _ _ _
      | exact LeO.none _
      | refine LeO.ite ?_ ?_
      | refine LeO.bind ?_ (fun _ => ?_)
    · intro y0 y1 y2 y3 y4 y5 y6 y7 y8 y9
      unfold fleuronlaw01_NumField.j1
      repeat' first
      | (with_reducible exact ih0 _ _ _ _ _ _ _)
      | (with_reducible exact ih1 _ _ _ _ _ _ _ _ _ _)
      | (with_reducible exact ih2 _ _ _ _ _ _ _ _ _ _ _ _ _)
      | (with_reducible exact ih3 _ _ _ _ _ _ _ _ _)
      | (with_reducible exact ih4 _ _ _ _ _ _)
      | (with_reducible exact ih5 _ _ _ _ _ _ _ _ _)
      | (with_reducible exact ih6 _ _ _ _ _ _ _ _ _ _ _ _)
      | (with_reducible exact fleuronlaw01_awake.mono _)
      | (with_reducible exact fleuronlaw01_product.mono _ _ _ _ _)
      | (with_reducible exact fleuronlaw01_sum.mono _ _ _ _ _)
      | (with_reducible exact fleuronref01_Valid.mono _ _ _)
      | (with_reducible exact num_Div.mono _ _ _ _ _)
      | (with_reducible exact num_Sub.mono _ _ _ _ _)
      | (with_reducible exact LeO.refl _)
      | (with_reducible exact LeO.none _)
      | (with_reducible refine LeO.ite ?_ ?_)
      | (with_reducible refine LeO.bind ?_ (fun _ => ?_))
      | exact ih0 _ _ _ _ _ _ _
      | exact ih1 _ _ _ _ _ _ _ _ _ _
      | exact ih2 _ _ _ _ _ _ _ _ _ _ _ _ _
      | exact ih3 _ _ _ _ _ _ _ _ _
      | exact ih4 _ _ _ _ _ _
      | exact ih5 _ _ _ _ _ _ _ _ _
      | exact ih6 _ _ _ _ _ _ _ _ _ _ _ _
      | exact fleuronlaw01_awake.mono _
      | exact fleuronlaw01_product.mono _ _ _ _ _
      | exact fleuronlaw01_sum.mono _ _ _ _ _
      | exact fleuronref01_Valid.mono _ _ _
      | exact num_Div.mono _ _ _ _ _
      | exact num_Sub.mono _ _ _ _ _
      | exact LeO.none _
      | refine LeO.ite ?_ ?_
      | refine LeO.bind ?_ (fun _ => ?_)
    · intro y0 y1 y2 y3 y4 y5 y6 y7 y8 y9 y10 y11 y12
      unfold fleuronlaw01_NumField.j2
      repeat' first
      | (with_reducible exact ih0 _ _ _ _ _ _ _)
      | (with_reducible exact ih1 _ _ _ _ _ _ _ _ _ _)
      | (with_reducible exact ih2 _ _ _ _ _ _ _ _ _ _ _ _ _)
      | (with_reducible exact ih3 _ _ _ _ _ _ _ _ _)
      | (with_reducible exact ih4 _ _ _ _ _ _)
      | (with_reducible exact ih5 _ _ _ _ _ _ _ _ _)
      | (with_reducible exact ih6 _ _ _ _ _ _ _ _ _ _ _ _)
      | (with_reducible exact fleuronlaw01_awake.mono _)
      | (with_reducible exact fleuronlaw01_product.mono _ _ _ _ _)
      | (with_reducible exact fleuronlaw01_sum.mono _ _ _ _ _)
      | (with_reducible exact fleuronref01_Valid.mono _ _ _)
      | (with_reducible exact num_Div.mono _ _ _ _ _)
      | (with_reducible exact num_Sub.mono _ _ _ _ _)
      | (with_reducible exact LeO.refl _)
      | (with_reducible exact LeO.none _)
      | (with_reducible refine LeO.ite ?_ ?_)
      | (with_reducible refine LeO.bind ?_ (fun _ => ?_))
      | exact ih0 _ _ _ _ _ _ _
      | exact ih1 _ _ _ _ _ _ _ _ _ _
      | exact ih2 _ _ _ _ _ _ _ _ _ _ _ _ _
      | exact ih3 _ _ _ _ _ _ _ _ _
      | exact ih4 _ _ _ _ _ _
      | exact ih5 _ _ _ _ _ _ _ _ _
      | exact ih6 _ _ _ _ _ _ _ _ _ _ _ _
      | exact fleuronlaw01_awake.mono _
      | exact fleuronlaw01_product.mono _ _ _ _ _
      | exact fleuronlaw01_sum.mono _ _ _ _ _
      | exact fleuronref01_Valid.mono _ _ _
      | exact num_Div.mono _ _ _ _ _
      | exact num_Sub.mono _ _ _ _ _
      | exact LeO.none _
      | refine LeO.ite ?_ ?_
      | refine LeO.bind ?_ (fun _ => ?_)
    · intro y0 y1 y2 y3 y4 y5 y6 y7 y8
      unfold fleuronlaw01_NumField.j4
      repeat' first
      | (with_reducible exact ih0 _ _ _ _ _ _ _)
      | (with_reducible exact ih1 _ _ _ _ _ _ _ _ _ _)
      | (with_reducible exact ih2 _ _ _ _ _ _ _ _ _ _ _ _ _)
      | (with_reducible exact ih3 _ _ _ _ _ _ _ _ _)
      | (with_reducible exact ih4 _ _ _ _ _ _)
      | (with_reducible exact ih5 _ _ _ _ _ _ _ _ _)
      | (with_reducible exact ih6 _ _ _ _ _ _ _ _ _ _ _ _)
      | (with_reducible exact fleuronlaw01_awake.mono _)
      | (with_reducible exact fleuronlaw01_product.mono _ _ _ _ _)
      | (with_reducible exact fleuronlaw01_sum.mono _ _ _ _ _)
      | (with_reducible exact fleuronref01_Valid.mono _ _ _)
      | (with_reducible exact num_Div.mono _ _ _ _ _)
      | (with_reducible exact num_Sub.mono _ _ _ _ _)
      | (with_reducible exact LeO.refl _)
      | (with_reducible exact LeO.none _)
      | (with_reducible refine LeO.ite ?_ ?_)
      | (with_reducible refine LeO.bind ?_ (fun _ => ?_))
      | exact ih0 _ _ _ _ _ _ _
      | exact ih1 _ _ _ _ _ _ _ _ _ _
      | exact ih2 _ _ _ _ _ _ _ _ _ _ _ _ _
      | exact ih3 _ _ _ _ _ _ _ _ _
      | exact ih4 _ _ _ _ _ _
      | exact ih5 _ _ _ _ _ _ _ _ _
      | exact ih6 _ _ _ _ _ _ _ _ _ _ _ _
      | exact fleuronlaw01_awake.mono _
      | exact fleuronlaw01_product.mono _ _ _ _ _
      | exact fleuronlaw01_sum.mono _ _ _ _ _
      | exact fleuronref01_Valid.mono _ _ _
      | exact num_Div.mono _ _ _ _ _
      | exact num_Sub.mono _ _ _ _ _
      | exact LeO.none _
      | refine LeO.ite ?_ ?_
      | refine LeO.bind ?_ (fun _ => ?_)
    · intro y0 y1 y2 y3 y4 y5
      unfold fleuronlaw01_NumField.j6
      repeat' first
      | (with_reducible exact ih0 _ _ _ _ _ _ _)
      | (with_reducible exact ih1 _ _ _ _ _ _ _ _ _ _)
      | (with_reducible exact ih2 _ _ _ _ _ _ _ _ _ _ _ _ _)
      | (with_reducible exact ih3 _ _ _ _ _ _ _ _ _)
      | (with_reducible exact ih4 _ _ _ _ _ _)
      | (with_reducible exact ih5 _ _ _ _ _ _ _ _ _)
      | (with_reducible exact ih6 _ _ _ _ _ _ _ _ _ _ _ _)
      | (with_reducible exact fleuronlaw01_awake.mono _)
      | (with_reducible exact fleuronlaw01_product.mono _ _ _ _ _)
      | (with_reducible exact fleuronlaw01_sum.mono _ _ _ _ _)
      | (with_reducible exact fleuronref01_Valid.mono _ _ _)
      | (with_reducible exact num_Div.mono _ _ _ _ _)
      | (with_reducible exact num_Sub.mono _ _ _ _ _)
      | (with_reducible exact LeO.refl _)
      | (with_reducible exact LeO.none _)
      | (with_reducible refine LeO.ite ?_ ?_)
      | (with_reducible refine LeO.bind ?_ (fun _ => ?_))
      | exact ih0 _ _ _ _ _ _ _
      | exact ih1 _ _ _ _ _ _ _ _ _ _
      | exact ih2 _ _ _ _ _ _ _ _ _ _ _ _ _
      | exact ih3 _ _ _ _ _ _ _ _ _
      | exact ih4 _ _ _ _ _ _
      | exact ih5 _ _ _ _ _ _ _ _ _
      | exact ih6 _ _ _ _ _ _ _ _ _ _ _ _
      | exact fleuronlaw01_awake.mono _
      | exact fleuronlaw01_product.mono _ _ _ _ _
      | exact fleuronlaw01_sum.mono _ _ _ _ _
      | exact fleuronref01_Valid.mono _ _ _
      | exact num_Div.mono _ _ _ _ _
      | exact num_Sub.mono _ _ _ _ _
      | exact LeO.none _
      | refine LeO.ite ?_ ?_
      | refine LeO.bind ?_ (fun _ => ?_)
    · intro y0 y1 y2 y3 y4 y5 y6 y7 y8
      unfold fleuronlaw01_NumField.j5
      repeat' first
      | (with_reducible exact ih0 _ _ _ _ _ _ _)
      | (with_reducible exact ih1 _ _ _ _ _ _ _ _ _ _)
      | (with_reducible exact ih2 _ _ _ _ _ _ _ _ _ _ _ _ _)
      | (with_reducible exact ih3 _ _ _ _ _ _ _ _ _)
      | (with_reducible exact ih4 _ _ _ _ _ _)
      | (with_reducible exact ih5 _ _ _ _ _ _ _ _ _)
      | (with_reducible exact ih6 _ _ _ _ _ _ _ _ _ _ _ _)
      | (with_reducible exact fleuronlaw01_awake.mono _)
      | (with_reducible exact fleuronlaw01_product.mono _ _ _ _ _)
      | (with_reducible exact fleuronlaw01_sum.mono _ _ _ _ _)
      | (with_reducible exact fleuronref01_Valid.mono _ _ _)
      | (with_reducible exact num_Div.mono _ _ _ _ _)
      | (with_reducible exact num_Sub.mono _ _ _ _ _)
      | (with_reducible exact LeO.refl _)
      | (with_reducible exact LeO.none _)
      | (with_reducible refine LeO.ite ?_ ?_)
      | (with_reducible refine LeO.bind ?_ (fun _ => ?_))
      | exact ih0 _ _ _ _ _ _ _
      | exact ih1 _ _ _ _ _ _ _ _ _ _
      | exact ih2 _ _ _ _ _ _ _ _ _ _ _ _ _
      | exact ih3 _ _ _ _ _ _ _ _ _
      | exact ih4 _ _ _ _ _ _
      | exact ih5 _ _ _ _ _ _ _ _ _
      | exact ih6 _ _ _ _ _ _ _ _ _ _ _ _
      | exact fleuronlaw01_awake.mono _
      | exact fleuronlaw01_product.mono _ _ _ _ _
      | exact fleuronlaw01_sum.mono _ _ _ _ _
      | exact fleuronref01_Valid.mono _ _ _
      | exact num_Div.mono _ _ _ _ _
      | exact num_Sub.mono _ _ _ _ _
      | exact LeO.none _
      | refine LeO.ite ?_ ?_
      | refine LeO.bind ?_ (fun _ => ?_)
    · intro y0 y1 y2 y3 y4 y5 y6 y7 y8 y9 y10 y11
      unfold fleuronlaw01_NumField.j3
      repeat' first
      | (with_reducible exact ih0 _ _ _ _ _ _ _)
      | (with_reducible exact ih1 _ _ _ _ _ _ _ _ _ _)
      | (with_reducible exact ih2 _ _ _ _ _ _ _ _ _ _ _ _ _)
      | (with_reducible exact ih3 _ _ _ _ _ _ _ _ _)
      | (with_reducible exact ih4 _ _ _ _ _ _)
      | (with_reducible exact ih5 _ _ _ _ _ _ _ _ _)
      | (with_reducible exact ih6 _ _ _ _ _ _ _ _ _ _ _ _)
      | (with_reducible exact fleuronlaw01_awake.mono _)
      | (with_reducible exact fleuronlaw01_product.mono _ _ _ _ _)
      | (with_reducible exact fleuronlaw01_sum.mono _ _ _ _ _)
      | (with_reducible exact fleuronref01_Valid.mono _ _ _)
      | (with_reducible exact num_Div.mono _ _ _ _ _)
      | (with_reducible exact num_Sub.mono _ _ _ _ _)
      | (with_reducible exact LeO.refl _)
      | (with_reducible exact LeO.none _)
      | (with_reducible refine LeO.ite ?_ ?_)
      | (with_reducible refine LeO.bind ?_ (fun _ => ?_))
      | exact ih0 _ _ _ _ _ _ _
      | exact ih1 _ _ _ _ _ _ _ _ _ _
      | exact ih2 _ _ _ _ _ _ _ _ _ _ _ _ _
      | exact ih3 _ _ _ _ _ _ _ _ _
      | exact ih4 _ _ _ _ _ _
      | exact ih5 _ _ _ _ _ _ _ _ _
      | exact ih6 _ _ _ _ _ _ _ _ _ _ _ _
      | exact fleuronlaw01_awake.mono _
      | exact fleuronlaw01_product.mono _ _ _ _ _
      | exact fleuronlaw01_sum.mono _ _ _ _ _
      | exact fleuronref01_Valid.mono _ _ _
      | exact num_Div.mono _ _ _ _ _
      | exact num_Sub.mono _ _ _ _ _
      | exact LeO.none _
      | refine LeO.ite ?_ ?_
      | refine LeO.bind ?_ (fun _ => ?_)
theorem fleuronlaw01_NumField.mono : ∀ a0 a1 a2 a3 a4 a5 k, LeO (fleuronlaw01_NumField.f k a0 a1 a2 a3 a4 a5) (fleuronlaw01_NumField.f (k + 1) a0 a1 a2 a3 a4 a5) := by
  intro a0 a1 a2 a3 a4 a5 k
  obtain ⟨ih0, ih1, ih2, ih3, ih4, ih5, ih6⟩ := fleuronlaw01_NumField.mono_l k
  unfold fleuronlaw01_NumField.f
  repeat' first
      | (with_reducible exact ih0 _ _ _ _ _ _ _)
      | (with_reducible exact ih1 _ _ _ _ _ _ _ _ _ _)
      | (with_reducible exact ih2 _ _ _ _ _ _ _ _ _ _ _ _ _)
      | (with_reducible exact ih3 _ _ _ _ _ _ _ _ _)
      | (with_reducible exact ih4 _ _ _ _ _ _)
      | (with_reducible exact ih5 _ _ _ _ _ _ _ _ _)
      | (with_reducible exact ih6 _ _ _ _ _ _ _ _ _ _ _ _)
      | (with_reducible exact fleuronlaw01_awake.mono _)
      | (with_reducible exact fleuronlaw01_product.mono _ _ _ _ _)
      | (with_reducible exact fleuronlaw01_sum.mono _ _ _ _ _)
      | (with_reducible exact fleuronref01_Valid.mono _ _ _)
      | (with_reducible exact num_Div.mono _ _ _ _ _)
      | (with_reducible exact num_Sub.mono _ _ _ _ _)
      | (with_reducible exact LeO.refl _)
      | (with_reducible exact LeO.none _)
      | (with_reducible refine LeO.ite ?_ ?_)
      | (with_reducible refine LeO.bind ?_ (fun _ => ?_))
      | exact ih0 _ _ _ _ _ _ _
      | exact ih1 _ _ _ _ _ _ _ _ _ _
      | exact ih2 _ _ _ _ _ _ _ _ _ _ _ _ _
      | exact ih3 _ _ _ _ _ _ _ _ _
      | exact ih4 _ _ _ _ _ _
      | exact ih5 _ _ _ _ _ _ _ _ _
      | exact ih6 _ _ _ _ _ _ _ _ _ _ _ _
      | exact fleuronlaw01_awake.mono _
      | exact fleuronlaw01_product.mono _ _ _ _ _
      | exact fleuronlaw01_sum.mono _ _ _ _ _
      | exact fleuronref01_Valid.mono _ _ _
      | exact num_Div.mono _ _ _ _ _
      | exact num_Sub.mono _ _ _ _ _
      | exact LeO.none _
      | refine LeO.ite ?_ ?_
      | refine LeO.bind ?_ (fun _ => ?_)
set_option maxHeartbeats 8000000 in
set_option maxRecDepth 100000 in
theorem fleuronlaw01_NumField.calls (k : Nat) (a0_0 : Int) (a0_1 : Int) (a1_0 : Int) (a1_1 : Int) (a2_0 : Int) (a2_1 : Int) (r : Bool) (w : World) (h : fleuronlaw01_NumField.f k a0_0 a0_1 a1_0 a1_1 a2_0 a2_1 = some r) (hG : Glob w) :
  Calls Tryd.prog 7 #[.agg #[.int .i64 a0_0, .int .i64 a0_1], .agg #[.int .i64 a1_0, .int .i64 a1_1], .agg #[.int .i64 a2_0, .int .i64 a2_1]] w fun e w' => e = .returned (.bool r) ∧ Below w.heap.size w w' := by
 have HG := Fa.mk hG
 clear hG
 have hu23 := Tryd.underlying23
 have HB := Fa.mk (Below.refl w.heap.size w)
 have H : ((fleuronref01_Valid.f k a0_0 a0_1).bind fun t398 => (if t398 = true then ((fleuronref01_Valid.f k a1_0 a1_1).bind fun t399 => (if t399 = true then ((fleuronref01_Valid.f k a2_0 a2_1).bind fun t400 => (fleuronlaw01_NumField.j0 k (!t400) a0_0 a0_1 a1_0 a1_1 a2_0 a2_1)) else (fleuronlaw01_NumField.j0 k true a0_0 a0_1 a1_0 a1_1 a2_0 a2_1))) else (fleuronlaw01_NumField.j0 k true a0_0 a0_1 a1_0 a1_1 a2_0 a2_1))) = some r := h
 clear h
 have HC4 := Fa.mk H
 clear H
 go_enter Tryd.func7, Tryd.ntmps7
 go_upto_region 1 with (first | ((with_reducible refine gate_dst (N := 3) rfl ?_); refine boxF (N := 3) (cs := #[.int .i64 a0_0, .int .i64 a0_1]) (t := 23) ?_; intro gb395 hg w5 hbox hb; have hS := Stp.mk hb; have BK395 := Fa.mk (hbox); have GW395 := Fa.mk (gle hg : w.heap.size ≤ gb395); have GE395 := GW395; clear hb hbox hg) | ((with_reducible refine gate_dst (N := 4) rfl ?_); refine boxF (N := 4) (cs := #[.int .i64 a1_0, .int .i64 a1_1]) (t := 23) ?_; intro gb396 hg w6 hbox hb; have hS := Stp.mk hb; have BK396 := Fa.mk (hbox); have GW396 := Fa.mk (gle hg : w.heap.size ≤ gb396); have GE396 := GW396; have NB395_396 := Fa.mk (gne (o := .cells #[.int .i64 a0_0, .int .i64 a0_1] 23 (0, 0)) hg : gb395 ≠ gb396); have NB396_395 := Fa.mk NB395_396.out.symm; clear hb hbox hg) | ((with_reducible refine gate_dst (N := 5) rfl ?_); refine boxF (N := 5) (cs := #[.int .i64 a2_0, .int .i64 a2_1]) (t := 23) ?_; intro gb397 hg w7 hbox hb; have hS := Stp.mk hb; have BK397 := Fa.mk (hbox); have GW397 := Fa.mk (gle hg : w.heap.size ≤ gb397); have GE397 := GW397; have NB395_397 := Fa.mk (gne (o := .cells #[.int .i64 a0_0, .int .i64 a0_1] 23 (0, 0)) hg : gb395 ≠ gb397); have NB397_395 := Fa.mk NB395_397.out.symm; have NB396_397 := Fa.mk (gne (o := .cells #[.int .i64 a1_0, .int .i64 a1_1] 23 (0, 0)) hg : gb396 ≠ gb397); have NB397_396 := Fa.mk NB396_397.out.symm; clear hb hbox hg))
 (try simp only [Act.put, List.setIfInBounds_toArray, List.set_cons_zero, List.set_cons_succ])
 go_cut [53] (fun v53 wc => ∃ (kq : Nat) (x53_3 : Bool), v53 = .bool x53_3 ∧ Fa (fleuronlaw01_NumField.j0 kq x53_3 a0_0 a0_1 a1_0 a1_1 a2_0 a2_1 = some r) ∧ Fa (kq ≤ k) ∧ Fa (wc.heap[gb395]? = some (.cells #[.int .i64 a0_0, .int .i64 a0_1] 23 (0, 0))) ∧ Fa (wc.heap[gb396]? = some (.cells #[.int .i64 a1_0, .int .i64 a1_1] 23 (0, 0))) ∧ Fa (wc.heap[gb397]? = some (.cells #[.int .i64 a2_0, .int .i64 a2_1] 23 (0, 0))) ∧ Fa (Below w.heap.size w wc))
 case first =>
  as_aux_lemma =>
  have H := HC4.out
  clear HC4
  replace H := Option.bind_eq_some_iff.mp H
  obtain ⟨t398, A80, H⟩ := H
  replace H : (if t398 = true then ((fleuronref01_Valid.f k a1_0 a1_1).bind fun t399 => (if t399 = true then ((fleuronref01_Valid.f k a2_0 a2_1).bind fun t400 => (fleuronlaw01_NumField.j0 k (!t400) a0_0 a0_1 a1_0 a1_1 a2_0 a2_1)) else (fleuronlaw01_NumField.j0 k true a0_0 a0_1 a1_0 a1_1 a2_0 a2_1))) else (fleuronlaw01_NumField.j0 k true a0_0 a0_1 a1_0 a1_1 a2_0 a2_1)) = some r := H
  have A8 := Fa.mk A80
  clear A80
  by_cases c9 : t398 = true
  ·
   subst c9
   have H1 : ((fleuronref01_Valid.f k a1_0 a1_1).bind fun t399 => (if t399 = true then ((fleuronref01_Valid.f k a2_0 a2_1).bind fun t400 => (fleuronlaw01_NumField.j0 k (!t400) a0_0 a0_1 a1_0 a1_1 a2_0 a2_1)) else (fleuronlaw01_NumField.j0 k true a0_0 a0_1 a1_0 a1_1 a2_0 a2_1))) = some r := by rw [if_pos rfl] at H; exact H
   clear H
   have H := H1
   clear H1
   replace H := Option.bind_eq_some_iff.mp H
   obtain ⟨t399, A100, H⟩ := H
   replace H : (if t399 = true then ((fleuronref01_Valid.f k a2_0 a2_1).bind fun t400 => (fleuronlaw01_NumField.j0 k (!t400) a0_0 a0_1 a1_0 a1_1 a2_0 a2_1)) else (fleuronlaw01_NumField.j0 k true a0_0 a0_1 a1_0 a1_1 a2_0 a2_1)) = some r := H
   have A10 := Fa.mk A100
   clear A100
   by_cases c11 : t399 = true
   ·
    subst c11
    have H1 : ((fleuronref01_Valid.f k a2_0 a2_1).bind fun t400 => (fleuronlaw01_NumField.j0 k (!t400) a0_0 a0_1 a1_0 a1_1 a2_0 a2_1)) = some r := by rw [if_pos rfl] at H; exact H
    clear H
    have H := H1
    clear H1
    replace H := Option.bind_eq_some_iff.mp H
    obtain ⟨t400, A120, H⟩ := H
    replace H : (fleuronlaw01_NumField.j0 k (!t400) a0_0 a0_1 a1_0 a1_1 a2_0 a2_1) = some r := H
    have A12 := Fa.mk A120
    clear A120
    have H' := Fa.mk H
    clear H
    have hnb13 := NB395_396.out
    have hnc13 := NB396_395.out
    have hnb14 := NB395_397.out
    have hnc14 := NB397_395.out
    have BK395 : Fa (w7.heap[gb395]? = some (.cells #[.int .i64 a0_0, .int .i64 a0_1] 23 (0, 0))) := ⟨fa⟩
    have hcz15_0 : w7.cell? ⟨gb395, 0, none⟩ = some (.int .i64 a0_0) := (blk_cell BK395.out 0).trans rfl
    have hcz15_1 : w7.cell? ⟨gb395, 1, none⟩ = some (.int .i64 a0_1) := (blk_cell BK395.out 1).trans rfl
    have hfz15_0 := blk_frozen BK395.out 0
    have hfz15_1 := blk_frozen BK395.out 1
    go_wp2_with (first | ((with_reducible refine gate_callee (f := 16) rfl ?_); refine goesA (some 42) rfl rfl Tryd.func16 (by kernel_rfl) rfl #[.agg #[.int .i64 a0_0, .int .i64 a0_1]] rfl ?_; (with_reducible refine (fleuronref01_Valid.calls k a0_0 a0_1 true _ A8.out).mono ?_); rintro e w16 ⟨rfl, hb⟩; refine ⟨_, rfl, ?_⟩; have hS := Stp.mk hb; have BK396 := (⟨fa⟩ : Fa (w16.heap[gb396]? = some (.cells #[.int .i64 a1_0, .int .i64 a1_1] 23 (0, 0)))); clear hb; have hnb17 := NB396_397.out; have hnc17 := NB397_396.out; have hcz18_0 : w16.cell? ⟨gb396, 0, none⟩ = some (.int .i64 a1_0) := (blk_cell BK396.out 0).trans rfl; have hcz18_1 : w16.cell? ⟨gb396, 1, none⟩ = some (.int .i64 a1_1) := (blk_cell BK396.out 1).trans rfl; have hfz18_0 := blk_frozen BK396.out 0; have hfz18_1 := blk_frozen BK396.out 1) | (go_at_call 16; (with_reducible refine (fleuronref01_Valid.calls k a1_0 a1_1 true _ A10.out).mono ?_); rintro e w19 ⟨rfl, hb⟩; have n0_ := Fa.mk (blk_below (g := gb395) (o := .cells #[.int .i64 a0_0, .int .i64 a0_1] 23 (0, 0)) fa hb); have n1_ := Fa.mk (blk_below (g := gb396) (o := .cells #[.int .i64 a1_0, .int .i64 a1_1] 23 (0, 0)) fa hb); have n2_ := Fa.mk (blk_below (g := gb397) (o := .cells #[.int .i64 a2_0, .int .i64 a2_1] 23 (0, 0)) fa hb); have n3_ := Fa.mk (bst w hb); clear BK395; clear BK396; clear BK397; clear HB; have BK395 := n0_; have BK396 := n1_; have BK397 := n2_; have HB := n3_; clear n0_ n1_ n2_ n3_; (try clear hb); (try clear hb2); (try clear hk); (try clear hi); have hcz20_0 : w19.cell? ⟨gb397, 0, none⟩ = some (.int .i64 a2_0) := (blk_cell BK397.out 0).trans rfl; have hcz20_1 : w19.cell? ⟨gb397, 1, none⟩ = some (.int .i64 a2_1) := (blk_cell BK397.out 1).trans rfl; have hfz20_0 := blk_frozen BK397.out 0; have hfz20_1 := blk_frozen BK397.out 1) | (go_at_call 16; (with_reducible refine (fleuronref01_Valid.calls k a2_0 a2_1 t400 _ A12.out).mono ?_); rintro e w21 ⟨rfl, hb⟩; have n0_ := Fa.mk (blk_below (g := gb395) (o := .cells #[.int .i64 a0_0, .int .i64 a0_1] 23 (0, 0)) fa hb); have n1_ := Fa.mk (blk_below (g := gb396) (o := .cells #[.int .i64 a1_0, .int .i64 a1_1] 23 (0, 0)) fa hb); have n2_ := Fa.mk (blk_below (g := gb397) (o := .cells #[.int .i64 a2_0, .int .i64 a2_1] 23 (0, 0)) fa hb); have n3_ := Fa.mk (bst w hb); clear BK395; clear BK396; clear BK397; clear HB; have BK395 := n0_; have BK396 := n1_; have BK397 := n2_; have HB := n3_; clear n0_ n1_ n2_ n3_; (try clear hb); (try clear hb2); (try clear hk); (try clear hi)))
    go_meet
    case rel => exact ⟨_, (!t400), (by first | rfl | (simp; done) | (simp [*]; done)), H', ⟨by first | omega | exact Nat.le_refl _⟩, ⟨fa⟩, ⟨fa⟩, ⟨fa⟩, ⟨fa⟩⟩
   ·
    replace c11 := Bool.eq_false_iff.mpr c11
    subst c11
    have H1 : (fleuronlaw01_NumField.j0 k true a0_0 a0_1 a1_0 a1_1 a2_0 a2_1) = some r := by rw [if_neg (show ¬ (false = true) by decide)] at H; exact H
    clear H
    have H := H1
    clear H1
    have H' := Fa.mk H
    clear H
    have hnb22 := NB395_396.out
    have hnc22 := NB396_395.out
    have hnb23 := NB395_397.out
    have hnc23 := NB397_395.out
    have BK395 : Fa (w7.heap[gb395]? = some (.cells #[.int .i64 a0_0, .int .i64 a0_1] 23 (0, 0))) := ⟨fa⟩
    have hcz24_0 : w7.cell? ⟨gb395, 0, none⟩ = some (.int .i64 a0_0) := (blk_cell BK395.out 0).trans rfl
    have hcz24_1 : w7.cell? ⟨gb395, 1, none⟩ = some (.int .i64 a0_1) := (blk_cell BK395.out 1).trans rfl
    have hfz24_0 := blk_frozen BK395.out 0
    have hfz24_1 := blk_frozen BK395.out 1
    go_wp2_with (first | ((with_reducible refine gate_callee (f := 16) rfl ?_); refine goesA (some 42) rfl rfl Tryd.func16 (by kernel_rfl) rfl #[.agg #[.int .i64 a0_0, .int .i64 a0_1]] rfl ?_; (with_reducible refine (fleuronref01_Valid.calls k a0_0 a0_1 true _ A8.out).mono ?_); rintro e w25 ⟨rfl, hb⟩; refine ⟨_, rfl, ?_⟩; have hS := Stp.mk hb; have BK396 := (⟨fa⟩ : Fa (w25.heap[gb396]? = some (.cells #[.int .i64 a1_0, .int .i64 a1_1] 23 (0, 0)))); clear hb; have hnb26 := NB396_397.out; have hnc26 := NB397_396.out; have hcz27_0 : w25.cell? ⟨gb396, 0, none⟩ = some (.int .i64 a1_0) := (blk_cell BK396.out 0).trans rfl; have hcz27_1 : w25.cell? ⟨gb396, 1, none⟩ = some (.int .i64 a1_1) := (blk_cell BK396.out 1).trans rfl; have hfz27_0 := blk_frozen BK396.out 0; have hfz27_1 := blk_frozen BK396.out 1) | (go_at_call 16; (with_reducible refine (fleuronref01_Valid.calls k a1_0 a1_1 false _ A10.out).mono ?_); rintro e w28 ⟨rfl, hb⟩; have n0_ := Fa.mk (blk_below (g := gb395) (o := .cells #[.int .i64 a0_0, .int .i64 a0_1] 23 (0, 0)) fa hb); have n1_ := Fa.mk (blk_below (g := gb396) (o := .cells #[.int .i64 a1_0, .int .i64 a1_1] 23 (0, 0)) fa hb); have n2_ := Fa.mk (blk_below (g := gb397) (o := .cells #[.int .i64 a2_0, .int .i64 a2_1] 23 (0, 0)) fa hb); have n3_ := Fa.mk (bst w hb); clear BK395; clear BK396; clear BK397; clear HB; have BK395 := n0_; have BK396 := n1_; have BK397 := n2_; have HB := n3_; clear n0_ n1_ n2_ n3_; (try clear hb); (try clear hb2); (try clear hk); (try clear hi)))
    go_meet
    case rel => exact ⟨_, (true), (by first | rfl | (simp; done) | (simp [*]; done)), H', ⟨by first | omega | exact Nat.le_refl _⟩, ⟨fa⟩, ⟨fa⟩, ⟨fa⟩, ⟨fa⟩⟩
  ·
   replace c9 := Bool.eq_false_iff.mpr c9
   subst c9
   have H1 : (fleuronlaw01_NumField.j0 k true a0_0 a0_1 a1_0 a1_1 a2_0 a2_1) = some r := by rw [if_neg (show ¬ (false = true) by decide)] at H; exact H
   clear H
   have H := H1
   clear H1
   have H' := Fa.mk H
   clear H
   have hnb29 := NB395_396.out
   have hnc29 := NB396_395.out
   have hnb30 := NB395_397.out
   have hnc30 := NB397_395.out
   have BK395 : Fa (w7.heap[gb395]? = some (.cells #[.int .i64 a0_0, .int .i64 a0_1] 23 (0, 0))) := ⟨fa⟩
   have hcz31_0 : w7.cell? ⟨gb395, 0, none⟩ = some (.int .i64 a0_0) := (blk_cell BK395.out 0).trans rfl
   have hcz31_1 : w7.cell? ⟨gb395, 1, none⟩ = some (.int .i64 a0_1) := (blk_cell BK395.out 1).trans rfl
   have hfz31_0 := blk_frozen BK395.out 0
   have hfz31_1 := blk_frozen BK395.out 1
   go_wp2_with (first | ((with_reducible refine gate_callee (f := 16) rfl ?_); refine goesA (some 42) rfl rfl Tryd.func16 (by kernel_rfl) rfl #[.agg #[.int .i64 a0_0, .int .i64 a0_1]] rfl ?_; (with_reducible refine (fleuronref01_Valid.calls k a0_0 a0_1 false _ A8.out).mono ?_); rintro e w32 ⟨rfl, hb⟩; refine ⟨_, rfl, ?_⟩; have n0_ := Fa.mk (blk_below (g := gb395) (o := .cells #[.int .i64 a0_0, .int .i64 a0_1] 23 (0, 0)) fa hb); have n1_ := Fa.mk (blk_below (g := gb396) (o := .cells #[.int .i64 a1_0, .int .i64 a1_1] 23 (0, 0)) fa hb); have n2_ := Fa.mk (blk_below (g := gb397) (o := .cells #[.int .i64 a2_0, .int .i64 a2_1] 23 (0, 0)) fa hb); have n3_ := Fa.mk (bst w hb); clear BK395; clear BK396; clear BK397; clear HB; have BK395 := n0_; have BK396 := n1_; have BK397 := n2_; have HB := n3_; clear n0_ n1_ n2_ n3_; (try clear hb); (try clear hb2); (try clear hk); (try clear hi)))
   go_meet
   case rel => exact ⟨_, (true), (by first | rfl | (simp; done) | (simp [*]; done)), H', ⟨by first | omega | exact Nat.le_refl _⟩, ⟨fa⟩, ⟨fa⟩, ⟨fa⟩, ⟨fa⟩⟩
 case rest =>
  as_aux_lemma =>
  clear HC4
  try clear p2
  obtain ⟨kq, x53_3, rfl, HA, HJ3, BK395, BK396, BK397, HB⟩ := hcut
  cases kq with
  | zero => exact absurd HA.out (by simp [fleuronlaw01_NumField.j0])
  | succ kj3 =>
   have H := HA.out
   clear HA
   simp only [fleuronlaw01_NumField.j0] at H
   by_cases c33 : x53_3 = true
   ·
    subst c33
    have H1 : ((fleuronlaw01_awake.f kj3).bind fun t401 => (some t401)) = some r := by rw [if_pos rfl] at H; exact H
    clear H
    have H := H1
    clear H1
    replace H := Option.bind_eq_some_iff.mp H
    obtain ⟨t401, A340, H⟩ := H
    replace H : (some t401) = some r := H
    have A34 := Fa.mk A340
    clear A340
    obtain rfl := Option.some.inj H
    go_wp2_with (first | ((with_reducible refine gate_callee (f := 17) rfl ?_); refine goesA (some 54) rfl rfl Tryd.func17 (by kernel_rfl) rfl #[] rfl ?_; (with_reducible refine (fleuronlaw01_awake.calls kj3  t401 _ A34.out (HG.out.below fa)).mono ?_); rintro e w35 ⟨rfl, hb⟩; refine ⟨_, rfl, ?_⟩; have n0_ := Fa.mk (blk_below (g := gb395) (o := .cells #[.int .i64 a0_0, .int .i64 a0_1] 23 (0, 0)) fa hb); have n1_ := Fa.mk (blk_below (g := gb396) (o := .cells #[.int .i64 a1_0, .int .i64 a1_1] 23 (0, 0)) fa hb); have n2_ := Fa.mk (blk_below (g := gb397) (o := .cells #[.int .i64 a2_0, .int .i64 a2_1] 23 (0, 0)) fa hb); have n3_ := Fa.mk (bst w hb); clear BK395; clear BK396; clear BK397; clear HB; have BK395 := n0_; have BK396 := n1_; have BK397 := n2_; have HB := n3_; clear n0_ n1_ n2_ n3_; (try clear hb); (try clear hb2); (try clear hk); (try clear hi)))
    go_ret
    exact ⟨by first | rfl | (simp [errW_none, errW_some] <;> rfl) | (simp [*, errW_none, errW_some] <;> rfl), fa⟩
   ·
    replace c33 := Bool.eq_false_iff.mpr c33
    subst c33
    have H1 : ((fleuronlaw01_sum.f kj3 a0_0 a0_1 a1_0 a1_1).bind fun bt402 => ((fleuronlaw01_sum.f kj3 a1_0 a1_1 a0_0 a0_1).bind fun bt406 => (if (bt402.2.2 != bt406.2.2) = true then (fleuronlaw01_NumField.j1 kj3 bt402.2.2 true a0_0 a0_1 a1_0 a1_1 a2_0 a2_1 bt402.1 bt402.2.1) else (fleuronlaw01_NumField.j1 kj3 bt402.2.2 (!(bt402.1 == bt406.1) || (!(bt402.2.1 == bt406.2.1))) a0_0 a0_1 a1_0 a1_1 a2_0 a2_1 bt402.1 bt402.2.1)))) = some r := by rw [if_neg (show ¬ (false = true) by decide)] at H; exact H
    clear H
    have H := H1
    clear H1
    replace H := Option.bind_eq_some_iff.mp H
    obtain ⟨⟨t402, t403, t404⟩, A360, H⟩ := H
    replace H : ((fleuronlaw01_sum.f kj3 a1_0 a1_1 a0_0 a0_1).bind fun bt406 => (if (t404 != bt406.2.2) = true then (fleuronlaw01_NumField.j1 kj3 t404 true a0_0 a0_1 a1_0 a1_1 a2_0 a2_1 t402 t403) else (fleuronlaw01_NumField.j1 kj3 t404 (!(t402 == bt406.1) || (!(t403 == bt406.2.1))) a0_0 a0_1 a1_0 a1_1 a2_0 a2_1 t402 t403))) = some r := H
    have A36 := Fa.mk A360
    clear A360
    replace H := Option.bind_eq_some_iff.mp H
    obtain ⟨⟨t406, t407, t408⟩, A370, H⟩ := H
    replace H : (if (t404 != t408) = true then (fleuronlaw01_NumField.j1 kj3 t404 true a0_0 a0_1 a1_0 a1_1 a2_0 a2_1 t402 t403) else (fleuronlaw01_NumField.j1 kj3 t404 (!(t402 == t406) || (!(t403 == t407))) a0_0 a0_1 a1_0 a1_1 a2_0 a2_1 t402 t403)) = some r := H
    have A37 := Fa.mk A370
    clear A370
    have HC38 := Fa.mk H
    clear H
    have hnb39 := NB395_396.out
    have hnc39 := NB396_395.out
    have hnb40 := NB395_397.out
    have hnc40 := NB397_395.out
    have hcz41_0 : wc.cell? ⟨gb395, 0, none⟩ = some (.int .i64 a0_0) := (blk_cell BK395.out 0).trans rfl
    have hcz41_1 : wc.cell? ⟨gb395, 1, none⟩ = some (.int .i64 a0_1) := (blk_cell BK395.out 1).trans rfl
    have hfz41_0 := blk_frozen BK395.out 0
    have hfz41_1 := blk_frozen BK395.out 1
    have hnb42 := NB396_397.out
    have hnc42 := NB397_396.out
    have hcz43_0 : wc.cell? ⟨gb396, 0, none⟩ = some (.int .i64 a1_0) := (blk_cell BK396.out 0).trans rfl
    have hcz43_1 : wc.cell? ⟨gb396, 1, none⟩ = some (.int .i64 a1_1) := (blk_cell BK396.out 1).trans rfl
    have hfz43_0 := blk_frozen BK396.out 0
    have hfz43_1 := blk_frozen BK396.out 1
    go_upto_region 5 with (first | ((with_reducible refine gate_callee (f := 30) rfl ?_); refine goesA (some 58) rfl rfl Tryd.func30 (by kernel_rfl) rfl #[.agg #[.int .i64 a0_0, .int .i64 a0_1], .agg #[.int .i64 a1_0, .int .i64 a1_1]] rfl ?_; (with_reducible refine (fleuronlaw01_sum.calls kj3 a0_0 a0_1 a1_0 a1_1 t402 t403 t404 _ A36.out).mono ?_); rintro e w44 ⟨rfl, hb⟩; refine ⟨_, rfl, ?_⟩; have hS := Stp.mk hb; clear hb) | ((with_reducible refine gate_dst (N := 7) rfl ?_); refine boxF (N := 7) (cs := #[.int .i64 0, .int .i64 0]) (t := 23) ?_; intro gb405 hg w45 hbox hb; have hS := Stp.mk hb; have BK395 := (⟨fa⟩ : Fa (w45.heap[gb395]? = some (.cells #[.int .i64 a0_0, .int .i64 a0_1] 23 (0, 0)))); have BK396 := (⟨fa⟩ : Fa (w45.heap[gb396]? = some (.cells #[.int .i64 a1_0, .int .i64 a1_1] 23 (0, 0)))); have BK405 := Fa.mk (hbox); have GW405 := Fa.mk (gle hg : w.heap.size ≤ gb405); have GE405 := GW405; have NB395_405 := Fa.mk (gne (o := .cells #[.int .i64 a0_0, .int .i64 a0_1] 23 (0, 0)) hg : gb395 ≠ gb405); have NB405_395 := Fa.mk NB395_405.out.symm; have NB396_405 := Fa.mk (gne (o := .cells #[.int .i64 a1_0, .int .i64 a1_1] 23 (0, 0)) hg : gb396 ≠ gb405); have NB405_396 := Fa.mk NB396_405.out.symm; have NB397_405 := Fa.mk (gne (o := .cells #[.int .i64 a2_0, .int .i64 a2_1] 23 (0, 0)) hg : gb397 ≠ gb405); have NB405_397 := Fa.mk NB397_405.out.symm; clear hb hbox hg; have hnb46 := NB405_395.out; have hnc46 := NB395_405.out; have hnb47 := NB405_396.out; have hnc47 := NB396_405.out; have hnb48 := NB405_397.out; have hnc48 := NB397_405.out; have hcz49_0 : w45.cell? ⟨gb405, 0, none⟩ = some (.int .i64 0) := (blk_cell BK405.out 0).trans rfl; have hcz49_1 : w45.cell? ⟨gb405, 1, none⟩ = some (.int .i64 0) := (blk_cell BK405.out 1).trans rfl; have hfz49_0 := blk_frozen BK405.out 0; have hfz49_1 := blk_frozen BK405.out 1; have hcz50_0 : w45.cell? ⟨gb396, 0, none⟩ = some (.int .i64 a1_0) := (blk_cell BK396.out 0).trans rfl; have hcz50_1 : w45.cell? ⟨gb396, 1, none⟩ = some (.int .i64 a1_1) := (blk_cell BK396.out 1).trans rfl; have hfz50_0 := blk_frozen BK396.out 0; have hfz50_1 := blk_frozen BK396.out 1; have hcz51_0 : w45.cell? ⟨gb395, 0, none⟩ = some (.int .i64 a0_0) := (blk_cell BK395.out 0).trans rfl; have hcz51_1 : w45.cell? ⟨gb395, 1, none⟩ = some (.int .i64 a0_1) := (blk_cell BK395.out 1).trans rfl; have hfz51_0 := blk_frozen BK395.out 0; have hfz51_1 := blk_frozen BK395.out 1) | ((with_reducible refine gate_callee (f := 30) rfl ?_); refine goesA (some 64) rfl rfl Tryd.func30 (by kernel_rfl) rfl #[.agg #[.int .i64 a1_0, .int .i64 a1_1], .agg #[.int .i64 a0_0, .int .i64 a0_1]] rfl ?_; (with_reducible refine (fleuronlaw01_sum.calls kj3 a1_0 a1_1 a0_0 a0_1 t406 t407 t408 _ A37.out).mono ?_); rintro e w52 ⟨rfl, hb⟩; refine ⟨_, rfl, ?_⟩; have hS := Stp.mk hb; have BK405 := Fa.mk (blk_below (g := gb405) (o := .cells #[.int .i64 t402, .int .i64 t403] 23 (0, 0)) (by (with_reducible repeat (first | refine blk_drewN ?_ _ | refine blk_drew ?_ | refine blk_alloc ?_ _)); refine blk_put (cs := #[.int .i64 t402, .int .i64 0]) ?_ 1 _ rfl; (with_reducible repeat (first | refine blk_drewN ?_ _ | refine blk_drew ?_ | refine blk_alloc ?_ _)); refine blk_put (cs := #[.int .i64 0, .int .i64 0]) ?_ 0 _ rfl; (with_reducible repeat (first | refine blk_drewN ?_ _ | refine blk_drew ?_ | refine blk_alloc ?_ _)); exact fa) hb); clear hb) | ((with_reducible refine gate_dst (N := 9) rfl ?_); refine boxF (N := 9) (cs := #[.int .i64 0, .int .i64 0]) (t := 23) ?_; intro gb409 hg w53 hbox hb; have hS := Stp.mk hb; have BK409 := Fa.mk (hbox); have GW409 := Fa.mk (gle hg : w.heap.size ≤ gb409); have GE409 := GW409; have NB395_409 := Fa.mk (gne (o := .cells #[.int .i64 a0_0, .int .i64 a0_1] 23 (0, 0)) hg : gb395 ≠ gb409); have NB409_395 := Fa.mk NB395_409.out.symm; have NB396_409 := Fa.mk (gne (o := .cells #[.int .i64 a1_0, .int .i64 a1_1] 23 (0, 0)) hg : gb396 ≠ gb409); have NB409_396 := Fa.mk NB396_409.out.symm; have NB397_409 := Fa.mk (gne (o := .cells #[.int .i64 a2_0, .int .i64 a2_1] 23 (0, 0)) hg : gb397 ≠ gb409); have NB409_397 := Fa.mk NB397_409.out.symm; have NB405_409 := Fa.mk (gne (o := .cells #[.int .i64 t402, .int .i64 t403] 23 (0, 0)) hg : gb405 ≠ gb409); have NB409_405 := Fa.mk NB405_409.out.symm; clear hb hbox hg; have hnb54 := NB409_395.out; have hnc54 := NB395_409.out; have hnb55 := NB409_396.out; have hnc55 := NB396_409.out; have hnb56 := NB409_397.out; have hnc56 := NB397_409.out; have hnb57 := NB409_405.out; have hnc57 := NB405_409.out; have hcz58_0 : w53.cell? ⟨gb409, 0, none⟩ = some (.int .i64 0) := (blk_cell BK409.out 0).trans rfl; have hcz58_1 : w53.cell? ⟨gb409, 1, none⟩ = some (.int .i64 0) := (blk_cell BK409.out 1).trans rfl; have hfz58_0 := blk_frozen BK409.out 0; have hfz58_1 := blk_frozen BK409.out 1))
    (try simp only [Act.put, List.setIfInBounds_toArray, List.set_cons_zero, List.set_cons_succ])
    go_cut [74] (fun v74 wc => ∃ (kq : Nat) (x74_37 : Bool), v74 = .bool x74_37 ∧ Fa (fleuronlaw01_NumField.j1 kq t404 x74_37 a0_0 a0_1 a1_0 a1_1 a2_0 a2_1 t402 t403 = some r) ∧ Fa (kq ≤ kj3) ∧ Fa (wc.heap[gb395]? = some (.cells #[.int .i64 a0_0, .int .i64 a0_1] 23 (0, 0))) ∧ Fa (wc.heap[gb396]? = some (.cells #[.int .i64 a1_0, .int .i64 a1_1] 23 (0, 0))) ∧ Fa (wc.heap[gb397]? = some (.cells #[.int .i64 a2_0, .int .i64 a2_1] 23 (0, 0))) ∧ Fa (wc.heap[gb405]? = some (.cells #[.int .i64 t402, .int .i64 t403] 23 (0, 0))) ∧ Fa (wc.heap[gb409]? = some (.cells #[.int .i64 t406, .int .i64 t407] 23 (0, 0))) ∧ Fa (Below w.heap.size w wc))
    case first =>
     as_aux_lemma =>
     have H := HC38.out
     clear HC38
     by_cases c59 : (t404 != t408) = true
     ·
      rw [if_pos c59] at H
      have c59b0 : (t404 != t408) = true := c59
      (try (have c59b1 : decide (t404 = t408) = false := by simpa using c59))
      (try (have c59b2 : (t404 == t408) = false := by simpa using c59))
      (try (have c59b3 : ¬ (t404 = t408) := by simpa using c59))
      clear c59
      (first | rw [c59b0] | (simp only [i64_w, i32_w]; rw [c59b0]) | skip)
      have H' := Fa.mk H
      clear H
      go_wp2
      go_meet
      case rel => exact ⟨_, (true), (by first | rfl | (simp; done) | (simp [*]; done)), H', ⟨by have := HJ3.out; first | omega | exact Nat.le_refl _⟩, ⟨by (with_reducible repeat (first | refine blk_drewN ?_ _ | refine blk_drew ?_ | refine blk_alloc ?_ _)); refine blk_far ?_ NB395_409.out _; (with_reducible repeat (first | refine blk_drewN ?_ _ | refine blk_drew ?_ | refine blk_alloc ?_ _)); refine blk_far ?_ NB395_409.out _; (with_reducible repeat (first | refine blk_drewN ?_ _ | refine blk_drew ?_ | refine blk_alloc ?_ _)); exact fa⟩, ⟨by (with_reducible repeat (first | refine blk_drewN ?_ _ | refine blk_drew ?_ | refine blk_alloc ?_ _)); refine blk_far ?_ NB396_409.out _; (with_reducible repeat (first | refine blk_drewN ?_ _ | refine blk_drew ?_ | refine blk_alloc ?_ _)); refine blk_far ?_ NB396_409.out _; (with_reducible repeat (first | refine blk_drewN ?_ _ | refine blk_drew ?_ | refine blk_alloc ?_ _)); exact fa⟩, ⟨by (with_reducible repeat (first | refine blk_drewN ?_ _ | refine blk_drew ?_ | refine blk_alloc ?_ _)); refine blk_far ?_ NB397_409.out _; (with_reducible repeat (first | refine blk_drewN ?_ _ | refine blk_drew ?_ | refine blk_alloc ?_ _)); refine blk_far ?_ NB397_409.out _; (with_reducible repeat (first | refine blk_drewN ?_ _ | refine blk_drew ?_ | refine blk_alloc ?_ _)); exact fa⟩, ⟨by (with_reducible repeat (first | refine blk_drewN ?_ _ | refine blk_drew ?_ | refine blk_alloc ?_ _)); refine blk_far ?_ NB405_409.out _; (with_reducible repeat (first | refine blk_drewN ?_ _ | refine blk_drew ?_ | refine blk_alloc ?_ _)); refine blk_far ?_ NB405_409.out _; (with_reducible repeat (first | refine blk_drewN ?_ _ | refine blk_drew ?_ | refine blk_alloc ?_ _)); exact fa⟩, ⟨by (with_reducible repeat (first | refine blk_drewN ?_ _ | refine blk_drew ?_ | refine blk_alloc ?_ _)); refine blk_put (cs := #[.int .i64 t406, .int .i64 0]) ?_ 1 _ rfl; (with_reducible repeat (first | refine blk_drewN ?_ _ | refine blk_drew ?_ | refine blk_alloc ?_ _)); refine blk_put (cs := #[.int .i64 0, .int .i64 0]) ?_ 0 _ rfl; (with_reducible repeat (first | refine blk_drewN ?_ _ | refine blk_drew ?_ | refine blk_alloc ?_ _)); exact fa⟩, ⟨fa⟩⟩
     ·
      rw [if_neg c59] at H
      have c59b0 : (t404 != t408) = false := by simpa using c59
      (try (have c59b1 : decide (t404 = t408) = true := by simpa using c59))
      (try (have c59b2 : (t404 == t408) = true := by simpa using c59))
      clear c59
      (first | rw [c59b0] | (simp only [i64_w, i32_w]; rw [c59b0]) | skip)
      have H' := Fa.mk H
      clear H
      have hnb60 := NB405_395.out
      have hnc60 := NB395_405.out
      have hnb61 := NB405_396.out
      have hnc61 := NB396_405.out
      have hnb62 := NB405_397.out
      have hnc62 := NB397_405.out
      have hnb63 := NB405_409.out
      have hnc63 := NB409_405.out
      have BK405 : Fa (w53.heap[gb405]? = some (.cells #[.int .i64 t402, .int .i64 t403] 23 (0, 0))) := ⟨fa⟩
      have hcz64_0 : w53.cell? ⟨gb405, 0, none⟩ = some (.int .i64 t402) := (blk_cell BK405.out 0).trans rfl
      have hcz64_1 : w53.cell? ⟨gb405, 1, none⟩ = some (.int .i64 t403) := (blk_cell BK405.out 1).trans rfl
      have hfz64_0 := blk_frozen BK405.out 0
      have hfz64_1 := blk_frozen BK405.out 1
      have hnb65 := NB409_395.out
      have hnc65 := NB395_409.out
      have hnb66 := NB409_396.out
      have hnc66 := NB396_409.out
      have hnb67 := NB409_397.out
      have hnc67 := NB397_409.out
      have hcz68_0 : w53.cell? ⟨gb409, 0, none⟩ = some (.int .i64 0) := (blk_cell BK409.out 0).trans rfl
      have hcz68_1 : w53.cell? ⟨gb409, 1, none⟩ = some (.int .i64 0) := (blk_cell BK409.out 1).trans rfl
      have hfz68_0 := blk_frozen BK409.out 0
      have hfz68_1 := blk_frozen BK409.out 1
      go_wp2
      go_meet
      case rel => exact ⟨_, ((!(t402 == t406) || (!(t403 == t407)))), (by first | rfl | (simp; done) | (simp [*]; done)), H', ⟨by have := HJ3.out; first | omega | exact Nat.le_refl _⟩, ⟨by (with_reducible repeat (first | refine blk_drewN ?_ _ | refine blk_drew ?_ | refine blk_alloc ?_ _)); refine blk_far ?_ NB395_409.out _; (with_reducible repeat (first | refine blk_drewN ?_ _ | refine blk_drew ?_ | refine blk_alloc ?_ _)); refine blk_far ?_ NB395_409.out _; (with_reducible repeat (first | refine blk_drewN ?_ _ | refine blk_drew ?_ | refine blk_alloc ?_ _)); exact fa⟩, ⟨by (with_reducible repeat (first | refine blk_drewN ?_ _ | refine blk_drew ?_ | refine blk_alloc ?_ _)); refine blk_far ?_ NB396_409.out _; (with_reducible repeat (first | refine blk_drewN ?_ _ | refine blk_drew ?_ | refine blk_alloc ?_ _)); refine blk_far ?_ NB396_409.out _; (with_reducible repeat (first | refine blk_drewN ?_ _ | refine blk_drew ?_ | refine blk_alloc ?_ _)); exact fa⟩, ⟨by (with_reducible repeat (first | refine blk_drewN ?_ _ | refine blk_drew ?_ | refine blk_alloc ?_ _)); refine blk_far ?_ NB397_409.out _; (with_reducible repeat (first | refine blk_drewN ?_ _ | refine blk_drew ?_ | refine blk_alloc ?_ _)); refine blk_far ?_ NB397_409.out _; (with_reducible repeat (first | refine blk_drewN ?_ _ | refine blk_drew ?_ | refine blk_alloc ?_ _)); exact fa⟩, ⟨by (with_reducible repeat (first | refine blk_drewN ?_ _ | refine blk_drew ?_ | refine blk_alloc ?_ _)); refine blk_far ?_ NB405_409.out _; (with_reducible repeat (first | refine blk_drewN ?_ _ | refine blk_drew ?_ | refine blk_alloc ?_ _)); refine blk_far ?_ NB405_409.out _; (with_reducible repeat (first | refine blk_drewN ?_ _ | refine blk_drew ?_ | refine blk_alloc ?_ _)); exact fa⟩, ⟨by (with_reducible repeat (first | refine blk_drewN ?_ _ | refine blk_drew ?_ | refine blk_alloc ?_ _)); refine blk_put (cs := #[.int .i64 t406, .int .i64 0]) ?_ 1 _ rfl; (with_reducible repeat (first | refine blk_drewN ?_ _ | refine blk_drew ?_ | refine blk_alloc ?_ _)); refine blk_put (cs := #[.int .i64 0, .int .i64 0]) ?_ 0 _ rfl; (with_reducible repeat (first | refine blk_drewN ?_ _ | refine blk_drew ?_ | refine blk_alloc ?_ _)); exact fa⟩, ⟨fa⟩⟩
    case rest =>
     as_aux_lemma =>
     clear HC38
     try clear p2
     try clear p2
     obtain ⟨kq, x74_37, rfl, HA, HJ37, BK395, BK396, BK397, BK405, BK409, HB⟩ := hcut
     cases kq with
     | zero => exact absurd HA.out (by simp [fleuronlaw01_NumField.j1])
     | succ kj37 =>
      have H := HA.out
      clear HA
      simp only [fleuronlaw01_NumField.j1] at H
      by_cases c69 : x74_37 = true
      ·
       subst c69
       have H1 : (none) = some r := by rw [if_pos rfl] at H; exact H
       clear H
       have H := H1
       clear H1
       exact absurd H (by simp)
      ·
       replace c69 := Bool.eq_false_iff.mpr c69
       subst c69
       have H1 : ((fleuronlaw01_product.f kj37 a0_0 a0_1 a1_0 a1_1).bind fun bt410 => ((fleuronlaw01_product.f kj37 a1_0 a1_1 a0_0 a0_1).bind fun bt414 => (if (bt410.2.2 != bt414.2.2) = true then (fleuronlaw01_NumField.j2 kj37 t404 bt410.2.2 true a0_0 a0_1 a1_0 a1_1 a2_0 a2_1 t402 t403 bt410.1 bt410.2.1) else (fleuronlaw01_NumField.j2 kj37 t404 bt410.2.2 (!(bt410.1 == bt414.1) || (!(bt410.2.1 == bt414.2.1))) a0_0 a0_1 a1_0 a1_1 a2_0 a2_1 t402 t403 bt410.1 bt410.2.1)))) = some r := by rw [if_neg (show ¬ (false = true) by decide)] at H; exact H
       clear H
       have H := H1
       clear H1
       replace H := Option.bind_eq_some_iff.mp H
       obtain ⟨⟨t410, t411, t412⟩, A700, H⟩ := H
       replace H : ((fleuronlaw01_product.f kj37 a1_0 a1_1 a0_0 a0_1).bind fun bt414 => (if (t412 != bt414.2.2) = true then (fleuronlaw01_NumField.j2 kj37 t404 t412 true a0_0 a0_1 a1_0 a1_1 a2_0 a2_1 t402 t403 t410 t411) else (fleuronlaw01_NumField.j2 kj37 t404 t412 (!(t410 == bt414.1) || (!(t411 == bt414.2.1))) a0_0 a0_1 a1_0 a1_1 a2_0 a2_1 t402 t403 t410 t411))) = some r := H
       have A70 := Fa.mk A700
       clear A700
       replace H := Option.bind_eq_some_iff.mp H
       obtain ⟨⟨t414, t415, t416⟩, A710, H⟩ := H
       replace H : (if (t412 != t416) = true then (fleuronlaw01_NumField.j2 kj37 t404 t412 true a0_0 a0_1 a1_0 a1_1 a2_0 a2_1 t402 t403 t410 t411) else (fleuronlaw01_NumField.j2 kj37 t404 t412 (!(t410 == t414) || (!(t411 == t415))) a0_0 a0_1 a1_0 a1_1 a2_0 a2_1 t402 t403 t410 t411)) = some r := H
       have A71 := Fa.mk A710
       clear A710
       have HC72 := Fa.mk H
       clear H
       have hnb73 := NB395_396.out
       have hnc73 := NB396_395.out
       have hnb74 := NB395_397.out
       have hnc74 := NB397_395.out
       have hnb75 := NB395_405.out
       have hnc75 := NB405_395.out
       have hnb76 := NB395_409.out
       have hnc76 := NB409_395.out
       have hcz77_0 : wc.cell? ⟨gb395, 0, none⟩ = some (.int .i64 a0_0) := (blk_cell BK395.out 0).trans rfl
       have hcz77_1 : wc.cell? ⟨gb395, 1, none⟩ = some (.int .i64 a0_1) := (blk_cell BK395.out 1).trans rfl
       have hfz77_0 := blk_frozen BK395.out 0
       have hfz77_1 := blk_frozen BK395.out 1
       have hnb78 := NB396_397.out
       have hnc78 := NB397_396.out
       have hnb79 := NB396_405.out
       have hnc79 := NB405_396.out
       have hnb80 := NB396_409.out
       have hnc80 := NB409_396.out
       have hcz81_0 : wc.cell? ⟨gb396, 0, none⟩ = some (.int .i64 a1_0) := (blk_cell BK396.out 0).trans rfl
       have hcz81_1 : wc.cell? ⟨gb396, 1, none⟩ = some (.int .i64 a1_1) := (blk_cell BK396.out 1).trans rfl
       have hfz81_0 := blk_frozen BK396.out 0
       have hfz81_1 := blk_frozen BK396.out 1
       go_upto_region 9 with (first | ((with_reducible refine gate_callee (f := 31) rfl ?_); refine goesA (some 78) rfl rfl Tryd.func31 (by kernel_rfl) rfl #[.agg #[.int .i64 a0_0, .int .i64 a0_1], .agg #[.int .i64 a1_0, .int .i64 a1_1]] rfl ?_; (with_reducible refine (fleuronlaw01_product.calls kj37 a0_0 a0_1 a1_0 a1_1 t410 t411 t412 _ A70.out).mono ?_); rintro e w82 ⟨rfl, hb⟩; refine ⟨_, rfl, ?_⟩; have hS := Stp.mk hb; clear hb) | ((with_reducible refine gate_dst (N := 11) rfl ?_); refine boxF (N := 11) (cs := #[.int .i64 0, .int .i64 0]) (t := 23) ?_; intro gb413 hg w83 hbox hb; have hS := Stp.mk hb; have BK395 := (⟨fa⟩ : Fa (w83.heap[gb395]? = some (.cells #[.int .i64 a0_0, .int .i64 a0_1] 23 (0, 0)))); have BK396 := (⟨fa⟩ : Fa (w83.heap[gb396]? = some (.cells #[.int .i64 a1_0, .int .i64 a1_1] 23 (0, 0)))); have BK413 := Fa.mk (hbox); have GW413 := Fa.mk (gle hg : w.heap.size ≤ gb413); have GE413 := GW413; have NB395_413 := Fa.mk (gne (o := .cells #[.int .i64 a0_0, .int .i64 a0_1] 23 (0, 0)) hg : gb395 ≠ gb413); have NB413_395 := Fa.mk NB395_413.out.symm; have NB396_413 := Fa.mk (gne (o := .cells #[.int .i64 a1_0, .int .i64 a1_1] 23 (0, 0)) hg : gb396 ≠ gb413); have NB413_396 := Fa.mk NB396_413.out.symm; have NB397_413 := Fa.mk (gne (o := .cells #[.int .i64 a2_0, .int .i64 a2_1] 23 (0, 0)) hg : gb397 ≠ gb413); have NB413_397 := Fa.mk NB397_413.out.symm; have NB405_413 := Fa.mk (gne (o := .cells #[.int .i64 t402, .int .i64 t403] 23 (0, 0)) hg : gb405 ≠ gb413); have NB413_405 := Fa.mk NB405_413.out.symm; have NB409_413 := Fa.mk (gne (o := .cells #[.int .i64 t406, .int .i64 t407] 23 (0, 0)) hg : gb409 ≠ gb413); have NB413_409 := Fa.mk NB409_413.out.symm; clear hb hbox hg; have hnb84 := NB413_395.out; have hnc84 := NB395_413.out; have hnb85 := NB413_396.out; have hnc85 := NB396_413.out; have hnb86 := NB413_397.out; have hnc86 := NB397_413.out; have hnb87 := NB413_405.out; have hnc87 := NB405_413.out; have hnb88 := NB413_409.out; have hnc88 := NB409_413.out; have hcz89_0 : w83.cell? ⟨gb413, 0, none⟩ = some (.int .i64 0) := (blk_cell BK413.out 0).trans rfl; have hcz89_1 : w83.cell? ⟨gb413, 1, none⟩ = some (.int .i64 0) := (blk_cell BK413.out 1).trans rfl; have hfz89_0 := blk_frozen BK413.out 0; have hfz89_1 := blk_frozen BK413.out 1; have hcz90_0 : w83.cell? ⟨gb396, 0, none⟩ = some (.int .i64 a1_0) := (blk_cell BK396.out 0).trans rfl; have hcz90_1 : w83.cell? ⟨gb396, 1, none⟩ = some (.int .i64 a1_1) := (blk_cell BK396.out 1).trans rfl; have hfz90_0 := blk_frozen BK396.out 0; have hfz90_1 := blk_frozen BK396.out 1; have hcz91_0 : w83.cell? ⟨gb395, 0, none⟩ = some (.int .i64 a0_0) := (blk_cell BK395.out 0).trans rfl; have hcz91_1 : w83.cell? ⟨gb395, 1, none⟩ = some (.int .i64 a0_1) := (blk_cell BK395.out 1).trans rfl; have hfz91_0 := blk_frozen BK395.out 0; have hfz91_1 := blk_frozen BK395.out 1) | ((with_reducible refine gate_callee (f := 31) rfl ?_); refine goesA (some 84) rfl rfl Tryd.func31 (by kernel_rfl) rfl #[.agg #[.int .i64 a1_0, .int .i64 a1_1], .agg #[.int .i64 a0_0, .int .i64 a0_1]] rfl ?_; (with_reducible refine (fleuronlaw01_product.calls kj37 a1_0 a1_1 a0_0 a0_1 t414 t415 t416 _ A71.out).mono ?_); rintro e w92 ⟨rfl, hb⟩; refine ⟨_, rfl, ?_⟩; have hS := Stp.mk hb; have BK413 := Fa.mk (blk_below (g := gb413) (o := .cells #[.int .i64 t410, .int .i64 t411] 23 (0, 0)) (by (with_reducible repeat (first | refine blk_drewN ?_ _ | refine blk_drew ?_ | refine blk_alloc ?_ _)); refine blk_put (cs := #[.int .i64 t410, .int .i64 0]) ?_ 1 _ rfl; (with_reducible repeat (first | refine blk_drewN ?_ _ | refine blk_drew ?_ | refine blk_alloc ?_ _)); refine blk_put (cs := #[.int .i64 0, .int .i64 0]) ?_ 0 _ rfl; (with_reducible repeat (first | refine blk_drewN ?_ _ | refine blk_drew ?_ | refine blk_alloc ?_ _)); exact fa) hb); clear hb) | ((with_reducible refine gate_dst (N := 13) rfl ?_); refine boxF (N := 13) (cs := #[.int .i64 0, .int .i64 0]) (t := 23) ?_; intro gb417 hg w93 hbox hb; have hS := Stp.mk hb; have BK417 := Fa.mk (hbox); have GW417 := Fa.mk (gle hg : w.heap.size ≤ gb417); have GE417 := GW417; have NB395_417 := Fa.mk (gne (o := .cells #[.int .i64 a0_0, .int .i64 a0_1] 23 (0, 0)) hg : gb395 ≠ gb417); have NB417_395 := Fa.mk NB395_417.out.symm; have NB396_417 := Fa.mk (gne (o := .cells #[.int .i64 a1_0, .int .i64 a1_1] 23 (0, 0)) hg : gb396 ≠ gb417); have NB417_396 := Fa.mk NB396_417.out.symm; have NB397_417 := Fa.mk (gne (o := .cells #[.int .i64 a2_0, .int .i64 a2_1] 23 (0, 0)) hg : gb397 ≠ gb417); have NB417_397 := Fa.mk NB397_417.out.symm; have NB405_417 := Fa.mk (gne (o := .cells #[.int .i64 t402, .int .i64 t403] 23 (0, 0)) hg : gb405 ≠ gb417); have NB417_405 := Fa.mk NB405_417.out.symm; have NB409_417 := Fa.mk (gne (o := .cells #[.int .i64 t406, .int .i64 t407] 23 (0, 0)) hg : gb409 ≠ gb417); have NB417_409 := Fa.mk NB409_417.out.symm; have NB413_417 := Fa.mk (gne (o := .cells #[.int .i64 t410, .int .i64 t411] 23 (0, 0)) hg : gb413 ≠ gb417); have NB417_413 := Fa.mk NB413_417.out.symm; clear hb hbox hg; have hnb94 := NB417_395.out; have hnc94 := NB395_417.out; have hnb95 := NB417_396.out; have hnc95 := NB396_417.out; have hnb96 := NB417_397.out; have hnc96 := NB397_417.out; have hnb97 := NB417_405.out; have hnc97 := NB405_417.out; have hnb98 := NB417_409.out; have hnc98 := NB409_417.out; have hnb99 := NB417_413.out; have hnc99 := NB413_417.out; have hcz100_0 : w93.cell? ⟨gb417, 0, none⟩ = some (.int .i64 0) := (blk_cell BK417.out 0).trans rfl; have hcz100_1 : w93.cell? ⟨gb417, 1, none⟩ = some (.int .i64 0) := (blk_cell BK417.out 1).trans rfl; have hfz100_0 := blk_frozen BK417.out 0; have hfz100_1 := blk_frozen BK417.out 1))
       (try simp only [Act.put, List.setIfInBounds_toArray, List.set_cons_zero, List.set_cons_succ])
       go_cut [94] (fun v94 wc => ∃ (kq : Nat) (x94_71 : Bool), v94 = .bool x94_71 ∧ Fa (fleuronlaw01_NumField.j2 kq t404 t412 x94_71 a0_0 a0_1 a1_0 a1_1 a2_0 a2_1 t402 t403 t410 t411 = some r) ∧ Fa (kq ≤ kj37) ∧ Fa (wc.heap[gb395]? = some (.cells #[.int .i64 a0_0, .int .i64 a0_1] 23 (0, 0))) ∧ Fa (wc.heap[gb396]? = some (.cells #[.int .i64 a1_0, .int .i64 a1_1] 23 (0, 0))) ∧ Fa (wc.heap[gb397]? = some (.cells #[.int .i64 a2_0, .int .i64 a2_1] 23 (0, 0))) ∧ Fa (wc.heap[gb405]? = some (.cells #[.int .i64 t402, .int .i64 t403] 23 (0, 0))) ∧ Fa (wc.heap[gb409]? = some (.cells #[.int .i64 t406, .int .i64 t407] 23 (0, 0))) ∧ Fa (wc.heap[gb413]? = some (.cells #[.int .i64 t410, .int .i64 t411] 23 (0, 0))) ∧ Fa (wc.heap[gb417]? = some (.cells #[.int .i64 t414, .int .i64 t415] 23 (0, 0))) ∧ Fa (Below w.heap.size w wc))
       case first =>
        as_aux_lemma =>
        have H := HC72.out
        clear HC72
        by_cases c101 : (t412 != t416) = true
        ·
         rw [if_pos c101] at H
         have c101b0 : (t412 != t416) = true := c101
         (try (have c101b1 : decide (t412 = t416) = false := by simpa using c101))
         (try (have c101b2 : (t412 == t416) = false := by simpa using c101))
         (try (have c101b3 : ¬ (t412 = t416) := by simpa using c101))
         clear c101
         (first | rw [c101b0] | (simp only [i64_w, i32_w]; rw [c101b0]) | skip)
         have H' := Fa.mk H
         clear H
         go_wp2
         go_meet
         case rel => exact ⟨_, (true), (by first | rfl | (simp; done) | (simp [*]; done)), H', ⟨by have := HJ3.out; have := HJ37.out; first | omega | exact Nat.le_refl _⟩, ⟨by (with_reducible repeat (first | refine blk_drewN ?_ _ | refine blk_drew ?_ | refine blk_alloc ?_ _)); refine blk_far ?_ NB395_417.out _; (with_reducible repeat (first | refine blk_drewN ?_ _ | refine blk_drew ?_ | refine blk_alloc ?_ _)); refine blk_far ?_ NB395_417.out _; (with_reducible repeat (first | refine blk_drewN ?_ _ | refine blk_drew ?_ | refine blk_alloc ?_ _)); exact fa⟩, ⟨by (with_reducible repeat (first | refine blk_drewN ?_ _ | refine blk_drew ?_ | refine blk_alloc ?_ _)); refine blk_far ?_ NB396_417.out _; (with_reducible repeat (first | refine blk_drewN ?_ _ | refine blk_drew ?_ | refine blk_alloc ?_ _)); refine blk_far ?_ NB396_417.out _; (with_reducible repeat (first | refine blk_drewN ?_ _ | refine blk_drew ?_ | refine blk_alloc ?_ _)); exact fa⟩, ⟨by (with_reducible repeat (first | refine blk_drewN ?_ _ | refine blk_drew ?_ | refine blk_alloc ?_ _)); refine blk_far ?_ NB397_417.out _; (with_reducible repeat (first | refine blk_drewN ?_ _ | refine blk_drew ?_ | refine blk_alloc ?_ _)); refine blk_far ?_ NB397_417.out _; (with_reducible repeat (first | refine blk_drewN ?_ _ | refine blk_drew ?_ | refine blk_alloc ?_ _)); exact fa⟩, ⟨by (with_reducible repeat (first | refine blk_drewN ?_ _ | refine blk_drew ?_ | refine blk_alloc ?_ _)); refine blk_far ?_ NB405_417.out _; (with_reducible repeat (first | refine blk_drewN ?_ _ | refine blk_drew ?_ | refine blk_alloc ?_ _)); refine blk_far ?_ NB405_417.out _; (with_reducible repeat (first | refine blk_drewN ?_ _ | refine blk_drew ?_ | refine blk_alloc ?_ _)); exact fa⟩, ⟨by (with_reducible repeat (first | refine blk_drewN ?_ _ | refine blk_drew ?_ | refine blk_alloc ?_ _)); refine blk_far ?_ NB409_417.out _; (with_reducible repeat (first | refine blk_drewN ?_ _ | refine blk_drew ?_ | refine blk_alloc ?_ _)); refine blk_far ?_ NB409_417.out _; (with_reducible repeat (first | refine blk_drewN ?_ _ | refine blk_drew ?_ | refine blk_alloc ?_ _)); exact fa⟩, ⟨by (with_reducible repeat (first | refine blk_drewN ?_ _ | refine blk_drew ?_ | refine blk_alloc ?_ _)); refine blk_far ?_ NB413_417.out _; (with_reducible repeat (first | refine blk_drewN ?_ _ | refine blk_drew ?_ | refine blk_alloc ?_ _)); refine blk_far ?_ NB413_417.out _; (with_reducible repeat (first | refine blk_drewN ?_ _ | refine blk_drew ?_ | refine blk_alloc ?_ _)); exact fa⟩, ⟨by (with_reducible repeat (first | refine blk_drewN ?_ _ | refine blk_drew ?_ | refine blk_alloc ?_ _)); refine blk_put (cs := #[.int .i64 t414, .int .i64 0]) ?_ 1 _ rfl; (with_reducible repeat (first | refine blk_drewN ?_ _ | refine blk_drew ?_ | refine blk_alloc ?_ _)); refine blk_put (cs := #[.int .i64 0, .int .i64 0]) ?_ 0 _ rfl; (with_reducible repeat (first | refine blk_drewN ?_ _ | refine blk_drew ?_ | refine blk_alloc ?_ _)); exact fa⟩, ⟨fa⟩⟩
        ·
         rw [if_neg c101] at H
         have c101b0 : (t412 != t416) = false := by simpa using c101
         (try (have c101b1 : decide (t412 = t416) = true := by simpa using c101))
         (try (have c101b2 : (t412 == t416) = true := by simpa using c101))
         clear c101
         (first | rw [c101b0] | (simp only [i64_w, i32_w]; rw [c101b0]) | skip)
         have H' := Fa.mk H
         clear H
         have hnb102 := NB413_395.out
         have hnc102 := NB395_413.out
         have hnb103 := NB413_396.out
         have hnc103 := NB396_413.out
         have hnb104 := NB413_397.out
         have hnc104 := NB397_413.out
         have hnb105 := NB413_405.out
         have hnc105 := NB405_413.out
         have hnb106 := NB413_409.out
         have hnc106 := NB409_413.out
         have hnb107 := NB413_417.out
         have hnc107 := NB417_413.out
         have BK413 : Fa (w93.heap[gb413]? = some (.cells #[.int .i64 t410, .int .i64 t411] 23 (0, 0))) := ⟨fa⟩
         have hcz108_0 : w93.cell? ⟨gb413, 0, none⟩ = some (.int .i64 t410) := (blk_cell BK413.out 0).trans rfl
         have hcz108_1 : w93.cell? ⟨gb413, 1, none⟩ = some (.int .i64 t411) := (blk_cell BK413.out 1).trans rfl
         have hfz108_0 := blk_frozen BK413.out 0
         have hfz108_1 := blk_frozen BK413.out 1
         have hnb109 := NB417_395.out
         have hnc109 := NB395_417.out
         have hnb110 := NB417_396.out
         have hnc110 := NB396_417.out
         have hnb111 := NB417_397.out
         have hnc111 := NB397_417.out
         have hnb112 := NB417_405.out
         have hnc112 := NB405_417.out
         have hnb113 := NB417_409.out
         have hnc113 := NB409_417.out
         have hcz114_0 : w93.cell? ⟨gb417, 0, none⟩ = some (.int .i64 0) := (blk_cell BK417.out 0).trans rfl
         have hcz114_1 : w93.cell? ⟨gb417, 1, none⟩ = some (.int .i64 0) := (blk_cell BK417.out 1).trans rfl
         have hfz114_0 := blk_frozen BK417.out 0
         have hfz114_1 := blk_frozen BK417.out 1
         go_wp2
         go_meet
         case rel => exact ⟨_, ((!(t410 == t414) || (!(t411 == t415)))), (by first | rfl | (simp; done) | (simp [*]; done)), H', ⟨by have := HJ3.out; have := HJ37.out; first | omega | exact Nat.le_refl _⟩, ⟨by (with_reducible repeat (first | refine blk_drewN ?_ _ | refine blk_drew ?_ | refine blk_alloc ?_ _)); refine blk_far ?_ NB395_417.out _; (with_reducible repeat (first | refine blk_drewN ?_ _ | refine blk_drew ?_ | refine blk_alloc ?_ _)); refine blk_far ?_ NB395_417.out _; (with_reducible repeat (first | refine blk_drewN ?_ _ | refine blk_drew ?_ | refine blk_alloc ?_ _)); exact fa⟩, ⟨by (with_reducible repeat (first | refine blk_drewN ?_ _ | refine blk_drew ?_ | refine blk_alloc ?_ _)); refine blk_far ?_ NB396_417.out _; (with_reducible repeat (first | refine blk_drewN ?_ _ | refine blk_drew ?_ | refine blk_alloc ?_ _)); refine blk_far ?_ NB396_417.out _; (with_reducible repeat (first | refine blk_drewN ?_ _ | refine blk_drew ?_ | refine blk_alloc ?_ _)); exact fa⟩, ⟨by (with_reducible repeat (first | refine blk_drewN ?_ _ | refine blk_drew ?_ | refine blk_alloc ?_ _)); refine blk_far ?_ NB397_417.out _; (with_reducible repeat (first | refine blk_drewN ?_ _ | refine blk_drew ?_ | refine blk_alloc ?_ _)); refine blk_far ?_ NB397_417.out _; (with_reducible repeat (first | refine blk_drewN ?_ _ | refine blk_drew ?_ | refine blk_alloc ?_ _)); exact fa⟩, ⟨by (with_reducible repeat (first | refine blk_drewN ?_ _ | refine blk_drew ?_ | refine blk_alloc ?_ _)); refine blk_far ?_ NB405_417.out _; (with_reducible repeat (first | refine blk_drewN ?_ _ | refine blk_drew ?_ | refine blk_alloc ?_ _)); refine blk_far ?_ NB405_417.out _; (with_reducible repeat (first | refine blk_drewN ?_ _ | refine blk_drew ?_ | refine blk_alloc ?_ _)); exact fa⟩, ⟨by (with_reducible repeat (first | refine blk_drewN ?_ _ | refine blk_drew ?_ | refine blk_alloc ?_ _)); refine blk_far ?_ NB409_417.out _; (with_reducible repeat (first | refine blk_drewN ?_ _ | refine blk_drew ?_ | refine blk_alloc ?_ _)); refine blk_far ?_ NB409_417.out _; (with_reducible repeat (first | refine blk_drewN ?_ _ | refine blk_drew ?_ | refine blk_alloc ?_ _)); exact fa⟩, ⟨by (with_reducible repeat (first | refine blk_drewN ?_ _ | refine blk_drew ?_ | refine blk_alloc ?_ _)); refine blk_far ?_ NB413_417.out _; (with_reducible repeat (first | refine blk_drewN ?_ _ | refine blk_drew ?_ | refine blk_alloc ?_ _)); refine blk_far ?_ NB413_417.out _; (with_reducible repeat (first | refine blk_drewN ?_ _ | refine blk_drew ?_ | refine blk_alloc ?_ _)); exact fa⟩, ⟨by (with_reducible repeat (first | refine blk_drewN ?_ _ | refine blk_drew ?_ | refine blk_alloc ?_ _)); refine blk_put (cs := #[.int .i64 t414, .int .i64 0]) ?_ 1 _ rfl; (with_reducible repeat (first | refine blk_drewN ?_ _ | refine blk_drew ?_ | refine blk_alloc ?_ _)); refine blk_put (cs := #[.int .i64 0, .int .i64 0]) ?_ 0 _ rfl; (with_reducible repeat (first | refine blk_drewN ?_ _ | refine blk_drew ?_ | refine blk_alloc ?_ _)); exact fa⟩, ⟨fa⟩⟩
       case rest =>
        as_aux_lemma =>
        clear HC72
        try clear p2
        try clear p2
        obtain ⟨kq, x94_71, rfl, HA, HJ71, BK395, BK396, BK397, BK405, BK409, BK413, BK417, HB⟩ := hcut
        cases kq with
        | zero => exact absurd HA.out (by simp [fleuronlaw01_NumField.j2])
        | succ kj71 =>
         have H := HA.out
         clear HA
         simp only [fleuronlaw01_NumField.j2] at H
         by_cases c115 : x94_71 = true
         ·
          subst c115
          have H1 : (none) = some r := by rw [if_pos rfl] at H; exact H
          clear H
          have H := H1
          clear H1
          exact absurd H (by simp)
         ·
          replace c115 := Bool.eq_false_iff.mpr c115
          subst c115
          have H1 : (if t404 = true then ((num_Sub.f kj71 t402 t403 a1_0 a1_1).bind fun bt418 => (if bt418.2.2 = 0 then (fleuronlaw01_NumField.j3 kj71 t412 (!(bt418.1 == a0_0) || (!(bt418.2.1 == a0_1))) a0_0 a0_1 a1_0 a1_1 a2_0 a2_1 t402 t403 t410 t411) else (fleuronlaw01_NumField.j3 kj71 t412 true a0_0 a0_1 a1_0 a1_1 a2_0 a2_1 t402 t403 t410 t411))) else (fleuronlaw01_NumField.j4 kj71 t412 a0_0 a0_1 a1_0 a1_1 a2_0 a2_1 t410 t411)) = some r := by rw [if_neg (show ¬ (false = true) by decide)] at H; exact H
          clear H
          have H := H1
          clear H1
          have HC116 := Fa.mk H
          clear H
          go_upto_if 95 with (fail)
          go_cut [] (fun wc => ∃ (kq : Nat), Fa (fleuronlaw01_NumField.j4 kq t412 a0_0 a0_1 a1_0 a1_1 a2_0 a2_1 t410 t411 = some r) ∧ Fa (kq ≤ kj71) ∧ Fa (wc.heap[gb395]? = some (.cells #[.int .i64 a0_0, .int .i64 a0_1] 23 (0, 0))) ∧ Fa (wc.heap[gb396]? = some (.cells #[.int .i64 a1_0, .int .i64 a1_1] 23 (0, 0))) ∧ Fa (wc.heap[gb397]? = some (.cells #[.int .i64 a2_0, .int .i64 a2_1] 23 (0, 0))) ∧ Fa (wc.heap[gb405]? = some (.cells #[.int .i64 t402, .int .i64 t403] 23 (0, 0))) ∧ Fa (wc.heap[gb409]? = some (.cells #[.int .i64 t406, .int .i64 t407] 23 (0, 0))) ∧ Fa (wc.heap[gb413]? = some (.cells #[.int .i64 t410, .int .i64 t411] 23 (0, 0))) ∧ Fa (wc.heap[gb417]? = some (.cells #[.int .i64 t414, .int .i64 t415] 23 (0, 0))) ∧ Fa (Below w.heap.size w wc))
          case first =>
           as_aux_lemma =>
           have H := HC116.out
           clear HC116
           by_cases c117 : t404 = true
           ·
            subst c117
            have H1 : ((num_Sub.f kj71 t402 t403 a1_0 a1_1).bind fun bt418 => (if bt418.2.2 = 0 then (fleuronlaw01_NumField.j3 kj71 t412 (!(bt418.1 == a0_0) || (!(bt418.2.1 == a0_1))) a0_0 a0_1 a1_0 a1_1 a2_0 a2_1 t402 t403 t410 t411) else (fleuronlaw01_NumField.j3 kj71 t412 true a0_0 a0_1 a1_0 a1_1 a2_0 a2_1 t402 t403 t410 t411))) = some r := by rw [if_pos rfl] at H; exact H
            clear H
            have H := H1
            clear H1
            replace H := Option.bind_eq_some_iff.mp H
            obtain ⟨⟨t418, t419, t420⟩, A1180, H⟩ := H
            replace H : (if t420 = 0 then (fleuronlaw01_NumField.j3 kj71 t412 (!(t418 == a0_0) || (!(t419 == a0_1))) a0_0 a0_1 a1_0 a1_1 a2_0 a2_1 t402 t403 t410 t411) else (fleuronlaw01_NumField.j3 kj71 t412 true a0_0 a0_1 a1_0 a1_1 a2_0 a2_1 t402 t403 t410 t411)) = some r := H
            have A118 := Fa.mk A1180
            clear A1180
            have HC119 := Fa.mk H
            clear H
            have hnb120 := NB405_395.out
            have hnc120 := NB395_405.out
            have hnb121 := NB405_396.out
            have hnc121 := NB396_405.out
            have hnb122 := NB405_397.out
            have hnc122 := NB397_405.out
            have hnb123 := NB405_409.out
            have hnc123 := NB409_405.out
            have hnb124 := NB405_413.out
            have hnc124 := NB413_405.out
            have hnb125 := NB405_417.out
            have hnc125 := NB417_405.out
            have hcz126_0 : wc.cell? ⟨gb405, 0, none⟩ = some (.int .i64 t402) := (blk_cell BK405.out 0).trans rfl
            have hcz126_1 : wc.cell? ⟨gb405, 1, none⟩ = some (.int .i64 t403) := (blk_cell BK405.out 1).trans rfl
            have hfz126_0 := blk_frozen BK405.out 0
            have hfz126_1 := blk_frozen BK405.out 1
            have hnb127 := NB396_395.out
            have hnc127 := NB395_396.out
            have hnb128 := NB396_397.out
            have hnc128 := NB397_396.out
            have hnb129 := NB396_409.out
            have hnc129 := NB409_396.out
            have hnb130 := NB396_413.out
            have hnc130 := NB413_396.out
            have hnb131 := NB396_417.out
            have hnc131 := NB417_396.out
            have hcz132_0 : wc.cell? ⟨gb396, 0, none⟩ = some (.int .i64 a1_0) := (blk_cell BK396.out 0).trans rfl
            have hcz132_1 : wc.cell? ⟨gb396, 1, none⟩ = some (.int .i64 a1_1) := (blk_cell BK396.out 1).trans rfl
            have hfz132_0 := blk_frozen BK396.out 0
            have hfz132_1 := blk_frozen BK396.out 1
            go_upto_region 13 with (first | ((with_reducible refine gate_callee (f := 24) rfl ?_); refine goesA (some 99) rfl rfl Tryd.func24 (by kernel_rfl) rfl #[.agg #[.int .i64 t402, .int .i64 t403], .agg #[.int .i64 a1_0, .int .i64 a1_1]] rfl ?_; (with_reducible refine (num_Sub.calls kj71 t402 t403 a1_0 a1_1 t418 t419 t420 _ A118.out).mono ?_); rintro e w133 ⟨rfl, hb⟩; refine ⟨_, rfl, ?_⟩; have hS := Stp.mk hb; clear hb) | ((with_reducible refine gate_dst (N := 15) rfl ?_); refine boxF (N := 15) (cs := #[.int .i64 0, .int .i64 0]) (t := 23) ?_; intro gb421 hg w134 hbox hb; have hS := Stp.mk hb; have BK421 := Fa.mk (hbox); have GW421 := Fa.mk (gle hg : w.heap.size ≤ gb421); have GE421 := GW421; have NB395_421 := Fa.mk (gne (o := .cells #[.int .i64 a0_0, .int .i64 a0_1] 23 (0, 0)) hg : gb395 ≠ gb421); have NB421_395 := Fa.mk NB395_421.out.symm; have NB396_421 := Fa.mk (gne (o := .cells #[.int .i64 a1_0, .int .i64 a1_1] 23 (0, 0)) hg : gb396 ≠ gb421); have NB421_396 := Fa.mk NB396_421.out.symm; have NB397_421 := Fa.mk (gne (o := .cells #[.int .i64 a2_0, .int .i64 a2_1] 23 (0, 0)) hg : gb397 ≠ gb421); have NB421_397 := Fa.mk NB397_421.out.symm; have NB405_421 := Fa.mk (gne (o := .cells #[.int .i64 t402, .int .i64 t403] 23 (0, 0)) hg : gb405 ≠ gb421); have NB421_405 := Fa.mk NB405_421.out.symm; have NB409_421 := Fa.mk (gne (o := .cells #[.int .i64 t406, .int .i64 t407] 23 (0, 0)) hg : gb409 ≠ gb421); have NB421_409 := Fa.mk NB409_421.out.symm; have NB413_421 := Fa.mk (gne (o := .cells #[.int .i64 t410, .int .i64 t411] 23 (0, 0)) hg : gb413 ≠ gb421); have NB421_413 := Fa.mk NB413_421.out.symm; have NB417_421 := Fa.mk (gne (o := .cells #[.int .i64 t414, .int .i64 t415] 23 (0, 0)) hg : gb417 ≠ gb421); have NB421_417 := Fa.mk NB417_421.out.symm; clear hb hbox hg; have hnb135 := NB421_395.out; have hnc135 := NB395_421.out; have hnb136 := NB421_396.out; have hnc136 := NB396_421.out; have hnb137 := NB421_397.out; have hnc137 := NB397_421.out; have hnb138 := NB421_405.out; have hnc138 := NB405_421.out; have hnb139 := NB421_409.out; have hnc139 := NB409_421.out; have hnb140 := NB421_413.out; have hnc140 := NB413_421.out; have hnb141 := NB421_417.out; have hnc141 := NB417_421.out; have hcz142_0 : w134.cell? ⟨gb421, 0, none⟩ = some (.int .i64 0) := (blk_cell BK421.out 0).trans rfl; have hcz142_1 : w134.cell? ⟨gb421, 1, none⟩ = some (.int .i64 0) := (blk_cell BK421.out 1).trans rfl; have hfz142_0 := blk_frozen BK421.out 0; have hfz142_1 := blk_frozen BK421.out 1))
            (try simp only [Act.put, List.setIfInBounds_toArray, List.set_cons_zero, List.set_cons_succ])
            go_cut [108] (fun v108 wc => ∃ (kq : Nat) (x108_118 : Bool), v108 = .bool x108_118 ∧ Fa (fleuronlaw01_NumField.j3 kq t412 x108_118 a0_0 a0_1 a1_0 a1_1 a2_0 a2_1 t402 t403 t410 t411 = some r) ∧ Fa (kq ≤ kj71) ∧ Fa (wc.heap[gb395]? = some (.cells #[.int .i64 a0_0, .int .i64 a0_1] 23 (0, 0))) ∧ Fa (wc.heap[gb396]? = some (.cells #[.int .i64 a1_0, .int .i64 a1_1] 23 (0, 0))) ∧ Fa (wc.heap[gb397]? = some (.cells #[.int .i64 a2_0, .int .i64 a2_1] 23 (0, 0))) ∧ Fa (wc.heap[gb405]? = some (.cells #[.int .i64 t402, .int .i64 t403] 23 (0, 0))) ∧ Fa (wc.heap[gb409]? = some (.cells #[.int .i64 t406, .int .i64 t407] 23 (0, 0))) ∧ Fa (wc.heap[gb413]? = some (.cells #[.int .i64 t410, .int .i64 t411] 23 (0, 0))) ∧ Fa (wc.heap[gb417]? = some (.cells #[.int .i64 t414, .int .i64 t415] 23 (0, 0))) ∧ Fa (wc.heap[gb421]? = some (.cells #[.int .i64 t418, .int .i64 t419] 23 (0, 0))) ∧ Fa (Below w.heap.size w wc))
            case first =>
             as_aux_lemma =>
             have H := HC119.out
             clear HC119
             by_cases c143 : t420 = 0
             ·
              rw [if_pos c143] at H
              have c143b0 : (t420 == 0) = true := beq_iff_eq.mpr c143
              have c143b1 : (t420 != 0) = false := bne_eq_false_iff_eq.mpr c143
              clear c143
              (first | rw [c143b0] | (simp only [i64_w, i32_w]; rw [c143b0]) | skip)
              have H' := Fa.mk H
              clear H
              have hnb144 := NB421_395.out
              have hnc144 := NB395_421.out
              have hnb145 := NB421_396.out
              have hnc145 := NB396_421.out
              have hnb146 := NB421_397.out
              have hnc146 := NB397_421.out
              have hnb147 := NB421_405.out
              have hnc147 := NB405_421.out
              have hnb148 := NB421_409.out
              have hnc148 := NB409_421.out
              have hnb149 := NB421_413.out
              have hnc149 := NB413_421.out
              have hnb150 := NB421_417.out
              have hnc150 := NB417_421.out
              have hcz151_0 : w134.cell? ⟨gb421, 0, none⟩ = some (.int .i64 0) := (blk_cell BK421.out 0).trans rfl
              have hcz151_1 : w134.cell? ⟨gb421, 1, none⟩ = some (.int .i64 0) := (blk_cell BK421.out 1).trans rfl
              have hfz151_0 := blk_frozen BK421.out 0
              have hfz151_1 := blk_frozen BK421.out 1
              have hnb152 := NB395_396.out
              have hnc152 := NB396_395.out
              have hnb153 := NB395_397.out
              have hnc153 := NB397_395.out
              have hnb154 := NB395_405.out
              have hnc154 := NB405_395.out
              have hnb155 := NB395_409.out
              have hnc155 := NB409_395.out
              have hnb156 := NB395_413.out
              have hnc156 := NB413_395.out
              have hnb157 := NB395_417.out
              have hnc157 := NB417_395.out
              have BK395 : Fa (w134.heap[gb395]? = some (.cells #[.int .i64 a0_0, .int .i64 a0_1] 23 (0, 0))) := ⟨fa⟩
              have hcz158_0 : w134.cell? ⟨gb395, 0, none⟩ = some (.int .i64 a0_0) := (blk_cell BK395.out 0).trans rfl
              have hcz158_1 : w134.cell? ⟨gb395, 1, none⟩ = some (.int .i64 a0_1) := (blk_cell BK395.out 1).trans rfl
              have hfz158_0 := blk_frozen BK395.out 0
              have hfz158_1 := blk_frozen BK395.out 1
              go_wp2
              go_meet
              case rel => exact ⟨_, ((!(t418 == a0_0) || (!(t419 == a0_1)))), (by first | rfl | (simp; done) | (simp [*]; done)), H', ⟨by have := HJ3.out; have := HJ37.out; have := HJ71.out; first | omega | exact Nat.le_refl _⟩, ⟨by (with_reducible repeat (first | refine blk_drewN ?_ _ | refine blk_drew ?_ | refine blk_alloc ?_ _)); refine blk_far ?_ NB395_421.out _; (with_reducible repeat (first | refine blk_drewN ?_ _ | refine blk_drew ?_ | refine blk_alloc ?_ _)); refine blk_far ?_ NB395_421.out _; (with_reducible repeat (first | refine blk_drewN ?_ _ | refine blk_drew ?_ | refine blk_alloc ?_ _)); exact fa⟩, ⟨by (with_reducible repeat (first | refine blk_drewN ?_ _ | refine blk_drew ?_ | refine blk_alloc ?_ _)); refine blk_far ?_ NB396_421.out _; (with_reducible repeat (first | refine blk_drewN ?_ _ | refine blk_drew ?_ | refine blk_alloc ?_ _)); refine blk_far ?_ NB396_421.out _; (with_reducible repeat (first | refine blk_drewN ?_ _ | refine blk_drew ?_ | refine blk_alloc ?_ _)); exact fa⟩, ⟨by (with_reducible repeat (first | refine blk_drewN ?_ _ | refine blk_drew ?_ | refine blk_alloc ?_ _)); refine blk_far ?_ NB397_421.out _; (with_reducible repeat (first | refine blk_drewN ?_ _ | refine blk_drew ?_ | refine blk_alloc ?_ _)); refine blk_far ?_ NB397_421.out _; (with_reducible repeat (first | refine blk_drewN ?_ _ | refine blk_drew ?_ | refine blk_alloc ?_ _)); exact fa⟩, ⟨by (with_reducible repeat (first | refine blk_drewN ?_ _ | refine blk_drew ?_ | refine blk_alloc ?_ _)); refine blk_far ?_ NB405_421.out _; (with_reducible repeat (first | refine blk_drewN ?_ _ | refine blk_drew ?_ | refine blk_alloc ?_ _)); refine blk_far ?_ NB405_421.out _; (with_reducible repeat (first | refine blk_drewN ?_ _ | refine blk_drew ?_ | refine blk_alloc ?_ _)); exact fa⟩, ⟨by (with_reducible repeat (first | refine blk_drewN ?_ _ | refine blk_drew ?_ | refine blk_alloc ?_ _)); refine blk_far ?_ NB409_421.out _; (with_reducible repeat (first | refine blk_drewN ?_ _ | refine blk_drew ?_ | refine blk_alloc ?_ _)); refine blk_far ?_ NB409_421.out _; (with_reducible repeat (first | refine blk_drewN ?_ _ | refine blk_drew ?_ | refine blk_alloc ?_ _)); exact fa⟩, ⟨by (with_reducible repeat (first | refine blk_drewN ?_ _ | refine blk_drew ?_ | refine blk_alloc ?_ _)); refine blk_far ?_ NB413_421.out _; (with_reducible repeat (first | refine blk_drewN ?_ _ | refine blk_drew ?_ | refine blk_alloc ?_ _)); refine blk_far ?_ NB413_421.out _; (with_reducible repeat (first | refine blk_drewN ?_ _ | refine blk_drew ?_ | refine blk_alloc ?_ _)); exact fa⟩, ⟨by (with_reducible repeat (first | refine blk_drewN ?_ _ | refine blk_drew ?_ | refine blk_alloc ?_ _)); refine blk_far ?_ NB417_421.out _; (with_reducible repeat (first | refine blk_drewN ?_ _ | refine blk_drew ?_ | refine blk_alloc ?_ _)); refine blk_far ?_ NB417_421.out _; (with_reducible repeat (first | refine blk_drewN ?_ _ | refine blk_drew ?_ | refine blk_alloc ?_ _)); exact fa⟩, ⟨by (with_reducible repeat (first | refine blk_drewN ?_ _ | refine blk_drew ?_ | refine blk_alloc ?_ _)); refine blk_put (cs := #[.int .i64 t418, .int .i64 0]) ?_ 1 _ rfl; (with_reducible repeat (first | refine blk_drewN ?_ _ | refine blk_drew ?_ | refine blk_alloc ?_ _)); refine blk_put (cs := #[.int .i64 0, .int .i64 0]) ?_ 0 _ rfl; (with_reducible repeat (first | refine blk_drewN ?_ _ | refine blk_drew ?_ | refine blk_alloc ?_ _)); exact fa⟩, ⟨fa⟩⟩
             ·
              rw [if_neg c143] at H
              have c143b0 : (t420 == 0) = false := beq_eq_false_iff_ne.mpr c143
              have c143b1 : (t420 != 0) = true := bne_iff_ne.mpr c143
              (first | rw [c143b0] | (simp only [i64_w, i32_w]; rw [c143b0]) | skip)
              have H' := Fa.mk H
              clear H
              go_wp2
              go_meet
              case rel => exact ⟨_, (true), (by first | rfl | (simp; done) | (simp [*]; done)), H', ⟨by have := HJ3.out; have := HJ37.out; have := HJ71.out; first | omega | exact Nat.le_refl _⟩, ⟨by (with_reducible repeat (first | refine blk_drewN ?_ _ | refine blk_drew ?_ | refine blk_alloc ?_ _)); refine blk_far ?_ NB395_421.out _; (with_reducible repeat (first | refine blk_drewN ?_ _ | refine blk_drew ?_ | refine blk_alloc ?_ _)); refine blk_far ?_ NB395_421.out _; (with_reducible repeat (first | refine blk_drewN ?_ _ | refine blk_drew ?_ | refine blk_alloc ?_ _)); exact fa⟩, ⟨by (with_reducible repeat (first | refine blk_drewN ?_ _ | refine blk_drew ?_ | refine blk_alloc ?_ _)); refine blk_far ?_ NB396_421.out _; (with_reducible repeat (first | refine blk_drewN ?_ _ | refine blk_drew ?_ | refine blk_alloc ?_ _)); refine blk_far ?_ NB396_421.out _; (with_reducible repeat (first | refine blk_drewN ?_ _ | refine blk_drew ?_ | refine blk_alloc ?_ _)); exact fa⟩, ⟨by (with_reducible repeat (first | refine blk_drewN ?_ _ | refine blk_drew ?_ | refine blk_alloc ?_ _)); refine blk_far ?_ NB397_421.out _; (with_reducible repeat (first | refine blk_drewN ?_ _ | refine blk_drew ?_ | refine blk_alloc ?_ _)); refine blk_far ?_ NB397_421.out _; (with_reducible repeat (first | refine blk_drewN ?_ _ | refine blk_drew ?_ | refine blk_alloc ?_ _)); exact fa⟩, ⟨by (with_reducible repeat (first | refine blk_drewN ?_ _ | refine blk_drew ?_ | refine blk_alloc ?_ _)); refine blk_far ?_ NB405_421.out _; (with_reducible repeat (first | refine blk_drewN ?_ _ | refine blk_drew ?_ | refine blk_alloc ?_ _)); refine blk_far ?_ NB405_421.out _; (with_reducible repeat (first | refine blk_drewN ?_ _ | refine blk_drew ?_ | refine blk_alloc ?_ _)); exact fa⟩, ⟨by (with_reducible repeat (first | refine blk_drewN ?_ _ | refine blk_drew ?_ | refine blk_alloc ?_ _)); refine blk_far ?_ NB409_421.out _; (with_reducible repeat (first | refine blk_drewN ?_ _ | refine blk_drew ?_ | refine blk_alloc ?_ _)); refine blk_far ?_ NB409_421.out _; (with_reducible repeat (first | refine blk_drewN ?_ _ | refine blk_drew ?_ | refine blk_alloc ?_ _)); exact fa⟩, ⟨by (with_reducible repeat (first | refine blk_drewN ?_ _ | refine blk_drew ?_ | refine blk_alloc ?_ _)); refine blk_far ?_ NB413_421.out _; (with_reducible repeat (first | refine blk_drewN ?_ _ | refine blk_drew ?_ | refine blk_alloc ?_ _)); refine blk_far ?_ NB413_421.out _; (with_reducible repeat (first | refine blk_drewN ?_ _ | refine blk_drew ?_ | refine blk_alloc ?_ _)); exact fa⟩, ⟨by (with_reducible repeat (first | refine blk_drewN ?_ _ | refine blk_drew ?_ | refine blk_alloc ?_ _)); refine blk_far ?_ NB417_421.out _; (with_reducible repeat (first | refine blk_drewN ?_ _ | refine blk_drew ?_ | refine blk_alloc ?_ _)); refine blk_far ?_ NB417_421.out _; (with_reducible repeat (first | refine blk_drewN ?_ _ | refine blk_drew ?_ | refine blk_alloc ?_ _)); exact fa⟩, ⟨by (with_reducible repeat (first | refine blk_drewN ?_ _ | refine blk_drew ?_ | refine blk_alloc ?_ _)); refine blk_put (cs := #[.int .i64 t418, .int .i64 0]) ?_ 1 _ rfl; (with_reducible repeat (first | refine blk_drewN ?_ _ | refine blk_drew ?_ | refine blk_alloc ?_ _)); refine blk_put (cs := #[.int .i64 0, .int .i64 0]) ?_ 0 _ rfl; (with_reducible repeat (first | refine blk_drewN ?_ _ | refine blk_drew ?_ | refine blk_alloc ?_ _)); exact fa⟩, ⟨fa⟩⟩
            case rest =>
             as_aux_lemma =>
             clear HC119
             try clear p2
             try clear p2
             obtain ⟨kq, x108_118, rfl, HA, HJ118, BK395, BK396, BK397, BK405, BK409, BK413, BK417, BK421, HB⟩ := hcut
             cases kq with
             | zero => exact absurd HA.out (by simp [fleuronlaw01_NumField.j3])
             | succ kj118 =>
              have H := HA.out
              clear HA
              simp only [fleuronlaw01_NumField.j3] at H
              by_cases c159 : x108_118 = true
              ·
               subst c159
               have H1 : (none) = some r := by rw [if_pos rfl] at H; exact H
               clear H
               have H := H1
               clear H1
               exact absurd H (by simp)
              ·
               replace c159 := Bool.eq_false_iff.mpr c159
               subst c159
               have H1 : ((fleuronlaw01_sum.f kj118 t402 t403 a2_0 a2_1).bind fun bt422 => ((fleuronlaw01_sum.f kj118 a1_0 a1_1 a2_0 a2_1).bind fun bt426 => ((fleuronlaw01_sum.f kj118 a0_0 a0_1 bt426.1 bt426.2.1).bind fun bt430 => (if bt422.2.2 = true then (if bt426.2.2 = true then (if bt430.2.2 = true then (if (!(bt422.1 == bt430.1) || (!(bt422.2.1 == bt430.2.1))) = true then (none) else (fleuronlaw01_NumField.j4 kj118 t412 a0_0 a0_1 a1_0 a1_1 a2_0 a2_1 t410 t411)) else (fleuronlaw01_NumField.j4 kj118 t412 a0_0 a0_1 a1_0 a1_1 a2_0 a2_1 t410 t411)) else (fleuronlaw01_NumField.j4 kj118 t412 a0_0 a0_1 a1_0 a1_1 a2_0 a2_1 t410 t411)) else (fleuronlaw01_NumField.j4 kj118 t412 a0_0 a0_1 a1_0 a1_1 a2_0 a2_1 t410 t411))))) = some r := by rw [if_neg (show ¬ (false = true) by decide)] at H; exact H
               clear H
               have H := H1
               clear H1
               replace H := Option.bind_eq_some_iff.mp H
               obtain ⟨⟨t422, t423, t424⟩, A1600, H⟩ := H
               replace H : ((fleuronlaw01_sum.f kj118 a1_0 a1_1 a2_0 a2_1).bind fun bt426 => ((fleuronlaw01_sum.f kj118 a0_0 a0_1 bt426.1 bt426.2.1).bind fun bt430 => (if t424 = true then (if bt426.2.2 = true then (if bt430.2.2 = true then (if (!(t422 == bt430.1) || (!(t423 == bt430.2.1))) = true then (none) else (fleuronlaw01_NumField.j4 kj118 t412 a0_0 a0_1 a1_0 a1_1 a2_0 a2_1 t410 t411)) else (fleuronlaw01_NumField.j4 kj118 t412 a0_0 a0_1 a1_0 a1_1 a2_0 a2_1 t410 t411)) else (fleuronlaw01_NumField.j4 kj118 t412 a0_0 a0_1 a1_0 a1_1 a2_0 a2_1 t410 t411)) else (fleuronlaw01_NumField.j4 kj118 t412 a0_0 a0_1 a1_0 a1_1 a2_0 a2_1 t410 t411)))) = some r := H
               have A160 := Fa.mk A1600
               clear A1600
               replace H := Option.bind_eq_some_iff.mp H
               obtain ⟨⟨t426, t427, t428⟩, A1610, H⟩ := H
               replace H : ((fleuronlaw01_sum.f kj118 a0_0 a0_1 t426 t427).bind fun bt430 => (if t424 = true then (if t428 = true then (if bt430.2.2 = true then (if (!(t422 == bt430.1) || (!(t423 == bt430.2.1))) = true then (none) else (fleuronlaw01_NumField.j4 kj118 t412 a0_0 a0_1 a1_0 a1_1 a2_0 a2_1 t410 t411)) else (fleuronlaw01_NumField.j4 kj118 t412 a0_0 a0_1 a1_0 a1_1 a2_0 a2_1 t410 t411)) else (fleuronlaw01_NumField.j4 kj118 t412 a0_0 a0_1 a1_0 a1_1 a2_0 a2_1 t410 t411)) else (fleuronlaw01_NumField.j4 kj118 t412 a0_0 a0_1 a1_0 a1_1 a2_0 a2_1 t410 t411))) = some r := H
               have A161 := Fa.mk A1610
               clear A1610
               replace H := Option.bind_eq_some_iff.mp H
               obtain ⟨⟨t430, t431, t432⟩, A1620, H⟩ := H
               replace H : (if t424 = true then (if t428 = true then (if t432 = true then (if (!(t422 == t430) || (!(t423 == t431))) = true then (none) else (fleuronlaw01_NumField.j4 kj118 t412 a0_0 a0_1 a1_0 a1_1 a2_0 a2_1 t410 t411)) else (fleuronlaw01_NumField.j4 kj118 t412 a0_0 a0_1 a1_0 a1_1 a2_0 a2_1 t410 t411)) else (fleuronlaw01_NumField.j4 kj118 t412 a0_0 a0_1 a1_0 a1_1 a2_0 a2_1 t410 t411)) else (fleuronlaw01_NumField.j4 kj118 t412 a0_0 a0_1 a1_0 a1_1 a2_0 a2_1 t410 t411)) = some r := H
               have A162 := Fa.mk A1620
               clear A1620
               have hnb167 := NB405_395.out
               have hnc167 := NB395_405.out
               have hnb168 := NB405_396.out
               have hnc168 := NB396_405.out
               have hnb169 := NB405_397.out
               have hnc169 := NB397_405.out
               have hnb170 := NB405_409.out
               have hnc170 := NB409_405.out
               have hnb171 := NB405_413.out
               have hnc171 := NB413_405.out
               have hnb172 := NB405_417.out
               have hnc172 := NB417_405.out
               have hnb173 := NB405_421.out
               have hnc173 := NB421_405.out
               have hcz174_0 : wc.cell? ⟨gb405, 0, none⟩ = some (.int .i64 t402) := (blk_cell BK405.out 0).trans rfl
               have hcz174_1 : wc.cell? ⟨gb405, 1, none⟩ = some (.int .i64 t403) := (blk_cell BK405.out 1).trans rfl
               have hfz174_0 := blk_frozen BK405.out 0
               have hfz174_1 := blk_frozen BK405.out 1
               have hnb175 := NB397_395.out
               have hnc175 := NB395_397.out
               have hnb176 := NB397_396.out
               have hnc176 := NB396_397.out
               have hnb177 := NB397_409.out
               have hnc177 := NB409_397.out
               have hnb178 := NB397_413.out
               have hnc178 := NB413_397.out
               have hnb179 := NB397_417.out
               have hnc179 := NB417_397.out
               have hnb180 := NB397_421.out
               have hnc180 := NB421_397.out
               have hcz181_0 : wc.cell? ⟨gb397, 0, none⟩ = some (.int .i64 a2_0) := (blk_cell BK397.out 0).trans rfl
               have hcz181_1 : wc.cell? ⟨gb397, 1, none⟩ = some (.int .i64 a2_1) := (blk_cell BK397.out 1).trans rfl
               have hfz181_0 := blk_frozen BK397.out 0
               have hfz181_1 := blk_frozen BK397.out 1
               go_upto_region 18 with (first | ((with_reducible refine gate_callee (f := 30) rfl ?_); refine goesA (some 112) rfl rfl Tryd.func30 (by kernel_rfl) rfl #[.agg #[.int .i64 t402, .int .i64 t403], .agg #[.int .i64 a2_0, .int .i64 a2_1]] rfl ?_; (with_reducible refine (fleuronlaw01_sum.calls kj118 t402 t403 a2_0 a2_1 t422 t423 _ _ A160.out).mono ?_); rintro e w182 ⟨rfl, hb⟩; refine ⟨_, rfl, ?_⟩; have hS := Stp.mk hb; clear hb) | ((with_reducible refine gate_dst (N := 17) rfl ?_); refine boxF (N := 17) (cs := #[.int .i64 0, .int .i64 0]) (t := 23) ?_; intro gb425 hg w183 hbox hb; have hS := Stp.mk hb; have BK396 := (⟨fa⟩ : Fa (w183.heap[gb396]? = some (.cells #[.int .i64 a1_0, .int .i64 a1_1] 23 (0, 0)))); have BK397 := (⟨fa⟩ : Fa (w183.heap[gb397]? = some (.cells #[.int .i64 a2_0, .int .i64 a2_1] 23 (0, 0)))); have BK425 := Fa.mk (hbox); have GW425 := Fa.mk (gle hg : w.heap.size ≤ gb425); have GE425 := GW425; have NB395_425 := Fa.mk (gne (o := .cells #[.int .i64 a0_0, .int .i64 a0_1] 23 (0, 0)) hg : gb395 ≠ gb425); have NB425_395 := Fa.mk NB395_425.out.symm; have NB396_425 := Fa.mk (gne (o := .cells #[.int .i64 a1_0, .int .i64 a1_1] 23 (0, 0)) hg : gb396 ≠ gb425); have NB425_396 := Fa.mk NB396_425.out.symm; have NB397_425 := Fa.mk (gne (o := .cells #[.int .i64 a2_0, .int .i64 a2_1] 23 (0, 0)) hg : gb397 ≠ gb425); have NB425_397 := Fa.mk NB397_425.out.symm; have NB405_425 := Fa.mk (gne (o := .cells #[.int .i64 t402, .int .i64 t403] 23 (0, 0)) hg : gb405 ≠ gb425); have NB425_405 := Fa.mk NB405_425.out.symm; have NB409_425 := Fa.mk (gne (o := .cells #[.int .i64 t406, .int .i64 t407] 23 (0, 0)) hg : gb409 ≠ gb425); have NB425_409 := Fa.mk NB409_425.out.symm; have NB413_425 := Fa.mk (gne (o := .cells #[.int .i64 t410, .int .i64 t411] 23 (0, 0)) hg : gb413 ≠ gb425); have NB425_413 := Fa.mk NB413_425.out.symm; have NB417_425 := Fa.mk (gne (o := .cells #[.int .i64 t414, .int .i64 t415] 23 (0, 0)) hg : gb417 ≠ gb425); have NB425_417 := Fa.mk NB417_425.out.symm; have NB421_425 := Fa.mk (gne (o := .cells #[.int .i64 t418, .int .i64 t419] 23 (0, 0)) hg : gb421 ≠ gb425); have NB425_421 := Fa.mk NB421_425.out.symm; clear hb hbox hg; have hnb184 := NB425_395.out; have hnc184 := NB395_425.out; have hnb185 := NB425_396.out; have hnc185 := NB396_425.out; have hnb186 := NB425_397.out; have hnc186 := NB397_425.out; have hnb187 := NB425_405.out; have hnc187 := NB405_425.out; have hnb188 := NB425_409.out; have hnc188 := NB409_425.out; have hnb189 := NB425_413.out; have hnc189 := NB413_425.out; have hnb190 := NB425_417.out; have hnc190 := NB417_425.out; have hnb191 := NB425_421.out; have hnc191 := NB421_425.out; have hcz192_0 : w183.cell? ⟨gb425, 0, none⟩ = some (.int .i64 0) := (blk_cell BK425.out 0).trans rfl; have hcz192_1 : w183.cell? ⟨gb425, 1, none⟩ = some (.int .i64 0) := (blk_cell BK425.out 1).trans rfl; have hfz192_0 := blk_frozen BK425.out 0; have hfz192_1 := blk_frozen BK425.out 1; have hnb193 := NB396_395.out; have hnc193 := NB395_396.out; have hnb194 := NB396_409.out; have hnc194 := NB409_396.out; have hnb195 := NB396_413.out; have hnc195 := NB413_396.out; have hnb196 := NB396_417.out; have hnc196 := NB417_396.out; have hnb197 := NB396_421.out; have hnc197 := NB421_396.out; have hcz198_0 : w183.cell? ⟨gb396, 0, none⟩ = some (.int .i64 a1_0) := (blk_cell BK396.out 0).trans rfl; have hcz198_1 : w183.cell? ⟨gb396, 1, none⟩ = some (.int .i64 a1_1) := (blk_cell BK396.out 1).trans rfl; have hfz198_0 := blk_frozen BK396.out 0; have hfz198_1 := blk_frozen BK396.out 1; have hcz199_0 : w183.cell? ⟨gb397, 0, none⟩ = some (.int .i64 a2_0) := (blk_cell BK397.out 0).trans rfl; have hcz199_1 : w183.cell? ⟨gb397, 1, none⟩ = some (.int .i64 a2_1) := (blk_cell BK397.out 1).trans rfl; have hfz199_0 := blk_frozen BK397.out 0; have hfz199_1 := blk_frozen BK397.out 1) | ((with_reducible refine gate_callee (f := 30) rfl ?_); refine goesA (some 118) rfl rfl Tryd.func30 (by kernel_rfl) rfl #[.agg #[.int .i64 a1_0, .int .i64 a1_1], .agg #[.int .i64 a2_0, .int .i64 a2_1]] rfl ?_; (with_reducible refine (fleuronlaw01_sum.calls kj118 a1_0 a1_1 a2_0 a2_1 t426 t427 _ _ A161.out).mono ?_); rintro e w200 ⟨rfl, hb⟩; refine ⟨_, rfl, ?_⟩; have hS := Stp.mk hb; have BK425 := Fa.mk (blk_below (g := gb425) (o := .cells #[.int .i64 t422, .int .i64 t423] 23 (0, 0)) (by (with_reducible repeat (first | refine blk_drewN ?_ _ | refine blk_drew ?_ | refine blk_alloc ?_ _)); refine blk_put (cs := #[.int .i64 t422, .int .i64 0]) ?_ 1 _ rfl; (with_reducible repeat (first | refine blk_drewN ?_ _ | refine blk_drew ?_ | refine blk_alloc ?_ _)); refine blk_put (cs := #[.int .i64 0, .int .i64 0]) ?_ 0 _ rfl; (with_reducible repeat (first | refine blk_drewN ?_ _ | refine blk_drew ?_ | refine blk_alloc ?_ _)); exact fa) hb); clear hb) | ((with_reducible refine gate_dst (N := 19) rfl ?_); refine boxF (N := 19) (cs := #[.int .i64 0, .int .i64 0]) (t := 23) ?_; intro gb429 hg w201 hbox hb; have hS := Stp.mk hb; have BK395 := (⟨fa⟩ : Fa (w201.heap[gb395]? = some (.cells #[.int .i64 a0_0, .int .i64 a0_1] 23 (0, 0)))); have BK429 := Fa.mk (hbox); have GW429 := Fa.mk (gle hg : w.heap.size ≤ gb429); have GE429 := GW429; have NB395_429 := Fa.mk (gne (o := .cells #[.int .i64 a0_0, .int .i64 a0_1] 23 (0, 0)) hg : gb395 ≠ gb429); have NB429_395 := Fa.mk NB395_429.out.symm; have NB396_429 := Fa.mk (gne (o := .cells #[.int .i64 a1_0, .int .i64 a1_1] 23 (0, 0)) hg : gb396 ≠ gb429); have NB429_396 := Fa.mk NB396_429.out.symm; have NB397_429 := Fa.mk (gne (o := .cells #[.int .i64 a2_0, .int .i64 a2_1] 23 (0, 0)) hg : gb397 ≠ gb429); have NB429_397 := Fa.mk NB397_429.out.symm; have NB405_429 := Fa.mk (gne (o := .cells #[.int .i64 t402, .int .i64 t403] 23 (0, 0)) hg : gb405 ≠ gb429); have NB429_405 := Fa.mk NB405_429.out.symm; have NB409_429 := Fa.mk (gne (o := .cells #[.int .i64 t406, .int .i64 t407] 23 (0, 0)) hg : gb409 ≠ gb429); have NB429_409 := Fa.mk NB409_429.out.symm; have NB413_429 := Fa.mk (gne (o := .cells #[.int .i64 t410, .int .i64 t411] 23 (0, 0)) hg : gb413 ≠ gb429); have NB429_413 := Fa.mk NB413_429.out.symm; have NB417_429 := Fa.mk (gne (o := .cells #[.int .i64 t414, .int .i64 t415] 23 (0, 0)) hg : gb417 ≠ gb429); have NB429_417 := Fa.mk NB417_429.out.symm; have NB421_429 := Fa.mk (gne (o := .cells #[.int .i64 t418, .int .i64 t419] 23 (0, 0)) hg : gb421 ≠ gb429); have NB429_421 := Fa.mk NB421_429.out.symm; have NB425_429 := Fa.mk (gne (o := .cells #[.int .i64 t422, .int .i64 t423] 23 (0, 0)) hg : gb425 ≠ gb429); have NB429_425 := Fa.mk NB425_429.out.symm; clear hb hbox hg; have hnb202 := NB429_395.out; have hnc202 := NB395_429.out; have hnb203 := NB429_396.out; have hnc203 := NB396_429.out; have hnb204 := NB429_397.out; have hnc204 := NB397_429.out; have hnb205 := NB429_405.out; have hnc205 := NB405_429.out; have hnb206 := NB429_409.out; have hnc206 := NB409_429.out; have hnb207 := NB429_413.out; have hnc207 := NB413_429.out; have hnb208 := NB429_417.out; have hnc208 := NB417_429.out; have hnb209 := NB429_421.out; have hnc209 := NB421_429.out; have hnb210 := NB429_425.out; have hnc210 := NB425_429.out; have hcz211_0 : w201.cell? ⟨gb429, 0, none⟩ = some (.int .i64 0) := (blk_cell BK429.out 0).trans rfl; have hcz211_1 : w201.cell? ⟨gb429, 1, none⟩ = some (.int .i64 0) := (blk_cell BK429.out 1).trans rfl; have hfz211_0 := blk_frozen BK429.out 0; have hfz211_1 := blk_frozen BK429.out 1; have hnb212 := NB395_409.out; have hnc212 := NB409_395.out; have hnb213 := NB395_413.out; have hnc213 := NB413_395.out; have hnb214 := NB395_417.out; have hnc214 := NB417_395.out; have hnb215 := NB395_421.out; have hnc215 := NB421_395.out; have hcz216_0 : w201.cell? ⟨gb395, 0, none⟩ = some (.int .i64 a0_0) := (blk_cell BK395.out 0).trans rfl; have hcz216_1 : w201.cell? ⟨gb395, 1, none⟩ = some (.int .i64 a0_1) := (blk_cell BK395.out 1).trans rfl; have hfz216_0 := blk_frozen BK395.out 0; have hfz216_1 := blk_frozen BK395.out 1) | ((with_reducible refine gate_callee (f := 30) rfl ?_); refine goesA (some 124) rfl rfl Tryd.func30 (by kernel_rfl) rfl #[.agg #[.int .i64 a0_0, .int .i64 a0_1], .agg #[.int .i64 t426, .int .i64 t427]] rfl ?_; (with_reducible refine (fleuronlaw01_sum.calls kj118 a0_0 a0_1 t426 t427 t430 t431 _ _ A162.out).mono ?_); rintro e w217 ⟨rfl, hb⟩; refine ⟨_, rfl, ?_⟩; have hS := Stp.mk hb; have BK429 := Fa.mk (blk_below (g := gb429) (o := .cells #[.int .i64 t426, .int .i64 t427] 23 (0, 0)) (by (with_reducible repeat (first | refine blk_drewN ?_ _ | refine blk_drew ?_ | refine blk_alloc ?_ _)); refine blk_put (cs := #[.int .i64 t426, .int .i64 0]) ?_ 1 _ rfl; (with_reducible repeat (first | refine blk_drewN ?_ _ | refine blk_drew ?_ | refine blk_alloc ?_ _)); refine blk_put (cs := #[.int .i64 0, .int .i64 0]) ?_ 0 _ rfl; (with_reducible repeat (first | refine blk_drewN ?_ _ | refine blk_drew ?_ | refine blk_alloc ?_ _)); exact fa) hb); clear hb) | ((with_reducible refine gate_dst (N := 21) rfl ?_); refine boxF (N := 21) (cs := #[.int .i64 0, .int .i64 0]) (t := 23) ?_; intro gb433 hg w218 hbox hb; have hS := Stp.mk hb; have BK425 := (⟨fa⟩ : Fa (w218.heap[gb425]? = some (.cells #[.int .i64 t422, .int .i64 t423] 23 (0, 0)))); have BK433 := Fa.mk (hbox); have GW433 := Fa.mk (gle hg : w.heap.size ≤ gb433); have GE433 := GW433; have NB395_433 := Fa.mk (gne (o := .cells #[.int .i64 a0_0, .int .i64 a0_1] 23 (0, 0)) hg : gb395 ≠ gb433); have NB433_395 := Fa.mk NB395_433.out.symm; have NB396_433 := Fa.mk (gne (o := .cells #[.int .i64 a1_0, .int .i64 a1_1] 23 (0, 0)) hg : gb396 ≠ gb433); have NB433_396 := Fa.mk NB396_433.out.symm; have NB397_433 := Fa.mk (gne (o := .cells #[.int .i64 a2_0, .int .i64 a2_1] 23 (0, 0)) hg : gb397 ≠ gb433); have NB433_397 := Fa.mk NB397_433.out.symm; have NB405_433 := Fa.mk (gne (o := .cells #[.int .i64 t402, .int .i64 t403] 23 (0, 0)) hg : gb405 ≠ gb433); have NB433_405 := Fa.mk NB405_433.out.symm; have NB409_433 := Fa.mk (gne (o := .cells #[.int .i64 t406, .int .i64 t407] 23 (0, 0)) hg : gb409 ≠ gb433); have NB433_409 := Fa.mk NB409_433.out.symm; have NB413_433 := Fa.mk (gne (o := .cells #[.int .i64 t410, .int .i64 t411] 23 (0, 0)) hg : gb413 ≠ gb433); have NB433_413 := Fa.mk NB413_433.out.symm; have NB417_433 := Fa.mk (gne (o := .cells #[.int .i64 t414, .int .i64 t415] 23 (0, 0)) hg : gb417 ≠ gb433); have NB433_417 := Fa.mk NB417_433.out.symm; have NB421_433 := Fa.mk (gne (o := .cells #[.int .i64 t418, .int .i64 t419] 23 (0, 0)) hg : gb421 ≠ gb433); have NB433_421 := Fa.mk NB421_433.out.symm; have NB425_433 := Fa.mk (gne (o := .cells #[.int .i64 t422, .int .i64 t423] 23 (0, 0)) hg : gb425 ≠ gb433); have NB433_425 := Fa.mk NB425_433.out.symm; have NB429_433 := Fa.mk (gne (o := .cells #[.int .i64 t426, .int .i64 t427] 23 (0, 0)) hg : gb429 ≠ gb433); have NB433_429 := Fa.mk NB429_433.out.symm; clear hb hbox hg; have hnb219 := NB433_395.out; have hnc219 := NB395_433.out; have hnb220 := NB433_396.out; have hnc220 := NB396_433.out; have hnb221 := NB433_397.out; have hnc221 := NB397_433.out; have hnb222 := NB433_405.out; have hnc222 := NB405_433.out; have hnb223 := NB433_409.out; have hnc223 := NB409_433.out; have hnb224 := NB433_413.out; have hnc224 := NB413_433.out; have hnb225 := NB433_417.out; have hnc225 := NB417_433.out; have hnb226 := NB433_421.out; have hnc226 := NB421_433.out; have hnb227 := NB433_425.out; have hnc227 := NB425_433.out; have hnb228 := NB433_429.out; have hnc228 := NB429_433.out; have hcz229_0 : w218.cell? ⟨gb433, 0, none⟩ = some (.int .i64 0) := (blk_cell BK433.out 0).trans rfl; have hcz229_1 : w218.cell? ⟨gb433, 1, none⟩ = some (.int .i64 0) := (blk_cell BK433.out 1).trans rfl; have hfz229_0 := blk_frozen BK433.out 0; have hfz229_1 := blk_frozen BK433.out 1; have hcz230_0 : w218.cell? ⟨gb425, 0, none⟩ = some (.int .i64 t422) := (blk_cell BK425.out 0).trans rfl; have hcz230_1 : w218.cell? ⟨gb425, 1, none⟩ = some (.int .i64 t423) := (blk_cell BK425.out 1).trans rfl; have hfz230_0 := blk_frozen BK425.out 0; have hfz230_1 := blk_frozen BK425.out 1))
               by_cases c163 : t424 = true
               ·
                subst c163
                have H1 : (if t428 = true then (if t432 = true then (if (!(t422 == t430) || (!(t423 == t431))) = true then (none) else (fleuronlaw01_NumField.j4 kj118 t412 a0_0 a0_1 a1_0 a1_1 a2_0 a2_1 t410 t411)) else (fleuronlaw01_NumField.j4 kj118 t412 a0_0 a0_1 a1_0 a1_1 a2_0 a2_1 t410 t411)) else (fleuronlaw01_NumField.j4 kj118 t412 a0_0 a0_1 a1_0 a1_1 a2_0 a2_1 t410 t411)) = some r := by rw [if_pos rfl] at H; exact H
                clear H
                have H := H1
                clear H1
                by_cases c164 : t428 = true
                ·
                 subst c164
                 have H1 : (if t432 = true then (if (!(t422 == t430) || (!(t423 == t431))) = true then (none) else (fleuronlaw01_NumField.j4 kj118 t412 a0_0 a0_1 a1_0 a1_1 a2_0 a2_1 t410 t411)) else (fleuronlaw01_NumField.j4 kj118 t412 a0_0 a0_1 a1_0 a1_1 a2_0 a2_1 t410 t411)) = some r := by rw [if_pos rfl] at H; exact H
                 clear H
                 have H := H1
                 clear H1
                 by_cases c165 : t432 = true
                 ·
                  subst c165
                  have H1 : (if (!(t422 == t430) || (!(t423 == t431))) = true then (none) else (fleuronlaw01_NumField.j4 kj118 t412 a0_0 a0_1 a1_0 a1_1 a2_0 a2_1 t410 t411)) = some r := by rw [if_pos rfl] at H; exact H
                  clear H
                  have H := H1
                  clear H1
                  by_cases c166 : (!(t422 == t430) || (!(t423 == t431))) = true
                  ·
                   rw [if_pos c166] at H
                   exact absurd H (by simp)
                  ·
                   rw [if_neg c166] at H
                   have c166b0 : (!(t422 == t430) || (!(t423 == t431))) = false := by simpa using c166
                   clear c166
                   have H' := Fa.mk H
                   clear H
                   iterate 4 (go_wp2_with (fail); (try go_quiet (fail)))
                   go_meet
                   case rel => exact ⟨_, H', ⟨by have := HJ3.out; have := HJ37.out; have := HJ71.out; have := HJ118.out; first | omega | exact Nat.le_refl _⟩, ⟨by (with_reducible repeat (first | refine blk_drewN ?_ _ | refine blk_drew ?_ | refine blk_alloc ?_ _)); refine blk_far ?_ NB395_433.out _; (with_reducible repeat (first | refine blk_drewN ?_ _ | refine blk_drew ?_ | refine blk_alloc ?_ _)); refine blk_far ?_ NB395_433.out _; (with_reducible repeat (first | refine blk_drewN ?_ _ | refine blk_drew ?_ | refine blk_alloc ?_ _)); exact fa⟩, ⟨by (with_reducible repeat (first | refine blk_drewN ?_ _ | refine blk_drew ?_ | refine blk_alloc ?_ _)); refine blk_far ?_ NB396_433.out _; (with_reducible repeat (first | refine blk_drewN ?_ _ | refine blk_drew ?_ | refine blk_alloc ?_ _)); refine blk_far ?_ NB396_433.out _; (with_reducible repeat (first | refine blk_drewN ?_ _ | refine blk_drew ?_ | refine blk_alloc ?_ _)); exact fa⟩, ⟨by (with_reducible repeat (first | refine blk_drewN ?_ _ | refine blk_drew ?_ | refine blk_alloc ?_ _)); refine blk_far ?_ NB397_433.out _; (with_reducible repeat (first | refine blk_drewN ?_ _ | refine blk_drew ?_ | refine blk_alloc ?_ _)); refine blk_far ?_ NB397_433.out _; (with_reducible repeat (first | refine blk_drewN ?_ _ | refine blk_drew ?_ | refine blk_alloc ?_ _)); exact fa⟩, ⟨by (with_reducible repeat (first | refine blk_drewN ?_ _ | refine blk_drew ?_ | refine blk_alloc ?_ _)); refine blk_far ?_ NB405_433.out _; (with_reducible repeat (first | refine blk_drewN ?_ _ | refine blk_drew ?_ | refine blk_alloc ?_ _)); refine blk_far ?_ NB405_433.out _; (with_reducible repeat (first | refine blk_drewN ?_ _ | refine blk_drew ?_ | refine blk_alloc ?_ _)); exact fa⟩, ⟨by (with_reducible repeat (first | refine blk_drewN ?_ _ | refine blk_drew ?_ | refine blk_alloc ?_ _)); refine blk_far ?_ NB409_433.out _; (with_reducible repeat (first | refine blk_drewN ?_ _ | refine blk_drew ?_ | refine blk_alloc ?_ _)); refine blk_far ?_ NB409_433.out _; (with_reducible repeat (first | refine blk_drewN ?_ _ | refine blk_drew ?_ | refine blk_alloc ?_ _)); exact fa⟩, ⟨by (with_reducible repeat (first | refine blk_drewN ?_ _ | refine blk_drew ?_ | refine blk_alloc ?_ _)); refine blk_far ?_ NB413_433.out _; (with_reducible repeat (first | refine blk_drewN ?_ _ | refine blk_drew ?_ | refine blk_alloc ?_ _)); refine blk_far ?_ NB413_433.out _; (with_reducible repeat (first | refine blk_drewN ?_ _ | refine blk_drew ?_ | refine blk_alloc ?_ _)); exact fa⟩, ⟨by (with_reducible repeat (first | refine blk_drewN ?_ _ | refine blk_drew ?_ | refine blk_alloc ?_ _)); refine blk_far ?_ NB417_433.out _; (with_reducible repeat (first | refine blk_drewN ?_ _ | refine blk_drew ?_ | refine blk_alloc ?_ _)); refine blk_far ?_ NB417_433.out _; (with_reducible repeat (first | refine blk_drewN ?_ _ | refine blk_drew ?_ | refine blk_alloc ?_ _)); exact fa⟩, ⟨fa⟩⟩
                 ·
                  replace c165 := Bool.eq_false_iff.mpr c165
                  subst c165
                  have H1 : (fleuronlaw01_NumField.j4 kj118 t412 a0_0 a0_1 a1_0 a1_1 a2_0 a2_1 t410 t411) = some r := by rw [if_neg (show ¬ (false = true) by decide)] at H; exact H
                  clear H
                  have H := H1
                  clear H1
                  have H' := Fa.mk H
                  clear H
                  iterate 4 (go_wp2_with (fail); (try go_quiet (fail)))
                  go_meet
                  case rel => exact ⟨_, H', ⟨by have := HJ3.out; have := HJ37.out; have := HJ71.out; have := HJ118.out; first | omega | exact Nat.le_refl _⟩, ⟨by (with_reducible repeat (first | refine blk_drewN ?_ _ | refine blk_drew ?_ | refine blk_alloc ?_ _)); refine blk_far ?_ NB395_433.out _; (with_reducible repeat (first | refine blk_drewN ?_ _ | refine blk_drew ?_ | refine blk_alloc ?_ _)); refine blk_far ?_ NB395_433.out _; (with_reducible repeat (first | refine blk_drewN ?_ _ | refine blk_drew ?_ | refine blk_alloc ?_ _)); exact fa⟩, ⟨by (with_reducible repeat (first | refine blk_drewN ?_ _ | refine blk_drew ?_ | refine blk_alloc ?_ _)); refine blk_far ?_ NB396_433.out _; (with_reducible repeat (first | refine blk_drewN ?_ _ | refine blk_drew ?_ | refine blk_alloc ?_ _)); refine blk_far ?_ NB396_433.out _; (with_reducible repeat (first | refine blk_drewN ?_ _ | refine blk_drew ?_ | refine blk_alloc ?_ _)); exact fa⟩, ⟨by (with_reducible repeat (first | refine blk_drewN ?_ _ | refine blk_drew ?_ | refine blk_alloc ?_ _)); refine blk_far ?_ NB397_433.out _; (with_reducible repeat (first | refine blk_drewN ?_ _ | refine blk_drew ?_ | refine blk_alloc ?_ _)); refine blk_far ?_ NB397_433.out _; (with_reducible repeat (first | refine blk_drewN ?_ _ | refine blk_drew ?_ | refine blk_alloc ?_ _)); exact fa⟩, ⟨by (with_reducible repeat (first | refine blk_drewN ?_ _ | refine blk_drew ?_ | refine blk_alloc ?_ _)); refine blk_far ?_ NB405_433.out _; (with_reducible repeat (first | refine blk_drewN ?_ _ | refine blk_drew ?_ | refine blk_alloc ?_ _)); refine blk_far ?_ NB405_433.out _; (with_reducible repeat (first | refine blk_drewN ?_ _ | refine blk_drew ?_ | refine blk_alloc ?_ _)); exact fa⟩, ⟨by (with_reducible repeat (first | refine blk_drewN ?_ _ | refine blk_drew ?_ | refine blk_alloc ?_ _)); refine blk_far ?_ NB409_433.out _; (with_reducible repeat (first | refine blk_drewN ?_ _ | refine blk_drew ?_ | refine blk_alloc ?_ _)); refine blk_far ?_ NB409_433.out _; (with_reducible repeat (first | refine blk_drewN ?_ _ | refine blk_drew ?_ | refine blk_alloc ?_ _)); exact fa⟩, ⟨by (with_reducible repeat (first | refine blk_drewN ?_ _ | refine blk_drew ?_ | refine blk_alloc ?_ _)); refine blk_far ?_ NB413_433.out _; (with_reducible repeat (first | refine blk_drewN ?_ _ | refine blk_drew ?_ | refine blk_alloc ?_ _)); refine blk_far ?_ NB413_433.out _; (with_reducible repeat (first | refine blk_drewN ?_ _ | refine blk_drew ?_ | refine blk_alloc ?_ _)); exact fa⟩, ⟨by (with_reducible repeat (first | refine blk_drewN ?_ _ | refine blk_drew ?_ | refine blk_alloc ?_ _)); refine blk_far ?_ NB417_433.out _; (with_reducible repeat (first | refine blk_drewN ?_ _ | refine blk_drew ?_ | refine blk_alloc ?_ _)); refine blk_far ?_ NB417_433.out _; (with_reducible repeat (first | refine blk_drewN ?_ _ | refine blk_drew ?_ | refine blk_alloc ?_ _)); exact fa⟩, ⟨fa⟩⟩
                ·
                 replace c164 := Bool.eq_false_iff.mpr c164
                 subst c164
                 have H1 : (fleuronlaw01_NumField.j4 kj118 t412 a0_0 a0_1 a1_0 a1_1 a2_0 a2_1 t410 t411) = some r := by rw [if_neg (show ¬ (false = true) by decide)] at H; exact H
                 clear H
                 have H := H1
                 clear H1
                 have H' := Fa.mk H
                 clear H
                 iterate 4 (go_wp2_with (fail); (try go_quiet (fail)))
                 go_meet
                 case rel => exact ⟨_, H', ⟨by have := HJ3.out; have := HJ37.out; have := HJ71.out; have := HJ118.out; first | omega | exact Nat.le_refl _⟩, ⟨by (with_reducible repeat (first | refine blk_drewN ?_ _ | refine blk_drew ?_ | refine blk_alloc ?_ _)); refine blk_far ?_ NB395_433.out _; (with_reducible repeat (first | refine blk_drewN ?_ _ | refine blk_drew ?_ | refine blk_alloc ?_ _)); refine blk_far ?_ NB395_433.out _; (with_reducible repeat (first | refine blk_drewN ?_ _ | refine blk_drew ?_ | refine blk_alloc ?_ _)); exact fa⟩, ⟨by (with_reducible repeat (first | refine blk_drewN ?_ _ | refine blk_drew ?_ | refine blk_alloc ?_ _)); refine blk_far ?_ NB396_433.out _; (with_reducible repeat (first | refine blk_drewN ?_ _ | refine blk_drew ?_ | refine blk_alloc ?_ _)); refine blk_far ?_ NB396_433.out _; (with_reducible repeat (first | refine blk_drewN ?_ _ | refine blk_drew ?_ | refine blk_alloc ?_ _)); exact fa⟩, ⟨by (with_reducible repeat (first | refine blk_drewN ?_ _ | refine blk_drew ?_ | refine blk_alloc ?_ _)); refine blk_far ?_ NB397_433.out _; (with_reducible repeat (first | refine blk_drewN ?_ _ | refine blk_drew ?_ | refine blk_alloc ?_ _)); refine blk_far ?_ NB397_433.out _; (with_reducible repeat (first | refine blk_drewN ?_ _ | refine blk_drew ?_ | refine blk_alloc ?_ _)); exact fa⟩, ⟨by (with_reducible repeat (first | refine blk_drewN ?_ _ | refine blk_drew ?_ | refine blk_alloc ?_ _)); refine blk_far ?_ NB405_433.out _; (with_reducible repeat (first | refine blk_drewN ?_ _ | refine blk_drew ?_ | refine blk_alloc ?_ _)); refine blk_far ?_ NB405_433.out _; (with_reducible repeat (first | refine blk_drewN ?_ _ | refine blk_drew ?_ | refine blk_alloc ?_ _)); exact fa⟩, ⟨by (with_reducible repeat (first | refine blk_drewN ?_ _ | refine blk_drew ?_ | refine blk_alloc ?_ _)); refine blk_far ?_ NB409_433.out _; (with_reducible repeat (first | refine blk_drewN ?_ _ | refine blk_drew ?_ | refine blk_alloc ?_ _)); refine blk_far ?_ NB409_433.out _; (with_reducible repeat (first | refine blk_drewN ?_ _ | refine blk_drew ?_ | refine blk_alloc ?_ _)); exact fa⟩, ⟨by (with_reducible repeat (first | refine blk_drewN ?_ _ | refine blk_drew ?_ | refine blk_alloc ?_ _)); refine blk_far ?_ NB413_433.out _; (with_reducible repeat (first | refine blk_drewN ?_ _ | refine blk_drew ?_ | refine blk_alloc ?_ _)); refine blk_far ?_ NB413_433.out _; (with_reducible repeat (first | refine blk_drewN ?_ _ | refine blk_drew ?_ | refine blk_alloc ?_ _)); exact fa⟩, ⟨by (with_reducible repeat (first | refine blk_drewN ?_ _ | refine blk_drew ?_ | refine blk_alloc ?_ _)); refine blk_far ?_ NB417_433.out _; (with_reducible repeat (first | refine blk_drewN ?_ _ | refine blk_drew ?_ | refine blk_alloc ?_ _)); refine blk_far ?_ NB417_433.out _; (with_reducible repeat (first | refine blk_drewN ?_ _ | refine blk_drew ?_ | refine blk_alloc ?_ _)); exact fa⟩, ⟨fa⟩⟩
               ·
                replace c163 := Bool.eq_false_iff.mpr c163
                subst c163
                have H1 : (fleuronlaw01_NumField.j4 kj118 t412 a0_0 a0_1 a1_0 a1_1 a2_0 a2_1 t410 t411) = some r := by rw [if_neg (show ¬ (false = true) by decide)] at H; exact H
                clear H
                have H := H1
                clear H1
                have H' := Fa.mk H
                clear H
                iterate 4 (go_wp2_with (fail); (try go_quiet (fail)))
                go_meet
                case rel => exact ⟨_, H', ⟨by have := HJ3.out; have := HJ37.out; have := HJ71.out; have := HJ118.out; first | omega | exact Nat.le_refl _⟩, ⟨by (with_reducible repeat (first | refine blk_drewN ?_ _ | refine blk_drew ?_ | refine blk_alloc ?_ _)); refine blk_far ?_ NB395_433.out _; (with_reducible repeat (first | refine blk_drewN ?_ _ | refine blk_drew ?_ | refine blk_alloc ?_ _)); refine blk_far ?_ NB395_433.out _; (with_reducible repeat (first | refine blk_drewN ?_ _ | refine blk_drew ?_ | refine blk_alloc ?_ _)); exact fa⟩, ⟨by (with_reducible repeat (first | refine blk_drewN ?_ _ | refine blk_drew ?_ | refine blk_alloc ?_ _)); refine blk_far ?_ NB396_433.out _; (with_reducible repeat (first | refine blk_drewN ?_ _ | refine blk_drew ?_ | refine blk_alloc ?_ _)); refine blk_far ?_ NB396_433.out _; (with_reducible repeat (first | refine blk_drewN ?_ _ | refine blk_drew ?_ | refine blk_alloc ?_ _)); exact fa⟩, ⟨by (with_reducible repeat (first | refine blk_drewN ?_ _ | refine blk_drew ?_ | refine blk_alloc ?_ _)); refine blk_far ?_ NB397_433.out _; (with_reducible repeat (first | refine blk_drewN ?_ _ | refine blk_drew ?_ | refine blk_alloc ?_ _)); refine blk_far ?_ NB397_433.out _; (with_reducible repeat (first | refine blk_drewN ?_ _ | refine blk_drew ?_ | refine blk_alloc ?_ _)); exact fa⟩, ⟨by (with_reducible repeat (first | refine blk_drewN ?_ _ | refine blk_drew ?_ | refine blk_alloc ?_ _)); refine blk_far ?_ NB405_433.out _; (with_reducible repeat (first | refine blk_drewN ?_ _ | refine blk_drew ?_ | refine blk_alloc ?_ _)); refine blk_far ?_ NB405_433.out _; (with_reducible repeat (first | refine blk_drewN ?_ _ | refine blk_drew ?_ | refine blk_alloc ?_ _)); exact fa⟩, ⟨by (with_reducible repeat (first | refine blk_drewN ?_ _ | refine blk_drew ?_ | refine blk_alloc ?_ _)); refine blk_far ?_ NB409_433.out _; (with_reducible repeat (first | refine blk_drewN ?_ _ | refine blk_drew ?_ | refine blk_alloc ?_ _)); refine blk_far ?_ NB409_433.out _; (with_reducible repeat (first | refine blk_drewN ?_ _ | refine blk_drew ?_ | refine blk_alloc ?_ _)); exact fa⟩, ⟨by (with_reducible repeat (first | refine blk_drewN ?_ _ | refine blk_drew ?_ | refine blk_alloc ?_ _)); refine blk_far ?_ NB413_433.out _; (with_reducible repeat (first | refine blk_drewN ?_ _ | refine blk_drew ?_ | refine blk_alloc ?_ _)); refine blk_far ?_ NB413_433.out _; (with_reducible repeat (first | refine blk_drewN ?_ _ | refine blk_drew ?_ | refine blk_alloc ?_ _)); exact fa⟩, ⟨by (with_reducible repeat (first | refine blk_drewN ?_ _ | refine blk_drew ?_ | refine blk_alloc ?_ _)); refine blk_far ?_ NB417_433.out _; (with_reducible repeat (first | refine blk_drewN ?_ _ | refine blk_drew ?_ | refine blk_alloc ?_ _)); refine blk_far ?_ NB417_433.out _; (with_reducible repeat (first | refine blk_drewN ?_ _ | refine blk_drew ?_ | refine blk_alloc ?_ _)); exact fa⟩, ⟨fa⟩⟩
           ·
            replace c117 := Bool.eq_false_iff.mpr c117
            subst c117
            have H1 : (fleuronlaw01_NumField.j4 kj71 t412 a0_0 a0_1 a1_0 a1_1 a2_0 a2_1 t410 t411) = some r := by rw [if_neg (show ¬ (false = true) by decide)] at H; exact H
            clear H
            have H := H1
            clear H1
            have H' := Fa.mk H
            clear H
            go_wp2
            go_meet
            case rel => exact ⟨_, H', ⟨by have := HJ3.out; have := HJ37.out; have := HJ71.out; first | omega | exact Nat.le_refl _⟩, ⟨fa⟩, ⟨fa⟩, ⟨fa⟩, ⟨fa⟩, ⟨fa⟩, ⟨fa⟩, ⟨fa⟩, ⟨fa⟩⟩
          case rest =>
           as_aux_lemma =>
           clear HC116
           try clear p2
           try clear p2
           obtain ⟨kq, HA, HJ115, BK395, BK396, BK397, BK405, BK409, BK413, BK417, HB⟩ := hcut
           cases kq with
           | zero => exact absurd HA.out (by simp [fleuronlaw01_NumField.j4])
           | succ kj115 =>
            have H := HA.out
            clear HA
            simp only [fleuronlaw01_NumField.j4] at H
            have HC420 := Fa.mk H
            clear H
            go_upto_if 139 with (fail)
            go_cut [] (fun wc => ∃ (kq : Nat), Fa (fleuronlaw01_NumField.j6 kq a0_0 a0_1 a1_0 a1_1 a2_0 a2_1 = some r) ∧ Fa (kq ≤ kj115) ∧ Fa (wc.heap[gb395]? = some (.cells #[.int .i64 a0_0, .int .i64 a0_1] 23 (0, 0))) ∧ Fa (wc.heap[gb396]? = some (.cells #[.int .i64 a1_0, .int .i64 a1_1] 23 (0, 0))) ∧ Fa (wc.heap[gb397]? = some (.cells #[.int .i64 a2_0, .int .i64 a2_1] 23 (0, 0))) ∧ Fa (wc.heap[gb405]? = some (.cells #[.int .i64 t402, .int .i64 t403] 23 (0, 0))) ∧ Fa (wc.heap[gb409]? = some (.cells #[.int .i64 t406, .int .i64 t407] 23 (0, 0))) ∧ Fa (wc.heap[gb413]? = some (.cells #[.int .i64 t410, .int .i64 t411] 23 (0, 0))) ∧ Fa (wc.heap[gb417]? = some (.cells #[.int .i64 t414, .int .i64 t415] 23 (0, 0))) ∧ Fa (Below w.heap.size w wc))
            case first =>
             as_aux_lemma =>
             have H := HC420.out
             clear HC420
             by_cases c421 : t412 = true
             ·
              subst c421
              have H1 : ((num_Div.f kj115 t410 t411 a1_0 a1_1).bind fun bt434 => (if a1_0 = 0 then (fleuronlaw01_NumField.j5 kj115 false a0_0 a0_1 a1_0 a1_1 a2_0 a2_1 t410 t411) else (if bt434.2.2 = 0 then (fleuronlaw01_NumField.j5 kj115 (!(bt434.1 == a0_0) || (!(bt434.2.1 == a0_1))) a0_0 a0_1 a1_0 a1_1 a2_0 a2_1 t410 t411) else (fleuronlaw01_NumField.j5 kj115 true a0_0 a0_1 a1_0 a1_1 a2_0 a2_1 t410 t411)))) = some r := by rw [if_pos rfl] at H; exact H
              clear H
              have H := H1
              clear H1
              replace H := Option.bind_eq_some_iff.mp H
              obtain ⟨⟨t434, t435, t436⟩, A4220, H⟩ := H
              replace H : (if a1_0 = 0 then (fleuronlaw01_NumField.j5 kj115 false a0_0 a0_1 a1_0 a1_1 a2_0 a2_1 t410 t411) else (if t436 = 0 then (fleuronlaw01_NumField.j5 kj115 (!(t434 == a0_0) || (!(t435 == a0_1))) a0_0 a0_1 a1_0 a1_1 a2_0 a2_1 t410 t411) else (fleuronlaw01_NumField.j5 kj115 true a0_0 a0_1 a1_0 a1_1 a2_0 a2_1 t410 t411))) = some r := H
              have A422 := Fa.mk A4220
              clear A4220
              have HC423 := Fa.mk H
              clear H
              have hnb424 := NB413_395.out
              have hnc424 := NB395_413.out
              have hnb425 := NB413_396.out
              have hnc425 := NB396_413.out
              have hnb426 := NB413_397.out
              have hnc426 := NB397_413.out
              have hnb427 := NB413_405.out
              have hnc427 := NB405_413.out
              have hnb428 := NB413_409.out
              have hnc428 := NB409_413.out
              have hnb429 := NB413_417.out
              have hnc429 := NB417_413.out
              have hcz430_0 : wc.cell? ⟨gb413, 0, none⟩ = some (.int .i64 t410) := (blk_cell BK413.out 0).trans rfl
              have hcz430_1 : wc.cell? ⟨gb413, 1, none⟩ = some (.int .i64 t411) := (blk_cell BK413.out 1).trans rfl
              have hfz430_0 := blk_frozen BK413.out 0
              have hfz430_1 := blk_frozen BK413.out 1
              have hnb431 := NB396_395.out
              have hnc431 := NB395_396.out
              have hnb432 := NB396_397.out
              have hnc432 := NB397_396.out
              have hnb433 := NB396_405.out
              have hnc433 := NB405_396.out
              have hnb434 := NB396_409.out
              have hnc434 := NB409_396.out
              have hnb435 := NB396_417.out
              have hnc435 := NB417_396.out
              have hcz436_0 : wc.cell? ⟨gb396, 0, none⟩ = some (.int .i64 a1_0) := (blk_cell BK396.out 0).trans rfl
              have hcz436_1 : wc.cell? ⟨gb396, 1, none⟩ = some (.int .i64 a1_1) := (blk_cell BK396.out 1).trans rfl
              have hfz436_0 := blk_frozen BK396.out 0
              have hfz436_1 := blk_frozen BK396.out 1
              go_upto_region 22 with (first | ((with_reducible refine gate_callee (f := 28) rfl ?_); refine goesA (some 143) rfl rfl Tryd.func28 (by kernel_rfl) rfl #[.agg #[.int .i64 t410, .int .i64 t411], .agg #[.int .i64 a1_0, .int .i64 a1_1]] rfl ?_; (with_reducible refine (num_Div.calls kj115 t410 t411 a1_0 a1_1 t434 t435 t436 _ A422.out).mono ?_); rintro e w437 ⟨rfl, hb⟩; refine ⟨_, rfl, ?_⟩; have hS := Stp.mk hb; clear hb) | ((with_reducible refine gate_dst (N := 23) rfl ?_); refine boxF (N := 23) (cs := #[.int .i64 0, .int .i64 0]) (t := 23) ?_; intro gb437 hg w438 hbox hb; have hS := Stp.mk hb; have BK437 := Fa.mk (hbox); have GW437 := Fa.mk (gle hg : w.heap.size ≤ gb437); have GE437 := GW437; have NB395_437 := Fa.mk (gne (o := .cells #[.int .i64 a0_0, .int .i64 a0_1] 23 (0, 0)) hg : gb395 ≠ gb437); have NB437_395 := Fa.mk NB395_437.out.symm; have NB396_437 := Fa.mk (gne (o := .cells #[.int .i64 a1_0, .int .i64 a1_1] 23 (0, 0)) hg : gb396 ≠ gb437); have NB437_396 := Fa.mk NB396_437.out.symm; have NB397_437 := Fa.mk (gne (o := .cells #[.int .i64 a2_0, .int .i64 a2_1] 23 (0, 0)) hg : gb397 ≠ gb437); have NB437_397 := Fa.mk NB397_437.out.symm; have NB405_437 := Fa.mk (gne (o := .cells #[.int .i64 t402, .int .i64 t403] 23 (0, 0)) hg : gb405 ≠ gb437); have NB437_405 := Fa.mk NB405_437.out.symm; have NB409_437 := Fa.mk (gne (o := .cells #[.int .i64 t406, .int .i64 t407] 23 (0, 0)) hg : gb409 ≠ gb437); have NB437_409 := Fa.mk NB409_437.out.symm; have NB413_437 := Fa.mk (gne (o := .cells #[.int .i64 t410, .int .i64 t411] 23 (0, 0)) hg : gb413 ≠ gb437); have NB437_413 := Fa.mk NB413_437.out.symm; have NB417_437 := Fa.mk (gne (o := .cells #[.int .i64 t414, .int .i64 t415] 23 (0, 0)) hg : gb417 ≠ gb437); have NB437_417 := Fa.mk NB417_437.out.symm; clear hb hbox hg; have hnb439 := NB437_395.out; have hnc439 := NB395_437.out; have hnb440 := NB437_396.out; have hnc440 := NB396_437.out; have hnb441 := NB437_397.out; have hnc441 := NB397_437.out; have hnb442 := NB437_405.out; have hnc442 := NB405_437.out; have hnb443 := NB437_409.out; have hnc443 := NB409_437.out; have hnb444 := NB437_413.out; have hnc444 := NB413_437.out; have hnb445 := NB437_417.out; have hnc445 := NB417_437.out; have hcz446_0 : w438.cell? ⟨gb437, 0, none⟩ = some (.int .i64 0) := (blk_cell BK437.out 0).trans rfl; have hcz446_1 : w438.cell? ⟨gb437, 1, none⟩ = some (.int .i64 0) := (blk_cell BK437.out 1).trans rfl; have hfz446_0 := blk_frozen BK437.out 0; have hfz446_1 := blk_frozen BK437.out 1))
              (try simp only [Act.put, List.setIfInBounds_toArray, List.set_cons_zero, List.set_cons_succ])
              go_cut [157] (fun v157 wc => ∃ (kq : Nat) (x157_422 : Bool), v157 = .bool x157_422 ∧ Fa (fleuronlaw01_NumField.j5 kq x157_422 a0_0 a0_1 a1_0 a1_1 a2_0 a2_1 t410 t411 = some r) ∧ Fa (kq ≤ kj115) ∧ Fa (wc.heap[gb395]? = some (.cells #[.int .i64 a0_0, .int .i64 a0_1] 23 (0, 0))) ∧ Fa (wc.heap[gb396]? = some (.cells #[.int .i64 a1_0, .int .i64 a1_1] 23 (0, 0))) ∧ Fa (wc.heap[gb397]? = some (.cells #[.int .i64 a2_0, .int .i64 a2_1] 23 (0, 0))) ∧ Fa (wc.heap[gb405]? = some (.cells #[.int .i64 t402, .int .i64 t403] 23 (0, 0))) ∧ Fa (wc.heap[gb409]? = some (.cells #[.int .i64 t406, .int .i64 t407] 23 (0, 0))) ∧ Fa (wc.heap[gb413]? = some (.cells #[.int .i64 t410, .int .i64 t411] 23 (0, 0))) ∧ Fa (wc.heap[gb417]? = some (.cells #[.int .i64 t414, .int .i64 t415] 23 (0, 0))) ∧ Fa (wc.heap[gb437]? = some (.cells #[.int .i64 t434, .int .i64 t435] 23 (0, 0))) ∧ Fa (Below w.heap.size w wc))
              case first =>
               as_aux_lemma =>
               have H := HC423.out
               clear HC423
               by_cases c447 : a1_0 = 0
               ·
                rw [if_pos c447] at H
                have c447b0 : (a1_0 == 0) = true := beq_iff_eq.mpr c447
                have c447b1 : (a1_0 != 0) = false := bne_eq_false_iff_eq.mpr c447
                clear c447
                (first | rw [c447b0] | (simp only [i64_w, i32_w]; rw [c447b0]) | skip)
                have H' := Fa.mk H
                clear H
                have hnb448 := NB396_395.out
                have hnc448 := NB395_396.out
                have hnb449 := NB396_397.out
                have hnc449 := NB397_396.out
                have hnb450 := NB396_405.out
                have hnc450 := NB405_396.out
                have hnb451 := NB396_409.out
                have hnc451 := NB409_396.out
                have hnb452 := NB396_413.out
                have hnc452 := NB413_396.out
                have hnb453 := NB396_417.out
                have hnc453 := NB417_396.out
                have hnb454 := NB396_437.out
                have hnc454 := NB437_396.out
                have BK396 : Fa (w438.heap[gb396]? = some (.cells #[.int .i64 a1_0, .int .i64 a1_1] 23 (0, 0))) := ⟨fa⟩
                have hcz455_0 : w438.cell? ⟨gb396, 0, none⟩ = some (.int .i64 a1_0) := (blk_cell BK396.out 0).trans rfl
                have hcz455_1 : w438.cell? ⟨gb396, 1, none⟩ = some (.int .i64 a1_1) := (blk_cell BK396.out 1).trans rfl
                have hfz455_0 := blk_frozen BK396.out 0
                have hfz455_1 := blk_frozen BK396.out 1
                go_wp2
                go_meet
                case rel => exact ⟨_, (false), (by first | rfl | (simp; done) | (simp [*]; done)), H', ⟨by have := HJ3.out; have := HJ37.out; have := HJ71.out; have := HJ115.out; first | omega | exact Nat.le_refl _⟩, ⟨by (with_reducible repeat (first | refine blk_drewN ?_ _ | refine blk_drew ?_ | refine blk_alloc ?_ _)); refine blk_far ?_ NB395_437.out _; (with_reducible repeat (first | refine blk_drewN ?_ _ | refine blk_drew ?_ | refine blk_alloc ?_ _)); refine blk_far ?_ NB395_437.out _; (with_reducible repeat (first | refine blk_drewN ?_ _ | refine blk_drew ?_ | refine blk_alloc ?_ _)); exact fa⟩, ⟨by (with_reducible repeat (first | refine blk_drewN ?_ _ | refine blk_drew ?_ | refine blk_alloc ?_ _)); refine blk_far ?_ NB396_437.out _; (with_reducible repeat (first | refine blk_drewN ?_ _ | refine blk_drew ?_ | refine blk_alloc ?_ _)); refine blk_far ?_ NB396_437.out _; (with_reducible repeat (first | refine blk_drewN ?_ _ | refine blk_drew ?_ | refine blk_alloc ?_ _)); exact fa⟩, ⟨by (with_reducible repeat (first | refine blk_drewN ?_ _ | refine blk_drew ?_ | refine blk_alloc ?_ _)); refine blk_far ?_ NB397_437.out _; (with_reducible repeat (first | refine blk_drewN ?_ _ | refine blk_drew ?_ | refine blk_alloc ?_ _)); refine blk_far ?_ NB397_437.out _; (with_reducible repeat (first | refine blk_drewN ?_ _ | refine blk_drew ?_ | refine blk_alloc ?_ _)); exact fa⟩, ⟨by (with_reducible repeat (first | refine blk_drewN ?_ _ | refine blk_drew ?_ | refine blk_alloc ?_ _)); refine blk_far ?_ NB405_437.out _; (with_reducible repeat (first | refine blk_drewN ?_ _ | refine blk_drew ?_ | refine blk_alloc ?_ _)); refine blk_far ?_ NB405_437.out _; (with_reducible repeat (first | refine blk_drewN ?_ _ | refine blk_drew ?_ | refine blk_alloc ?_ _)); exact fa⟩, ⟨by (with_reducible repeat (first | refine blk_drewN ?_ _ | refine blk_drew ?_ | refine blk_alloc ?_ _)); refine blk_far ?_ NB409_437.out _; (with_reducible repeat (first | refine blk_drewN ?_ _ | refine blk_drew ?_ | refine blk_alloc ?_ _)); refine blk_far ?_ NB409_437.out _; (with_reducible repeat (first | refine blk_drewN ?_ _ | refine blk_drew ?_ | refine blk_alloc ?_ _)); exact fa⟩, ⟨by (with_reducible repeat (first | refine blk_drewN ?_ _ | refine blk_drew ?_ | refine blk_alloc ?_ _)); refine blk_far ?_ NB413_437.out _; (with_reducible repeat (first | refine blk_drewN ?_ _ | refine blk_drew ?_ | refine blk_alloc ?_ _)); refine blk_far ?_ NB413_437.out _; (with_reducible repeat (first | refine blk_drewN ?_ _ | refine blk_drew ?_ | refine blk_alloc ?_ _)); exact fa⟩, ⟨by (with_reducible repeat (first | refine blk_drewN ?_ _ | refine blk_drew ?_ | refine blk_alloc ?_ _)); refine blk_far ?_ NB417_437.out _; (with_reducible repeat (first | refine blk_drewN ?_ _ | refine blk_drew ?_ | refine blk_alloc ?_ _)); refine blk_far ?_ NB417_437.out _; (with_reducible repeat (first | refine blk_drewN ?_ _ | refine blk_drew ?_ | refine blk_alloc ?_ _)); exact fa⟩, ⟨by (with_reducible repeat (first | refine blk_drewN ?_ _ | refine blk_drew ?_ | refine blk_alloc ?_ _)); refine blk_put (cs := #[.int .i64 t434, .int .i64 0]) ?_ 1 _ rfl; (with_reducible repeat (first | refine blk_drewN ?_ _ | refine blk_drew ?_ | refine blk_alloc ?_ _)); refine blk_put (cs := #[.int .i64 0, .int .i64 0]) ?_ 0 _ rfl; (with_reducible repeat (first | refine blk_drewN ?_ _ | refine blk_drew ?_ | refine blk_alloc ?_ _)); exact fa⟩, ⟨fa⟩⟩
               ·
                rw [if_neg c447] at H
                have c447b0 : (a1_0 == 0) = false := beq_eq_false_iff_ne.mpr c447
                have c447b1 : (a1_0 != 0) = true := bne_iff_ne.mpr c447
                (first | rw [c447b0] | (simp only [i64_w, i32_w]; rw [c447b0]) | skip)
                by_cases c456 : t436 = 0
                ·
                 rw [if_pos c456] at H
                 have c456b0 : (t436 == 0) = true := beq_iff_eq.mpr c456
                 have c456b1 : (t436 != 0) = false := bne_eq_false_iff_eq.mpr c456
                 clear c456
                 have H' := Fa.mk H
                 clear H
                 have hnb457 := NB396_395.out
                 have hnc457 := NB395_396.out
                 have hnb458 := NB396_397.out
                 have hnc458 := NB397_396.out
                 have hnb459 := NB396_405.out
                 have hnc459 := NB405_396.out
                 have hnb460 := NB396_409.out
                 have hnc460 := NB409_396.out
                 have hnb461 := NB396_413.out
                 have hnc461 := NB413_396.out
                 have hnb462 := NB396_417.out
                 have hnc462 := NB417_396.out
                 have hnb463 := NB396_437.out
                 have hnc463 := NB437_396.out
                 have BK396 : Fa (w438.heap[gb396]? = some (.cells #[.int .i64 a1_0, .int .i64 a1_1] 23 (0, 0))) := ⟨fa⟩
                 have hcz464_0 : w438.cell? ⟨gb396, 0, none⟩ = some (.int .i64 a1_0) := (blk_cell BK396.out 0).trans rfl
                 have hcz464_1 : w438.cell? ⟨gb396, 1, none⟩ = some (.int .i64 a1_1) := (blk_cell BK396.out 1).trans rfl
                 have hfz464_0 := blk_frozen BK396.out 0
                 have hfz464_1 := blk_frozen BK396.out 1
                 have hnb465 := NB437_395.out
                 have hnc465 := NB395_437.out
                 have hnb466 := NB437_397.out
                 have hnc466 := NB397_437.out
                 have hnb467 := NB437_405.out
                 have hnc467 := NB405_437.out
                 have hnb468 := NB437_409.out
                 have hnc468 := NB409_437.out
                 have hnb469 := NB437_413.out
                 have hnc469 := NB413_437.out
                 have hnb470 := NB437_417.out
                 have hnc470 := NB417_437.out
                 have hcz471_0 : w438.cell? ⟨gb437, 0, none⟩ = some (.int .i64 0) := (blk_cell BK437.out 0).trans rfl
                 have hcz471_1 : w438.cell? ⟨gb437, 1, none⟩ = some (.int .i64 0) := (blk_cell BK437.out 1).trans rfl
                 have hfz471_0 := blk_frozen BK437.out 0
                 have hfz471_1 := blk_frozen BK437.out 1
                 have hnb472 := NB395_397.out
                 have hnc472 := NB397_395.out
                 have hnb473 := NB395_405.out
                 have hnc473 := NB405_395.out
                 have hnb474 := NB395_409.out
                 have hnc474 := NB409_395.out
                 have hnb475 := NB395_413.out
                 have hnc475 := NB413_395.out
                 have hnb476 := NB395_417.out
                 have hnc476 := NB417_395.out
                 have BK395 : Fa (w438.heap[gb395]? = some (.cells #[.int .i64 a0_0, .int .i64 a0_1] 23 (0, 0))) := ⟨fa⟩
                 have hcz477_0 : w438.cell? ⟨gb395, 0, none⟩ = some (.int .i64 a0_0) := (blk_cell BK395.out 0).trans rfl
                 have hcz477_1 : w438.cell? ⟨gb395, 1, none⟩ = some (.int .i64 a0_1) := (blk_cell BK395.out 1).trans rfl
                 have hfz477_0 := blk_frozen BK395.out 0
                 have hfz477_1 := blk_frozen BK395.out 1
                 go_wp2
                 go_meet
                 case rel => exact ⟨_, ((!(t434 == a0_0) || (!(t435 == a0_1)))), (by first | rfl | (simp; done) | (simp [*]; done)), H', ⟨by have := HJ3.out; have := HJ37.out; have := HJ71.out; have := HJ115.out; first | omega | exact Nat.le_refl _⟩, ⟨by (with_reducible repeat (first | refine blk_drewN ?_ _ | refine blk_drew ?_ | refine blk_alloc ?_ _)); refine blk_far ?_ NB395_437.out _; (with_reducible repeat (first | refine blk_drewN ?_ _ | refine blk_drew ?_ | refine blk_alloc ?_ _)); refine blk_far ?_ NB395_437.out _; (with_reducible repeat (first | refine blk_drewN ?_ _ | refine blk_drew ?_ | refine blk_alloc ?_ _)); exact fa⟩, ⟨by (with_reducible repeat (first | refine blk_drewN ?_ _ | refine blk_drew ?_ | refine blk_alloc ?_ _)); refine blk_far ?_ NB396_437.out _; (with_reducible repeat (first | refine blk_drewN ?_ _ | refine blk_drew ?_ | refine blk_alloc ?_ _)); refine blk_far ?_ NB396_437.out _; (with_reducible repeat (first | refine blk_drewN ?_ _ | refine blk_drew ?_ | refine blk_alloc ?_ _)); exact fa⟩, ⟨by (with_reducible repeat (first | refine blk_drewN ?_ _ | refine blk_drew ?_ | refine blk_alloc ?_ _)); refine blk_far ?_ NB397_437.out _; (with_reducible repeat (first | refine blk_drewN ?_ _ | refine blk_drew ?_ | refine blk_alloc ?_ _)); refine blk_far ?_ NB397_437.out _; (with_reducible repeat (first | refine blk_drewN ?_ _ | refine blk_drew ?_ | refine blk_alloc ?_ _)); exact fa⟩, ⟨by (with_reducible repeat (first | refine blk_drewN ?_ _ | refine blk_drew ?_ | refine blk_alloc ?_ _)); refine blk_far ?_ NB405_437.out _; (with_reducible repeat (first | refine blk_drewN ?_ _ | refine blk_drew ?_ | refine blk_alloc ?_ _)); refine blk_far ?_ NB405_437.out _; (with_reducible repeat (first | refine blk_drewN ?_ _ | refine blk_drew ?_ | refine blk_alloc ?_ _)); exact fa⟩, ⟨by (with_reducible repeat (first | refine blk_drewN ?_ _ | refine blk_drew ?_ | refine blk_alloc ?_ _)); refine blk_far ?_ NB409_437.out _; (with_reducible repeat (first | refine blk_drewN ?_ _ | refine blk_drew ?_ | refine blk_alloc ?_ _)); refine blk_far ?_ NB409_437.out _; (with_reducible repeat (first | refine blk_drewN ?_ _ | refine blk_drew ?_ | refine blk_alloc ?_ _)); exact fa⟩, ⟨by (with_reducible repeat (first | refine blk_drewN ?_ _ | refine blk_drew ?_ | refine blk_alloc ?_ _)); refine blk_far ?_ NB413_437.out _; (with_reducible repeat (first | refine blk_drewN ?_ _ | refine blk_drew ?_ | refine blk_alloc ?_ _)); refine blk_far ?_ NB413_437.out _; (with_reducible repeat (first | refine blk_drewN ?_ _ | refine blk_drew ?_ | refine blk_alloc ?_ _)); exact fa⟩, ⟨by (with_reducible repeat (first | refine blk_drewN ?_ _ | refine blk_drew ?_ | refine blk_alloc ?_ _)); refine blk_far ?_ NB417_437.out _; (with_reducible repeat (first | refine blk_drewN ?_ _ | refine blk_drew ?_ | refine blk_alloc ?_ _)); refine blk_far ?_ NB417_437.out _; (with_reducible repeat (first | refine blk_drewN ?_ _ | refine blk_drew ?_ | refine blk_alloc ?_ _)); exact fa⟩, ⟨by (with_reducible repeat (first | refine blk_drewN ?_ _ | refine blk_drew ?_ | refine blk_alloc ?_ _)); refine blk_put (cs := #[.int .i64 t434, .int .i64 0]) ?_ 1 _ rfl; (with_reducible repeat (first | refine blk_drewN ?_ _ | refine blk_drew ?_ | refine blk_alloc ?_ _)); refine blk_put (cs := #[.int .i64 0, .int .i64 0]) ?_ 0 _ rfl; (with_reducible repeat (first | refine blk_drewN ?_ _ | refine blk_drew ?_ | refine blk_alloc ?_ _)); exact fa⟩, ⟨fa⟩⟩
                ·
                 rw [if_neg c456] at H
                 have c456b0 : (t436 == 0) = false := beq_eq_false_iff_ne.mpr c456
                 have c456b1 : (t436 != 0) = true := bne_iff_ne.mpr c456
                 have H' := Fa.mk H
                 clear H
                 have hnb478 := NB396_395.out
                 have hnc478 := NB395_396.out
                 have hnb479 := NB396_397.out
                 have hnc479 := NB397_396.out
                 have hnb480 := NB396_405.out
                 have hnc480 := NB405_396.out
                 have hnb481 := NB396_409.out
                 have hnc481 := NB409_396.out
                 have hnb482 := NB396_413.out
                 have hnc482 := NB413_396.out
                 have hnb483 := NB396_417.out
                 have hnc483 := NB417_396.out
                 have hnb484 := NB396_437.out
                 have hnc484 := NB437_396.out
                 have BK396 : Fa (w438.heap[gb396]? = some (.cells #[.int .i64 a1_0, .int .i64 a1_1] 23 (0, 0))) := ⟨fa⟩
                 have hcz485_0 : w438.cell? ⟨gb396, 0, none⟩ = some (.int .i64 a1_0) := (blk_cell BK396.out 0).trans rfl
                 have hcz485_1 : w438.cell? ⟨gb396, 1, none⟩ = some (.int .i64 a1_1) := (blk_cell BK396.out 1).trans rfl
                 have hfz485_0 := blk_frozen BK396.out 0
                 have hfz485_1 := blk_frozen BK396.out 1
                 go_wp2
                 go_meet
                 case rel => exact ⟨_, (true), (by first | rfl | (simp; done) | (simp [*]; done)), H', ⟨by have := HJ3.out; have := HJ37.out; have := HJ71.out; have := HJ115.out; first | omega | exact Nat.le_refl _⟩, ⟨by (with_reducible repeat (first | refine blk_drewN ?_ _ | refine blk_drew ?_ | refine blk_alloc ?_ _)); refine blk_far ?_ NB395_437.out _; (with_reducible repeat (first | refine blk_drewN ?_ _ | refine blk_drew ?_ | refine blk_alloc ?_ _)); refine blk_far ?_ NB395_437.out _; (with_reducible repeat (first | refine blk_drewN ?_ _ | refine blk_drew ?_ | refine blk_alloc ?_ _)); exact fa⟩, ⟨by (with_reducible repeat (first | refine blk_drewN ?_ _ | refine blk_drew ?_ | refine blk_alloc ?_ _)); refine blk_far ?_ NB396_437.out _; (with_reducible repeat (first | refine blk_drewN ?_ _ | refine blk_drew ?_ | refine blk_alloc ?_ _)); refine blk_far ?_ NB396_437.out _; (with_reducible repeat (first | refine blk_drewN ?_ _ | refine blk_drew ?_ | refine blk_alloc ?_ _)); exact fa⟩, ⟨by (with_reducible repeat (first | refine blk_drewN ?_ _ | refine blk_drew ?_ | refine blk_alloc ?_ _)); refine blk_far ?_ NB397_437.out _; (with_reducible repeat (first | refine blk_drewN ?_ _ | refine blk_drew ?_ | refine blk_alloc ?_ _)); refine blk_far ?_ NB397_437.out _; (with_reducible repeat (first | refine blk_drewN ?_ _ | refine blk_drew ?_ | refine blk_alloc ?_ _)); exact fa⟩, ⟨by (with_reducible repeat (first | refine blk_drewN ?_ _ | refine blk_drew ?_ | refine blk_alloc ?_ _)); refine blk_far ?_ NB405_437.out _; (with_reducible repeat (first | refine blk_drewN ?_ _ | refine blk_drew ?_ | refine blk_alloc ?_ _)); refine blk_far ?_ NB405_437.out _; (with_reducible repeat (first | refine blk_drewN ?_ _ | refine blk_drew ?_ | refine blk_alloc ?_ _)); exact fa⟩, ⟨by (with_reducible repeat (first | refine blk_drewN ?_ _ | refine blk_drew ?_ | refine blk_alloc ?_ _)); refine blk_far ?_ NB409_437.out _; (with_reducible repeat (first | refine blk_drewN ?_ _ | refine blk_drew ?_ | refine blk_alloc ?_ _)); refine blk_far ?_ NB409_437.out _; (with_reducible repeat (first | refine blk_drewN ?_ _ | refine blk_drew ?_ | refine blk_alloc ?_ _)); exact fa⟩, ⟨by (with_reducible repeat (first | refine blk_drewN ?_ _ | refine blk_drew ?_ | refine blk_alloc ?_ _)); refine blk_far ?_ NB413_437.out _; (with_reducible repeat (first | refine blk_drewN ?_ _ | refine blk_drew ?_ | refine blk_alloc ?_ _)); refine blk_far ?_ NB413_437.out _; (with_reducible repeat (first | refine blk_drewN ?_ _ | refine blk_drew ?_ | refine blk_alloc ?_ _)); exact fa⟩, ⟨by (with_reducible repeat (first | refine blk_drewN ?_ _ | refine blk_drew ?_ | refine blk_alloc ?_ _)); refine blk_far ?_ NB417_437.out _; (with_reducible repeat (first | refine blk_drewN ?_ _ | refine blk_drew ?_ | refine blk_alloc ?_ _)); refine blk_far ?_ NB417_437.out _; (with_reducible repeat (first | refine blk_drewN ?_ _ | refine blk_drew ?_ | refine blk_alloc ?_ _)); exact fa⟩, ⟨by (with_reducible repeat (first | refine blk_drewN ?_ _ | refine blk_drew ?_ | refine blk_alloc ?_ _)); refine blk_put (cs := #[.int .i64 t434, .int .i64 0]) ?_ 1 _ rfl; (with_reducible repeat (first | refine blk_drewN ?_ _ | refine blk_drew ?_ | refine blk_alloc ?_ _)); refine blk_put (cs := #[.int .i64 0, .int .i64 0]) ?_ 0 _ rfl; (with_reducible repeat (first | refine blk_drewN ?_ _ | refine blk_drew ?_ | refine blk_alloc ?_ _)); exact fa⟩, ⟨fa⟩⟩
              case rest =>
               as_aux_lemma =>
               clear HC423
               try clear p2
               try clear p2
               obtain ⟨kq, x157_422, rfl, HA, HJ422, BK395, BK396, BK397, BK405, BK409, BK413, BK417, BK437, HB⟩ := hcut
               cases kq with
               | zero => exact absurd HA.out (by simp [fleuronlaw01_NumField.j5])
               | succ kj422 =>
                have H := HA.out
                clear HA
                simp only [fleuronlaw01_NumField.j5] at H
                by_cases c486 : x157_422 = true
                ·
                 subst c486
                 have H1 : (none) = some r := by rw [if_pos rfl] at H; exact H
                 clear H
                 have H := H1
                 clear H1
                 exact absurd H (by simp)
                ·
                 replace c486 := Bool.eq_false_iff.mpr c486
                 subst c486
                 have H1 : ((fleuronlaw01_product.f kj422 t410 t411 a2_0 a2_1).bind fun bt438 => ((fleuronlaw01_product.f kj422 a1_0 a1_1 a2_0 a2_1).bind fun bt442 => ((fleuronlaw01_product.f kj422 a0_0 a0_1 bt442.1 bt442.2.1).bind fun bt446 => (if bt438.2.2 = true then (if bt442.2.2 = true then (if bt446.2.2 = true then (if (!(bt438.1 == bt446.1) || (!(bt438.2.1 == bt446.2.1))) = true then (none) else (fleuronlaw01_NumField.j6 kj422 a0_0 a0_1 a1_0 a1_1 a2_0 a2_1)) else (fleuronlaw01_NumField.j6 kj422 a0_0 a0_1 a1_0 a1_1 a2_0 a2_1)) else (fleuronlaw01_NumField.j6 kj422 a0_0 a0_1 a1_0 a1_1 a2_0 a2_1)) else (fleuronlaw01_NumField.j6 kj422 a0_0 a0_1 a1_0 a1_1 a2_0 a2_1))))) = some r := by rw [if_neg (show ¬ (false = true) by decide)] at H; exact H
                 clear H
                 have H := H1
                 clear H1
                 replace H := Option.bind_eq_some_iff.mp H
                 obtain ⟨⟨t438, t439, t440⟩, A4870, H⟩ := H
                 replace H : ((fleuronlaw01_product.f kj422 a1_0 a1_1 a2_0 a2_1).bind fun bt442 => ((fleuronlaw01_product.f kj422 a0_0 a0_1 bt442.1 bt442.2.1).bind fun bt446 => (if t440 = true then (if bt442.2.2 = true then (if bt446.2.2 = true then (if (!(t438 == bt446.1) || (!(t439 == bt446.2.1))) = true then (none) else (fleuronlaw01_NumField.j6 kj422 a0_0 a0_1 a1_0 a1_1 a2_0 a2_1)) else (fleuronlaw01_NumField.j6 kj422 a0_0 a0_1 a1_0 a1_1 a2_0 a2_1)) else (fleuronlaw01_NumField.j6 kj422 a0_0 a0_1 a1_0 a1_1 a2_0 a2_1)) else (fleuronlaw01_NumField.j6 kj422 a0_0 a0_1 a1_0 a1_1 a2_0 a2_1)))) = some r := H
                 have A487 := Fa.mk A4870
                 clear A4870
                 replace H := Option.bind_eq_some_iff.mp H
                 obtain ⟨⟨t442, t443, t444⟩, A4880, H⟩ := H
                 replace H : ((fleuronlaw01_product.f kj422 a0_0 a0_1 t442 t443).bind fun bt446 => (if t440 = true then (if t444 = true then (if bt446.2.2 = true then (if (!(t438 == bt446.1) || (!(t439 == bt446.2.1))) = true then (none) else (fleuronlaw01_NumField.j6 kj422 a0_0 a0_1 a1_0 a1_1 a2_0 a2_1)) else (fleuronlaw01_NumField.j6 kj422 a0_0 a0_1 a1_0 a1_1 a2_0 a2_1)) else (fleuronlaw01_NumField.j6 kj422 a0_0 a0_1 a1_0 a1_1 a2_0 a2_1)) else (fleuronlaw01_NumField.j6 kj422 a0_0 a0_1 a1_0 a1_1 a2_0 a2_1))) = some r := H
                 have A488 := Fa.mk A4880
                 clear A4880
                 replace H := Option.bind_eq_some_iff.mp H
                 obtain ⟨⟨t446, t447, t448⟩, A4890, H⟩ := H
                 replace H : (if t440 = true then (if t444 = true then (if t448 = true then (if (!(t438 == t446) || (!(t439 == t447))) = true then (none) else (fleuronlaw01_NumField.j6 kj422 a0_0 a0_1 a1_0 a1_1 a2_0 a2_1)) else (fleuronlaw01_NumField.j6 kj422 a0_0 a0_1 a1_0 a1_1 a2_0 a2_1)) else (fleuronlaw01_NumField.j6 kj422 a0_0 a0_1 a1_0 a1_1 a2_0 a2_1)) else (fleuronlaw01_NumField.j6 kj422 a0_0 a0_1 a1_0 a1_1 a2_0 a2_1)) = some r := H
                 have A489 := Fa.mk A4890
                 clear A4890
                 have hnb494 := NB413_395.out
                 have hnc494 := NB395_413.out
                 have hnb495 := NB413_396.out
                 have hnc495 := NB396_413.out
                 have hnb496 := NB413_397.out
                 have hnc496 := NB397_413.out
                 have hnb497 := NB413_405.out
                 have hnc497 := NB405_413.out
                 have hnb498 := NB413_409.out
                 have hnc498 := NB409_413.out
                 have hnb499 := NB413_417.out
                 have hnc499 := NB417_413.out
                 have hnb500 := NB413_437.out
                 have hnc500 := NB437_413.out
                 have hcz501_0 : wc.cell? ⟨gb413, 0, none⟩ = some (.int .i64 t410) := (blk_cell BK413.out 0).trans rfl
                 have hcz501_1 : wc.cell? ⟨gb413, 1, none⟩ = some (.int .i64 t411) := (blk_cell BK413.out 1).trans rfl
                 have hfz501_0 := blk_frozen BK413.out 0
                 have hfz501_1 := blk_frozen BK413.out 1
                 have hnb502 := NB397_395.out
                 have hnc502 := NB395_397.out
                 have hnb503 := NB397_396.out
                 have hnc503 := NB396_397.out
                 have hnb504 := NB397_405.out
                 have hnc504 := NB405_397.out
                 have hnb505 := NB397_409.out
                 have hnc505 := NB409_397.out
                 have hnb506 := NB397_417.out
                 have hnc506 := NB417_397.out
                 have hnb507 := NB397_437.out
                 have hnc507 := NB437_397.out
                 have hcz508_0 : wc.cell? ⟨gb397, 0, none⟩ = some (.int .i64 a2_0) := (blk_cell BK397.out 0).trans rfl
                 have hcz508_1 : wc.cell? ⟨gb397, 1, none⟩ = some (.int .i64 a2_1) := (blk_cell BK397.out 1).trans rfl
                 have hfz508_0 := blk_frozen BK397.out 0
                 have hfz508_1 := blk_frozen BK397.out 1
                 go_upto_region 27 with (first | ((with_reducible refine gate_callee (f := 31) rfl ?_); refine goesA (some 161) rfl rfl Tryd.func31 (by kernel_rfl) rfl #[.agg #[.int .i64 t410, .int .i64 t411], .agg #[.int .i64 a2_0, .int .i64 a2_1]] rfl ?_; (with_reducible refine (fleuronlaw01_product.calls kj422 t410 t411 a2_0 a2_1 t438 t439 _ _ A487.out).mono ?_); rintro e w509 ⟨rfl, hb⟩; refine ⟨_, rfl, ?_⟩; have hS := Stp.mk hb; clear hb) | ((with_reducible refine gate_dst (N := 25) rfl ?_); refine boxF (N := 25) (cs := #[.int .i64 0, .int .i64 0]) (t := 23) ?_; intro gb441 hg w510 hbox hb; have hS := Stp.mk hb; have BK396 := (⟨fa⟩ : Fa (w510.heap[gb396]? = some (.cells #[.int .i64 a1_0, .int .i64 a1_1] 23 (0, 0)))); have BK397 := (⟨fa⟩ : Fa (w510.heap[gb397]? = some (.cells #[.int .i64 a2_0, .int .i64 a2_1] 23 (0, 0)))); have BK441 := Fa.mk (hbox); have GW441 := Fa.mk (gle hg : w.heap.size ≤ gb441); have GE441 := GW441; have NB395_441 := Fa.mk (gne (o := .cells #[.int .i64 a0_0, .int .i64 a0_1] 23 (0, 0)) hg : gb395 ≠ gb441); have NB441_395 := Fa.mk NB395_441.out.symm; have NB396_441 := Fa.mk (gne (o := .cells #[.int .i64 a1_0, .int .i64 a1_1] 23 (0, 0)) hg : gb396 ≠ gb441); have NB441_396 := Fa.mk NB396_441.out.symm; have NB397_441 := Fa.mk (gne (o := .cells #[.int .i64 a2_0, .int .i64 a2_1] 23 (0, 0)) hg : gb397 ≠ gb441); have NB441_397 := Fa.mk NB397_441.out.symm; have NB405_441 := Fa.mk (gne (o := .cells #[.int .i64 t402, .int .i64 t403] 23 (0, 0)) hg : gb405 ≠ gb441); have NB441_405 := Fa.mk NB405_441.out.symm; have NB409_441 := Fa.mk (gne (o := .cells #[.int .i64 t406, .int .i64 t407] 23 (0, 0)) hg : gb409 ≠ gb441); have NB441_409 := Fa.mk NB409_441.out.symm; have NB413_441 := Fa.mk (gne (o := .cells #[.int .i64 t410, .int .i64 t411] 23 (0, 0)) hg : gb413 ≠ gb441); have NB441_413 := Fa.mk NB413_441.out.symm; have NB417_441 := Fa.mk (gne (o := .cells #[.int .i64 t414, .int .i64 t415] 23 (0, 0)) hg : gb417 ≠ gb441); have NB441_417 := Fa.mk NB417_441.out.symm; have NB437_441 := Fa.mk (gne (o := .cells #[.int .i64 t434, .int .i64 t435] 23 (0, 0)) hg : gb437 ≠ gb441); have NB441_437 := Fa.mk NB437_441.out.symm; clear hb hbox hg; have hnb511 := NB441_395.out; have hnc511 := NB395_441.out; have hnb512 := NB441_396.out; have hnc512 := NB396_441.out; have hnb513 := NB441_397.out; have hnc513 := NB397_441.out; have hnb514 := NB441_405.out; have hnc514 := NB405_441.out; have hnb515 := NB441_409.out; have hnc515 := NB409_441.out; have hnb516 := NB441_413.out; have hnc516 := NB413_441.out; have hnb517 := NB441_417.out; have hnc517 := NB417_441.out; have hnb518 := NB441_437.out; have hnc518 := NB437_441.out; have hcz519_0 : w510.cell? ⟨gb441, 0, none⟩ = some (.int .i64 0) := (blk_cell BK441.out 0).trans rfl; have hcz519_1 : w510.cell? ⟨gb441, 1, none⟩ = some (.int .i64 0) := (blk_cell BK441.out 1).trans rfl; have hfz519_0 := blk_frozen BK441.out 0; have hfz519_1 := blk_frozen BK441.out 1; have hnb520 := NB396_395.out; have hnc520 := NB395_396.out; have hnb521 := NB396_405.out; have hnc521 := NB405_396.out; have hnb522 := NB396_409.out; have hnc522 := NB409_396.out; have hnb523 := NB396_417.out; have hnc523 := NB417_396.out; have hnb524 := NB396_437.out; have hnc524 := NB437_396.out; have hcz525_0 : w510.cell? ⟨gb396, 0, none⟩ = some (.int .i64 a1_0) := (blk_cell BK396.out 0).trans rfl; have hcz525_1 : w510.cell? ⟨gb396, 1, none⟩ = some (.int .i64 a1_1) := (blk_cell BK396.out 1).trans rfl; have hfz525_0 := blk_frozen BK396.out 0; have hfz525_1 := blk_frozen BK396.out 1; have hcz526_0 : w510.cell? ⟨gb397, 0, none⟩ = some (.int .i64 a2_0) := (blk_cell BK397.out 0).trans rfl; have hcz526_1 : w510.cell? ⟨gb397, 1, none⟩ = some (.int .i64 a2_1) := (blk_cell BK397.out 1).trans rfl; have hfz526_0 := blk_frozen BK397.out 0; have hfz526_1 := blk_frozen BK397.out 1) | ((with_reducible refine gate_callee (f := 31) rfl ?_); refine goesA (some 167) rfl rfl Tryd.func31 (by kernel_rfl) rfl #[.agg #[.int .i64 a1_0, .int .i64 a1_1], .agg #[.int .i64 a2_0, .int .i64 a2_1]] rfl ?_; (with_reducible refine (fleuronlaw01_product.calls kj422 a1_0 a1_1 a2_0 a2_1 t442 t443 _ _ A488.out).mono ?_); rintro e w527 ⟨rfl, hb⟩; refine ⟨_, rfl, ?_⟩; have hS := Stp.mk hb; have BK441 := Fa.mk (blk_below (g := gb441) (o := .cells #[.int .i64 t438, .int .i64 t439] 23 (0, 0)) (by (with_reducible repeat (first | refine blk_drewN ?_ _ | refine blk_drew ?_ | refine blk_alloc ?_ _)); refine blk_put (cs := #[.int .i64 t438, .int .i64 0]) ?_ 1 _ rfl; (with_reducible repeat (first | refine blk_drewN ?_ _ | refine blk_drew ?_ | refine blk_alloc ?_ _)); refine blk_put (cs := #[.int .i64 0, .int .i64 0]) ?_ 0 _ rfl; (with_reducible repeat (first | refine blk_drewN ?_ _ | refine blk_drew ?_ | refine blk_alloc ?_ _)); exact fa) hb); clear hb) | ((with_reducible refine gate_dst (N := 27) rfl ?_); refine boxF (N := 27) (cs := #[.int .i64 0, .int .i64 0]) (t := 23) ?_; intro gb445 hg w528 hbox hb; have hS := Stp.mk hb; have BK395 := (⟨fa⟩ : Fa (w528.heap[gb395]? = some (.cells #[.int .i64 a0_0, .int .i64 a0_1] 23 (0, 0)))); have BK445 := Fa.mk (hbox); have GW445 := Fa.mk (gle hg : w.heap.size ≤ gb445); have GE445 := GW445; have NB395_445 := Fa.mk (gne (o := .cells #[.int .i64 a0_0, .int .i64 a0_1] 23 (0, 0)) hg : gb395 ≠ gb445); have NB445_395 := Fa.mk NB395_445.out.symm; have NB396_445 := Fa.mk (gne (o := .cells #[.int .i64 a1_0, .int .i64 a1_1] 23 (0, 0)) hg : gb396 ≠ gb445); have NB445_396 := Fa.mk NB396_445.out.symm; have NB397_445 := Fa.mk (gne (o := .cells #[.int .i64 a2_0, .int .i64 a2_1] 23 (0, 0)) hg : gb397 ≠ gb445); have NB445_397 := Fa.mk NB397_445.out.symm; have NB405_445 := Fa.mk (gne (o := .cells #[.int .i64 t402, .int .i64 t403] 23 (0, 0)) hg : gb405 ≠ gb445); have NB445_405 := Fa.mk NB405_445.out.symm; have NB409_445 := Fa.mk (gne (o := .cells #[.int .i64 t406, .int .i64 t407] 23 (0, 0)) hg : gb409 ≠ gb445); have NB445_409 := Fa.mk NB409_445.out.symm; have NB413_445 := Fa.mk (gne (o := .cells #[.int .i64 t410, .int .i64 t411] 23 (0, 0)) hg : gb413 ≠ gb445); have NB445_413 := Fa.mk NB413_445.out.symm; have NB417_445 := Fa.mk (gne (o := .cells #[.int .i64 t414, .int .i64 t415] 23 (0, 0)) hg : gb417 ≠ gb445); have NB445_417 := Fa.mk NB417_445.out.symm; have NB437_445 := Fa.mk (gne (o := .cells #[.int .i64 t434, .int .i64 t435] 23 (0, 0)) hg : gb437 ≠ gb445); have NB445_437 := Fa.mk NB437_445.out.symm; have NB441_445 := Fa.mk (gne (o := .cells #[.int .i64 t438, .int .i64 t439] 23 (0, 0)) hg : gb441 ≠ gb445); have NB445_441 := Fa.mk NB441_445.out.symm; clear hb hbox hg; have hnb529 := NB445_395.out; have hnc529 := NB395_445.out; have hnb530 := NB445_396.out; have hnc530 := NB396_445.out; have hnb531 := NB445_397.out; have hnc531 := NB397_445.out; have hnb532 := NB445_405.out; have hnc532 := NB405_445.out; have hnb533 := NB445_409.out; have hnc533 := NB409_445.out; have hnb534 := NB445_413.out; have hnc534 := NB413_445.out; have hnb535 := NB445_417.out; have hnc535 := NB417_445.out; have hnb536 := NB445_437.out; have hnc536 := NB437_445.out; have hnb537 := NB445_441.out; have hnc537 := NB441_445.out; have hcz538_0 : w528.cell? ⟨gb445, 0, none⟩ = some (.int .i64 0) := (blk_cell BK445.out 0).trans rfl; have hcz538_1 : w528.cell? ⟨gb445, 1, none⟩ = some (.int .i64 0) := (blk_cell BK445.out 1).trans rfl; have hfz538_0 := blk_frozen BK445.out 0; have hfz538_1 := blk_frozen BK445.out 1; have hnb539 := NB395_405.out; have hnc539 := NB405_395.out; have hnb540 := NB395_409.out; have hnc540 := NB409_395.out; have hnb541 := NB395_417.out; have hnc541 := NB417_395.out; have hnb542 := NB395_437.out; have hnc542 := NB437_395.out; have hcz543_0 : w528.cell? ⟨gb395, 0, none⟩ = some (.int .i64 a0_0) := (blk_cell BK395.out 0).trans rfl; have hcz543_1 : w528.cell? ⟨gb395, 1, none⟩ = some (.int .i64 a0_1) := (blk_cell BK395.out 1).trans rfl; have hfz543_0 := blk_frozen BK395.out 0; have hfz543_1 := blk_frozen BK395.out 1) | ((with_reducible refine gate_callee (f := 31) rfl ?_); refine goesA (some 173) rfl rfl Tryd.func31 (by kernel_rfl) rfl #[.agg #[.int .i64 a0_0, .int .i64 a0_1], .agg #[.int .i64 t442, .int .i64 t443]] rfl ?_; (with_reducible refine (fleuronlaw01_product.calls kj422 a0_0 a0_1 t442 t443 t446 t447 _ _ A489.out).mono ?_); rintro e w544 ⟨rfl, hb⟩; refine ⟨_, rfl, ?_⟩; have hS := Stp.mk hb; have BK445 := Fa.mk (blk_below (g := gb445) (o := .cells #[.int .i64 t442, .int .i64 t443] 23 (0, 0)) (by (with_reducible repeat (first | refine blk_drewN ?_ _ | refine blk_drew ?_ | refine blk_alloc ?_ _)); refine blk_put (cs := #[.int .i64 t442, .int .i64 0]) ?_ 1 _ rfl; (with_reducible repeat (first | refine blk_drewN ?_ _ | refine blk_drew ?_ | refine blk_alloc ?_ _)); refine blk_put (cs := #[.int .i64 0, .int .i64 0]) ?_ 0 _ rfl; (with_reducible repeat (first | refine blk_drewN ?_ _ | refine blk_drew ?_ | refine blk_alloc ?_ _)); exact fa) hb); clear hb) | ((with_reducible refine gate_dst (N := 29) rfl ?_); refine boxF (N := 29) (cs := #[.int .i64 0, .int .i64 0]) (t := 23) ?_; intro gb449 hg w545 hbox hb; have hS := Stp.mk hb; have BK441 := (⟨fa⟩ : Fa (w545.heap[gb441]? = some (.cells #[.int .i64 t438, .int .i64 t439] 23 (0, 0)))); have BK449 := Fa.mk (hbox); have GW449 := Fa.mk (gle hg : w.heap.size ≤ gb449); have GE449 := GW449; have NB395_449 := Fa.mk (gne (o := .cells #[.int .i64 a0_0, .int .i64 a0_1] 23 (0, 0)) hg : gb395 ≠ gb449); have NB449_395 := Fa.mk NB395_449.out.symm; have NB396_449 := Fa.mk (gne (o := .cells #[.int .i64 a1_0, .int .i64 a1_1] 23 (0, 0)) hg : gb396 ≠ gb449); have NB449_396 := Fa.mk NB396_449.out.symm; have NB397_449 := Fa.mk (gne (o := .cells #[.int .i64 a2_0, .int .i64 a2_1] 23 (0, 0)) hg : gb397 ≠ gb449); have NB449_397 := Fa.mk NB397_449.out.symm; have NB405_449 := Fa.mk (gne (o := .cells #[.int .i64 t402, .int .i64 t403] 23 (0, 0)) hg : gb405 ≠ gb449); have NB449_405 := Fa.mk NB405_449.out.symm; have NB409_449 := Fa.mk (gne (o := .cells #[.int .i64 t406, .int .i64 t407] 23 (0, 0)) hg : gb409 ≠ gb449); have NB449_409 := Fa.mk NB409_449.out.symm; have NB413_449 := Fa.mk (gne (o := .cells #[.int .i64 t410, .int .i64 t411] 23 (0, 0)) hg : gb413 ≠ gb449); have NB449_413 := Fa.mk NB413_449.out.symm; have NB417_449 := Fa.mk (gne (o := .cells #[.int .i64 t414, .int .i64 t415] 23 (0, 0)) hg : gb417 ≠ gb449); have NB449_417 := Fa.mk NB417_449.out.symm; have NB437_449 := Fa.mk (gne (o := .cells #[.int .i64 t434, .int .i64 t435] 23 (0, 0)) hg : gb437 ≠ gb449); have NB449_437 := Fa.mk NB437_449.out.symm; have NB441_449 := Fa.mk (gne (o := .cells #[.int .i64 t438, .int .i64 t439] 23 (0, 0)) hg : gb441 ≠ gb449); have NB449_441 := Fa.mk NB441_449.out.symm; have NB445_449 := Fa.mk (gne (o := .cells #[.int .i64 t442, .int .i64 t443] 23 (0, 0)) hg : gb445 ≠ gb449); have NB449_445 := Fa.mk NB445_449.out.symm; clear hb hbox hg; have hnb546 := NB449_395.out; have hnc546 := NB395_449.out; have hnb547 := NB449_396.out; have hnc547 := NB396_449.out; have hnb548 := NB449_397.out; have hnc548 := NB397_449.out; have hnb549 := NB449_405.out; have hnc549 := NB405_449.out; have hnb550 := NB449_409.out; have hnc550 := NB409_449.out; have hnb551 := NB449_413.out; have hnc551 := NB413_449.out; have hnb552 := NB449_417.out; have hnc552 := NB417_449.out; have hnb553 := NB449_437.out; have hnc553 := NB437_449.out; have hnb554 := NB449_441.out; have hnc554 := NB441_449.out; have hnb555 := NB449_445.out; have hnc555 := NB445_449.out; have hcz556_0 : w545.cell? ⟨gb449, 0, none⟩ = some (.int .i64 0) := (blk_cell BK449.out 0).trans rfl; have hcz556_1 : w545.cell? ⟨gb449, 1, none⟩ = some (.int .i64 0) := (blk_cell BK449.out 1).trans rfl; have hfz556_0 := blk_frozen BK449.out 0; have hfz556_1 := blk_frozen BK449.out 1; have hcz557_0 : w545.cell? ⟨gb441, 0, none⟩ = some (.int .i64 t438) := (blk_cell BK441.out 0).trans rfl; have hcz557_1 : w545.cell? ⟨gb441, 1, none⟩ = some (.int .i64 t439) := (blk_cell BK441.out 1).trans rfl; have hfz557_0 := blk_frozen BK441.out 0; have hfz557_1 := blk_frozen BK441.out 1))
                 by_cases c490 : t440 = true
                 ·
                  subst c490
                  have H1 : (if t444 = true then (if t448 = true then (if (!(t438 == t446) || (!(t439 == t447))) = true then (none) else (fleuronlaw01_NumField.j6 kj422 a0_0 a0_1 a1_0 a1_1 a2_0 a2_1)) else (fleuronlaw01_NumField.j6 kj422 a0_0 a0_1 a1_0 a1_1 a2_0 a2_1)) else (fleuronlaw01_NumField.j6 kj422 a0_0 a0_1 a1_0 a1_1 a2_0 a2_1)) = some r := by rw [if_pos rfl] at H; exact H
                  clear H
                  have H := H1
                  clear H1
                  by_cases c491 : t444 = true
                  ·
                   subst c491
                   have H1 : (if t448 = true then (if (!(t438 == t446) || (!(t439 == t447))) = true then (none) else (fleuronlaw01_NumField.j6 kj422 a0_0 a0_1 a1_0 a1_1 a2_0 a2_1)) else (fleuronlaw01_NumField.j6 kj422 a0_0 a0_1 a1_0 a1_1 a2_0 a2_1)) = some r := by rw [if_pos rfl] at H; exact H
                   clear H
                   have H := H1
                   clear H1
                   by_cases c492 : t448 = true
                   ·
                    subst c492
                    have H1 : (if (!(t438 == t446) || (!(t439 == t447))) = true then (none) else (fleuronlaw01_NumField.j6 kj422 a0_0 a0_1 a1_0 a1_1 a2_0 a2_1)) = some r := by rw [if_pos rfl] at H; exact H
                    clear H
                    have H := H1
                    clear H1
                    by_cases c493 : (!(t438 == t446) || (!(t439 == t447))) = true
                    ·
                     rw [if_pos c493] at H
                     exact absurd H (by simp)
                    ·
                     rw [if_neg c493] at H
                     have c493b0 : (!(t438 == t446) || (!(t439 == t447))) = false := by simpa using c493
                     clear c493
                     have H' := Fa.mk H
                     clear H
                     iterate 4 (go_wp2_with (fail); (try go_quiet (fail)))
                     go_meet
                     case rel => exact ⟨_, H', ⟨by have := HJ3.out; have := HJ37.out; have := HJ71.out; have := HJ115.out; have := HJ422.out; first | omega | exact Nat.le_refl _⟩, ⟨by (with_reducible repeat (first | refine blk_drewN ?_ _ | refine blk_drew ?_ | refine blk_alloc ?_ _)); refine blk_far ?_ NB395_449.out _; (with_reducible repeat (first | refine blk_drewN ?_ _ | refine blk_drew ?_ | refine blk_alloc ?_ _)); refine blk_far ?_ NB395_449.out _; (with_reducible repeat (first | refine blk_drewN ?_ _ | refine blk_drew ?_ | refine blk_alloc ?_ _)); exact fa⟩, ⟨by (with_reducible repeat (first | refine blk_drewN ?_ _ | refine blk_drew ?_ | refine blk_alloc ?_ _)); refine blk_far ?_ NB396_449.out _; (with_reducible repeat (first | refine blk_drewN ?_ _ | refine blk_drew ?_ | refine blk_alloc ?_ _)); refine blk_far ?_ NB396_449.out _; (with_reducible repeat (first | refine blk_drewN ?_ _ | refine blk_drew ?_ | refine blk_alloc ?_ _)); exact fa⟩, ⟨by (with_reducible repeat (first | refine blk_drewN ?_ _ | refine blk_drew ?_ | refine blk_alloc ?_ _)); refine blk_far ?_ NB397_449.out _; (with_reducible repeat (first | refine blk_drewN ?_ _ | refine blk_drew ?_ | refine blk_alloc ?_ _)); refine blk_far ?_ NB397_449.out _; (with_reducible repeat (first | refine blk_drewN ?_ _ | refine blk_drew ?_ | refine blk_alloc ?_ _)); exact fa⟩, ⟨by (with_reducible repeat (first | refine blk_drewN ?_ _ | refine blk_drew ?_ | refine blk_alloc ?_ _)); refine blk_far ?_ NB405_449.out _; (with_reducible repeat (first | refine blk_drewN ?_ _ | refine blk_drew ?_ | refine blk_alloc ?_ _)); refine blk_far ?_ NB405_449.out _; (with_reducible repeat (first | refine blk_drewN ?_ _ | refine blk_drew ?_ | refine blk_alloc ?_ _)); exact fa⟩, ⟨by (with_reducible repeat (first | refine blk_drewN ?_ _ | refine blk_drew ?_ | refine blk_alloc ?_ _)); refine blk_far ?_ NB409_449.out _; (with_reducible repeat (first | refine blk_drewN ?_ _ | refine blk_drew ?_ | refine blk_alloc ?_ _)); refine blk_far ?_ NB409_449.out _; (with_reducible repeat (first | refine blk_drewN ?_ _ | refine blk_drew ?_ | refine blk_alloc ?_ _)); exact fa⟩, ⟨by (with_reducible repeat (first | refine blk_drewN ?_ _ | refine blk_drew ?_ | refine blk_alloc ?_ _)); refine blk_far ?_ NB413_449.out _; (with_reducible repeat (first | refine blk_drewN ?_ _ | refine blk_drew ?_ | refine blk_alloc ?_ _)); refine blk_far ?_ NB413_449.out _; (with_reducible repeat (first | refine blk_drewN ?_ _ | refine blk_drew ?_ | refine blk_alloc ?_ _)); exact fa⟩, ⟨by (with_reducible repeat (first | refine blk_drewN ?_ _ | refine blk_drew ?_ | refine blk_alloc ?_ _)); refine blk_far ?_ NB417_449.out _; (with_reducible repeat (first | refine blk_drewN ?_ _ | refine blk_drew ?_ | refine blk_alloc ?_ _)); refine blk_far ?_ NB417_449.out _; (with_reducible repeat (first | refine blk_drewN ?_ _ | refine blk_drew ?_ | refine blk_alloc ?_ _)); exact fa⟩, ⟨fa⟩⟩
                   ·
                    replace c492 := Bool.eq_false_iff.mpr c492
                    subst c492
                    have H1 : (fleuronlaw01_NumField.j6 kj422 a0_0 a0_1 a1_0 a1_1 a2_0 a2_1) = some r := by rw [if_neg (show ¬ (false = true) by decide)] at H; exact H
                    clear H
                    have H := H1
                    clear H1
                    have H' := Fa.mk H
                    clear H
                    iterate 4 (go_wp2_with (fail); (try go_quiet (fail)))
                    go_meet
                    case rel => exact ⟨_, H', ⟨by have := HJ3.out; have := HJ37.out; have := HJ71.out; have := HJ115.out; have := HJ422.out; first | omega | exact Nat.le_refl _⟩, ⟨by (with_reducible repeat (first | refine blk_drewN ?_ _ | refine blk_drew ?_ | refine blk_alloc ?_ _)); refine blk_far ?_ NB395_449.out _; (with_reducible repeat (first | refine blk_drewN ?_ _ | refine blk_drew ?_ | refine blk_alloc ?_ _)); refine blk_far ?_ NB395_449.out _; (with_reducible repeat (first | refine blk_drewN ?_ _ | refine blk_drew ?_ | refine blk_alloc ?_ _)); exact fa⟩, ⟨by (with_reducible repeat (first | refine blk_drewN ?_ _ | refine blk_drew ?_ | refine blk_alloc ?_ _)); refine blk_far ?_ NB396_449.out _; (with_reducible repeat (first | refine blk_drewN ?_ _ | refine blk_drew ?_ | refine blk_alloc ?_ _)); refine blk_far ?_ NB396_449.out _; (with_reducible repeat (first | refine blk_drewN ?_ _ | refine blk_drew ?_ | refine blk_alloc ?_ _)); exact fa⟩, ⟨by (with_reducible repeat (first | refine blk_drewN ?_ _ | refine blk_drew ?_ | refine blk_alloc ?_ _)); refine blk_far ?_ NB397_449.out _; (with_reducible repeat (first | refine blk_drewN ?_ _ | refine blk_drew ?_ | refine blk_alloc ?_ _)); refine blk_far ?_ NB397_449.out _; (with_reducible repeat (first | refine blk_drewN ?_ _ | refine blk_drew ?_ | refine blk_alloc ?_ _)); exact fa⟩, ⟨by (with_reducible repeat (first | refine blk_drewN ?_ _ | refine blk_drew ?_ | refine blk_alloc ?_ _)); refine blk_far ?_ NB405_449.out _; (with_reducible repeat (first | refine blk_drewN ?_ _ | refine blk_drew ?_ | refine blk_alloc ?_ _)); refine blk_far ?_ NB405_449.out _; (with_reducible repeat (first | refine blk_drewN ?_ _ | refine blk_drew ?_ | refine blk_alloc ?_ _)); exact fa⟩, ⟨by (with_reducible repeat (first | refine blk_drewN ?_ _ | refine blk_drew ?_ | refine blk_alloc ?_ _)); refine blk_far ?_ NB409_449.out _; (with_reducible repeat (first | refine blk_drewN ?_ _ | refine blk_drew ?_ | refine blk_alloc ?_ _)); refine blk_far ?_ NB409_449.out _; (with_reducible repeat (first | refine blk_drewN ?_ _ | refine blk_drew ?_ | refine blk_alloc ?_ _)); exact fa⟩, ⟨by (with_reducible repeat (first | refine blk_drewN ?_ _ | refine blk_drew ?_ | refine blk_alloc ?_ _)); refine blk_far ?_ NB413_449.out _; (with_reducible repeat (first | refine blk_drewN ?_ _ | refine blk_drew ?_ | refine blk_alloc ?_ _)); refine blk_far ?_ NB413_449.out _; (with_reducible repeat (first | refine blk_drewN ?_ _ | refine blk_drew ?_ | refine blk_alloc ?_ _)); exact fa⟩, ⟨by (with_reducible repeat (first | refine blk_drewN ?_ _ | refine blk_drew ?_ | refine blk_alloc ?_ _)); refine blk_far ?_ NB417_449.out _; (with_reducible repeat (first | refine blk_drewN ?_ _ | refine blk_drew ?_ | refine blk_alloc ?_ _)); refine blk_far ?_ NB417_449.out _; (with_reducible repeat (first | refine blk_drewN ?_ _ | refine blk_drew ?_ | refine blk_alloc ?_ _)); exact fa⟩, ⟨fa⟩⟩
                  ·
                   replace c491 := Bool.eq_false_iff.mpr c491
                   subst c491
                   have H1 : (fleuronlaw01_NumField.j6 kj422 a0_0 a0_1 a1_0 a1_1 a2_0 a2_1) = some r := by rw [if_neg (show ¬ (false = true) by decide)] at H; exact H
                   clear H
                   have H := H1
                   clear H1
                   have H' := Fa.mk H
                   clear H
                   iterate 4 (go_wp2_with (fail); (try go_quiet (fail)))
                   go_meet
                   case rel => exact ⟨_, H', ⟨by have := HJ3.out; have := HJ37.out; have := HJ71.out; have := HJ115.out; have := HJ422.out; first | omega | exact Nat.le_refl _⟩, ⟨by (with_reducible repeat (first | refine blk_drewN ?_ _ | refine blk_drew ?_ | refine blk_alloc ?_ _)); refine blk_far ?_ NB395_449.out _; (with_reducible repeat (first | refine blk_drewN ?_ _ | refine blk_drew ?_ | refine blk_alloc ?_ _)); refine blk_far ?_ NB395_449.out _; (with_reducible repeat (first | refine blk_drewN ?_ _ | refine blk_drew ?_ | refine blk_alloc ?_ _)); exact fa⟩, ⟨by (with_reducible repeat (first | refine blk_drewN ?_ _ | refine blk_drew ?_ | refine blk_alloc ?_ _)); refine blk_far ?_ NB396_449.out _; (with_reducible repeat (first | refine blk_drewN ?_ _ | refine blk_drew ?_ | refine blk_alloc ?_ _)); refine blk_far ?_ NB396_449.out _; (with_reducible repeat (first | refine blk_drewN ?_ _ | refine blk_drew ?_ | refine blk_alloc ?_ _)); exact fa⟩, ⟨by (with_reducible repeat (first | refine blk_drewN ?_ _ | refine blk_drew ?_ | refine blk_alloc ?_ _)); refine blk_far ?_ NB397_449.out _; (with_reducible repeat (first | refine blk_drewN ?_ _ | refine blk_drew ?_ | refine blk_alloc ?_ _)); refine blk_far ?_ NB397_449.out _; (with_reducible repeat (first | refine blk_drewN ?_ _ | refine blk_drew ?_ | refine blk_alloc ?_ _)); exact fa⟩, ⟨by (with_reducible repeat (first | refine blk_drewN ?_ _ | refine blk_drew ?_ | refine blk_alloc ?_ _)); refine blk_far ?_ NB405_449.out _; (with_reducible repeat (first | refine blk_drewN ?_ _ | refine blk_drew ?_ | refine blk_alloc ?_ _)); refine blk_far ?_ NB405_449.out _; (with_reducible repeat (first | refine blk_drewN ?_ _ | refine blk_drew ?_ | refine blk_alloc ?_ _)); exact fa⟩, ⟨by (with_reducible repeat (first | refine blk_drewN ?_ _ | refine blk_drew ?_ | refine blk_alloc ?_ _)); refine blk_far ?_ NB409_449.out _; (with_reducible repeat (first | refine blk_drewN ?_ _ | refine blk_drew ?_ | refine blk_alloc ?_ _)); refine blk_far ?_ NB409_449.out _; (with_reducible repeat (first | refine blk_drewN ?_ _ | refine blk_drew ?_ | refine blk_alloc ?_ _)); exact fa⟩, ⟨by (with_reducible repeat (first | refine blk_drewN ?_ _ | refine blk_drew ?_ | refine blk_alloc ?_ _)); refine blk_far ?_ NB413_449.out _; (with_reducible repeat (first | refine blk_drewN ?_ _ | refine blk_drew ?_ | refine blk_alloc ?_ _)); refine blk_far ?_ NB413_449.out _; (with_reducible repeat (first | refine blk_drewN ?_ _ | refine blk_drew ?_ | refine blk_alloc ?_ _)); exact fa⟩, ⟨by (with_reducible repeat (first | refine blk_drewN ?_ _ | refine blk_drew ?_ | refine blk_alloc ?_ _)); refine blk_far ?_ NB417_449.out _; (with_reducible repeat (first | refine blk_drewN ?_ _ | refine blk_drew ?_ | refine blk_alloc ?_ _)); refine blk_far ?_ NB417_449.out _; (with_reducible repeat (first | refine blk_drewN ?_ _ | refine blk_drew ?_ | refine blk_alloc ?_ _)); exact fa⟩, ⟨fa⟩⟩
                 ·
                  replace c490 := Bool.eq_false_iff.mpr c490
                  subst c490
                  have H1 : (fleuronlaw01_NumField.j6 kj422 a0_0 a0_1 a1_0 a1_1 a2_0 a2_1) = some r := by rw [if_neg (show ¬ (false = true) by decide)] at H; exact H
                  clear H
                  have H := H1
                  clear H1
                  have H' := Fa.mk H
                  clear H
                  iterate 4 (go_wp2_with (fail); (try go_quiet (fail)))
                  go_meet
                  case rel => exact ⟨_, H', ⟨by have := HJ3.out; have := HJ37.out; have := HJ71.out; have := HJ115.out; have := HJ422.out; first | omega | exact Nat.le_refl _⟩, ⟨by (with_reducible repeat (first | refine blk_drewN ?_ _ | refine blk_drew ?_ | refine blk_alloc ?_ _)); refine blk_far ?_ NB395_449.out _; (with_reducible repeat (first | refine blk_drewN ?_ _ | refine blk_drew ?_ | refine blk_alloc ?_ _)); refine blk_far ?_ NB395_449.out _; (with_reducible repeat (first | refine blk_drewN ?_ _ | refine blk_drew ?_ | refine blk_alloc ?_ _)); exact fa⟩, ⟨by (with_reducible repeat (first | refine blk_drewN ?_ _ | refine blk_drew ?_ | refine blk_alloc ?_ _)); refine blk_far ?_ NB396_449.out _; (with_reducible repeat (first | refine blk_drewN ?_ _ | refine blk_drew ?_ | refine blk_alloc ?_ _)); refine blk_far ?_ NB396_449.out _; (with_reducible repeat (first | refine blk_drewN ?_ _ | refine blk_drew ?_ | refine blk_alloc ?_ _)); exact fa⟩, ⟨by (with_reducible repeat (first | refine blk_drewN ?_ _ | refine blk_drew ?_ | refine blk_alloc ?_ _)); refine blk_far ?_ NB397_449.out _; (with_reducible repeat (first | refine blk_drewN ?_ _ | refine blk_drew ?_ | refine blk_alloc ?_ _)); refine blk_far ?_ NB397_449.out _; (with_reducible repeat (first | refine blk_drewN ?_ _ | refine blk_drew ?_ | refine blk_alloc ?_ _)); exact fa⟩, ⟨by (with_reducible repeat (first | refine blk_drewN ?_ _ | refine blk_drew ?_ | refine blk_alloc ?_ _)); refine blk_far ?_ NB405_449.out _; (with_reducible repeat (first | refine blk_drewN ?_ _ | refine blk_drew ?_ | refine blk_alloc ?_ _)); refine blk_far ?_ NB405_449.out _; (with_reducible repeat (first | refine blk_drewN ?_ _ | refine blk_drew ?_ | refine blk_alloc ?_ _)); exact fa⟩, ⟨by (with_reducible repeat (first | refine blk_drewN ?_ _ | refine blk_drew ?_ | refine blk_alloc ?_ _)); refine blk_far ?_ NB409_449.out _; (with_reducible repeat (first | refine blk_drewN ?_ _ | refine blk_drew ?_ | refine blk_alloc ?_ _)); refine blk_far ?_ NB409_449.out _; (with_reducible repeat (first | refine blk_drewN ?_ _ | refine blk_drew ?_ | refine blk_alloc ?_ _)); exact fa⟩, ⟨by (with_reducible repeat (first | refine blk_drewN ?_ _ | refine blk_drew ?_ | refine blk_alloc ?_ _)); refine blk_far ?_ NB413_449.out _; (with_reducible repeat (first | refine blk_drewN ?_ _ | refine blk_drew ?_ | refine blk_alloc ?_ _)); refine blk_far ?_ NB413_449.out _; (with_reducible repeat (first | refine blk_drewN ?_ _ | refine blk_drew ?_ | refine blk_alloc ?_ _)); exact fa⟩, ⟨by (with_reducible repeat (first | refine blk_drewN ?_ _ | refine blk_drew ?_ | refine blk_alloc ?_ _)); refine blk_far ?_ NB417_449.out _; (with_reducible repeat (first | refine blk_drewN ?_ _ | refine blk_drew ?_ | refine blk_alloc ?_ _)); refine blk_far ?_ NB417_449.out _; (with_reducible repeat (first | refine blk_drewN ?_ _ | refine blk_drew ?_ | refine blk_alloc ?_ _)); exact fa⟩, ⟨fa⟩⟩
             ·
              replace c421 := Bool.eq_false_iff.mpr c421
              subst c421
              have H1 : (fleuronlaw01_NumField.j6 kj115 a0_0 a0_1 a1_0 a1_1 a2_0 a2_1) = some r := by rw [if_neg (show ¬ (false = true) by decide)] at H; exact H
              clear H
              have H := H1
              clear H1
              have H' := Fa.mk H
              clear H
              go_wp2
              go_meet
              case rel => exact ⟨_, H', ⟨by have := HJ3.out; have := HJ37.out; have := HJ71.out; have := HJ115.out; first | omega | exact Nat.le_refl _⟩, ⟨fa⟩, ⟨fa⟩, ⟨fa⟩, ⟨fa⟩, ⟨fa⟩, ⟨fa⟩, ⟨fa⟩, ⟨fa⟩⟩
            case rest =>
             as_aux_lemma =>
             clear HC420
             try clear p2
             try clear p2
             obtain ⟨kq, HA, HJ419, BK395, BK396, BK397, BK405, BK409, BK413, BK417, HB⟩ := hcut
             cases kq with
             | zero => exact absurd HA.out (by simp [fleuronlaw01_NumField.j6])
             | succ kj419 =>
              have H := HA.out
              clear HA
              simp only [fleuronlaw01_NumField.j6] at H
              replace H := Option.bind_eq_some_iff.mp H
              obtain ⟨⟨t450, t451, t452⟩, A7470, H⟩ := H
              replace H : ((fleuronlaw01_product.f kj419 a0_0 a0_1 t450 t451).bind fun bt454 => ((fleuronlaw01_product.f kj419 a0_0 a0_1 a1_0 a1_1).bind fun bt458 => ((fleuronlaw01_product.f kj419 a0_0 a0_1 a2_0 a2_1).bind fun bt462 => ((fleuronlaw01_sum.f kj419 bt458.1 bt458.2.1 bt462.1 bt462.2.1).bind fun bt466 => (if t452 = true then (if bt454.2.2 = true then (if bt458.2.2 = true then (if bt462.2.2 = true then (if bt466.2.2 = true then (if (bt454.1 == bt466.1 && (bt454.2.1 == bt466.2.1)) = true then ((fleuronlaw01_awake.f kj419).bind fun t470 => (some t470)) else (none)) else ((fleuronlaw01_awake.f kj419).bind fun t471 => (some t471))) else ((fleuronlaw01_awake.f kj419).bind fun t472 => (some t472))) else ((fleuronlaw01_awake.f kj419).bind fun t473 => (some t473))) else ((fleuronlaw01_awake.f kj419).bind fun t474 => (some t474))) else ((fleuronlaw01_awake.f kj419).bind fun t475 => (some t475))))))) = some r := H
              have A747 := Fa.mk A7470
              clear A7470
              replace H := Option.bind_eq_some_iff.mp H
              obtain ⟨⟨t454, t455, t456⟩, A7480, H⟩ := H
              replace H : ((fleuronlaw01_product.f kj419 a0_0 a0_1 a1_0 a1_1).bind fun bt458 => ((fleuronlaw01_product.f kj419 a0_0 a0_1 a2_0 a2_1).bind fun bt462 => ((fleuronlaw01_sum.f kj419 bt458.1 bt458.2.1 bt462.1 bt462.2.1).bind fun bt466 => (if t452 = true then (if t456 = true then (if bt458.2.2 = true then (if bt462.2.2 = true then (if bt466.2.2 = true then (if (t454 == bt466.1 && (t455 == bt466.2.1)) = true then ((fleuronlaw01_awake.f kj419).bind fun t470 => (some t470)) else (none)) else ((fleuronlaw01_awake.f kj419).bind fun t471 => (some t471))) else ((fleuronlaw01_awake.f kj419).bind fun t472 => (some t472))) else ((fleuronlaw01_awake.f kj419).bind fun t473 => (some t473))) else ((fleuronlaw01_awake.f kj419).bind fun t474 => (some t474))) else ((fleuronlaw01_awake.f kj419).bind fun t475 => (some t475)))))) = some r := H
              have A748 := Fa.mk A7480
              clear A7480
              replace H := Option.bind_eq_some_iff.mp H
              obtain ⟨⟨t458, t459, t460⟩, A7490, H⟩ := H
              replace H : ((fleuronlaw01_product.f kj419 a0_0 a0_1 a2_0 a2_1).bind fun bt462 => ((fleuronlaw01_sum.f kj419 t458 t459 bt462.1 bt462.2.1).bind fun bt466 => (if t452 = true then (if t456 = true then (if t460 = true then (if bt462.2.2 = true then (if bt466.2.2 = true then (if (t454 == bt466.1 && (t455 == bt466.2.1)) = true then ((fleuronlaw01_awake.f kj419).bind fun t470 => (some t470)) else (none)) else ((fleuronlaw01_awake.f kj419).bind fun t471 => (some t471))) else ((fleuronlaw01_awake.f kj419).bind fun t472 => (some t472))) else ((fleuronlaw01_awake.f kj419).bind fun t473 => (some t473))) else ((fleuronlaw01_awake.f kj419).bind fun t474 => (some t474))) else ((fleuronlaw01_awake.f kj419).bind fun t475 => (some t475))))) = some r := H
              have A749 := Fa.mk A7490
              clear A7490
              replace H := Option.bind_eq_some_iff.mp H
              obtain ⟨⟨t462, t463, t464⟩, A7500, H⟩ := H
              replace H : ((fleuronlaw01_sum.f kj419 t458 t459 t462 t463).bind fun bt466 => (if t452 = true then (if t456 = true then (if t460 = true then (if t464 = true then (if bt466.2.2 = true then (if (t454 == bt466.1 && (t455 == bt466.2.1)) = true then ((fleuronlaw01_awake.f kj419).bind fun t470 => (some t470)) else (none)) else ((fleuronlaw01_awake.f kj419).bind fun t471 => (some t471))) else ((fleuronlaw01_awake.f kj419).bind fun t472 => (some t472))) else ((fleuronlaw01_awake.f kj419).bind fun t473 => (some t473))) else ((fleuronlaw01_awake.f kj419).bind fun t474 => (some t474))) else ((fleuronlaw01_awake.f kj419).bind fun t475 => (some t475)))) = some r := H
              have A750 := Fa.mk A7500
              clear A7500
              replace H := Option.bind_eq_some_iff.mp H
              obtain ⟨⟨t466, t467, t468⟩, A7510, H⟩ := H
              replace H : (if t452 = true then (if t456 = true then (if t460 = true then (if t464 = true then (if t468 = true then (if (t454 == t466 && (t455 == t467)) = true then ((fleuronlaw01_awake.f kj419).bind fun t470 => (some t470)) else (none)) else ((fleuronlaw01_awake.f kj419).bind fun t471 => (some t471))) else ((fleuronlaw01_awake.f kj419).bind fun t472 => (some t472))) else ((fleuronlaw01_awake.f kj419).bind fun t473 => (some t473))) else ((fleuronlaw01_awake.f kj419).bind fun t474 => (some t474))) else ((fleuronlaw01_awake.f kj419).bind fun t475 => (some t475))) = some r := H
              have A751 := Fa.mk A7510
              clear A7510
              have hnb759 := NB396_395.out
              have hnc759 := NB395_396.out
              have hnb760 := NB396_397.out
              have hnc760 := NB397_396.out
              have hnb761 := NB396_405.out
              have hnc761 := NB405_396.out
              have hnb762 := NB396_409.out
              have hnc762 := NB409_396.out
              have hnb763 := NB396_413.out
              have hnc763 := NB413_396.out
              have hnb764 := NB396_417.out
              have hnc764 := NB417_396.out
              have hcz765_0 : wc.cell? ⟨gb396, 0, none⟩ = some (.int .i64 a1_0) := (blk_cell BK396.out 0).trans rfl
              have hcz765_1 : wc.cell? ⟨gb396, 1, none⟩ = some (.int .i64 a1_1) := (blk_cell BK396.out 1).trans rfl
              have hfz765_0 := blk_frozen BK396.out 0
              have hfz765_1 := blk_frozen BK396.out 1
              have hnb766 := NB397_395.out
              have hnc766 := NB395_397.out
              have hnb767 := NB397_405.out
              have hnc767 := NB405_397.out
              have hnb768 := NB397_409.out
              have hnc768 := NB409_397.out
              have hnb769 := NB397_413.out
              have hnc769 := NB413_397.out
              have hnb770 := NB397_417.out
              have hnc770 := NB417_397.out
              have hcz771_0 : wc.cell? ⟨gb397, 0, none⟩ = some (.int .i64 a2_0) := (blk_cell BK397.out 0).trans rfl
              have hcz771_1 : wc.cell? ⟨gb397, 1, none⟩ = some (.int .i64 a2_1) := (blk_cell BK397.out 1).trans rfl
              have hfz771_0 := blk_frozen BK397.out 0
              have hfz771_1 := blk_frozen BK397.out 1
              go_upto_region 34 with (first | ((with_reducible refine gate_callee (f := 30) rfl ?_); refine goesA (some 191) rfl rfl Tryd.func30 (by kernel_rfl) rfl #[.agg #[.int .i64 a1_0, .int .i64 a1_1], .agg #[.int .i64 a2_0, .int .i64 a2_1]] rfl ?_; (with_reducible refine (fleuronlaw01_sum.calls kj419 a1_0 a1_1 a2_0 a2_1 t450 t451 _ _ A747.out).mono ?_); rintro e w772 ⟨rfl, hb⟩; refine ⟨_, rfl, ?_⟩; have hS := Stp.mk hb; clear hb) | ((with_reducible refine gate_dst (N := 31) rfl ?_); refine boxF (N := 31) (cs := #[.int .i64 0, .int .i64 0]) (t := 23) ?_; intro gb453 hg w773 hbox hb; have hS := Stp.mk hb; have BK395 := (⟨fa⟩ : Fa (w773.heap[gb395]? = some (.cells #[.int .i64 a0_0, .int .i64 a0_1] 23 (0, 0)))); have BK453 := Fa.mk (hbox); have GW453 := Fa.mk (gle hg : w.heap.size ≤ gb453); have GE453 := GW453; have NB395_453 := Fa.mk (gne (o := .cells #[.int .i64 a0_0, .int .i64 a0_1] 23 (0, 0)) hg : gb395 ≠ gb453); have NB453_395 := Fa.mk NB395_453.out.symm; have NB396_453 := Fa.mk (gne (o := .cells #[.int .i64 a1_0, .int .i64 a1_1] 23 (0, 0)) hg : gb396 ≠ gb453); have NB453_396 := Fa.mk NB396_453.out.symm; have NB397_453 := Fa.mk (gne (o := .cells #[.int .i64 a2_0, .int .i64 a2_1] 23 (0, 0)) hg : gb397 ≠ gb453); have NB453_397 := Fa.mk NB397_453.out.symm; have NB405_453 := Fa.mk (gne (o := .cells #[.int .i64 t402, .int .i64 t403] 23 (0, 0)) hg : gb405 ≠ gb453); have NB453_405 := Fa.mk NB405_453.out.symm; have NB409_453 := Fa.mk (gne (o := .cells #[.int .i64 t406, .int .i64 t407] 23 (0, 0)) hg : gb409 ≠ gb453); have NB453_409 := Fa.mk NB409_453.out.symm; have NB413_453 := Fa.mk (gne (o := .cells #[.int .i64 t410, .int .i64 t411] 23 (0, 0)) hg : gb413 ≠ gb453); have NB453_413 := Fa.mk NB413_453.out.symm; have NB417_453 := Fa.mk (gne (o := .cells #[.int .i64 t414, .int .i64 t415] 23 (0, 0)) hg : gb417 ≠ gb453); have NB453_417 := Fa.mk NB417_453.out.symm; clear hb hbox hg; have hnb774 := NB453_395.out; have hnc774 := NB395_453.out; have hnb775 := NB453_396.out; have hnc775 := NB396_453.out; have hnb776 := NB453_397.out; have hnc776 := NB397_453.out; have hnb777 := NB453_405.out; have hnc777 := NB405_453.out; have hnb778 := NB453_409.out; have hnc778 := NB409_453.out; have hnb779 := NB453_413.out; have hnc779 := NB413_453.out; have hnb780 := NB453_417.out; have hnc780 := NB417_453.out; have hcz781_0 : w773.cell? ⟨gb453, 0, none⟩ = some (.int .i64 0) := (blk_cell BK453.out 0).trans rfl; have hcz781_1 : w773.cell? ⟨gb453, 1, none⟩ = some (.int .i64 0) := (blk_cell BK453.out 1).trans rfl; have hfz781_0 := blk_frozen BK453.out 0; have hfz781_1 := blk_frozen BK453.out 1; have hnb782 := NB395_405.out; have hnc782 := NB405_395.out; have hnb783 := NB395_409.out; have hnc783 := NB409_395.out; have hnb784 := NB395_413.out; have hnc784 := NB413_395.out; have hnb785 := NB395_417.out; have hnc785 := NB417_395.out; have hcz786_0 : w773.cell? ⟨gb395, 0, none⟩ = some (.int .i64 a0_0) := (blk_cell BK395.out 0).trans rfl; have hcz786_1 : w773.cell? ⟨gb395, 1, none⟩ = some (.int .i64 a0_1) := (blk_cell BK395.out 1).trans rfl; have hfz786_0 := blk_frozen BK395.out 0; have hfz786_1 := blk_frozen BK395.out 1) | ((with_reducible refine gate_callee (f := 31) rfl ?_); refine goesA (some 197) rfl rfl Tryd.func31 (by kernel_rfl) rfl #[.agg #[.int .i64 a0_0, .int .i64 a0_1], .agg #[.int .i64 t450, .int .i64 t451]] rfl ?_; (with_reducible refine (fleuronlaw01_product.calls kj419 a0_0 a0_1 t450 t451 t454 t455 _ _ A748.out).mono ?_); rintro e w787 ⟨rfl, hb⟩; refine ⟨_, rfl, ?_⟩; have hS := Stp.mk hb; have BK453 := Fa.mk (blk_below (g := gb453) (o := .cells #[.int .i64 t450, .int .i64 t451] 23 (0, 0)) (by (with_reducible repeat (first | refine blk_drewN ?_ _ | refine blk_drew ?_ | refine blk_alloc ?_ _)); refine blk_put (cs := #[.int .i64 t450, .int .i64 0]) ?_ 1 _ rfl; (with_reducible repeat (first | refine blk_drewN ?_ _ | refine blk_drew ?_ | refine blk_alloc ?_ _)); refine blk_put (cs := #[.int .i64 0, .int .i64 0]) ?_ 0 _ rfl; (with_reducible repeat (first | refine blk_drewN ?_ _ | refine blk_drew ?_ | refine blk_alloc ?_ _)); exact fa) hb); clear hb) | ((with_reducible refine gate_dst (N := 33) rfl ?_); refine boxF (N := 33) (cs := #[.int .i64 0, .int .i64 0]) (t := 23) ?_; intro gb457 hg w788 hbox hb; have hS := Stp.mk hb; have BK395 := (⟨fa⟩ : Fa (w788.heap[gb395]? = some (.cells #[.int .i64 a0_0, .int .i64 a0_1] 23 (0, 0)))); have BK396 := (⟨fa⟩ : Fa (w788.heap[gb396]? = some (.cells #[.int .i64 a1_0, .int .i64 a1_1] 23 (0, 0)))); have BK457 := Fa.mk (hbox); have GW457 := Fa.mk (gle hg : w.heap.size ≤ gb457); have GE457 := GW457; have NB395_457 := Fa.mk (gne (o := .cells #[.int .i64 a0_0, .int .i64 a0_1] 23 (0, 0)) hg : gb395 ≠ gb457); have NB457_395 := Fa.mk NB395_457.out.symm; have NB396_457 := Fa.mk (gne (o := .cells #[.int .i64 a1_0, .int .i64 a1_1] 23 (0, 0)) hg : gb396 ≠ gb457); have NB457_396 := Fa.mk NB396_457.out.symm; have NB397_457 := Fa.mk (gne (o := .cells #[.int .i64 a2_0, .int .i64 a2_1] 23 (0, 0)) hg : gb397 ≠ gb457); have NB457_397 := Fa.mk NB397_457.out.symm; have NB405_457 := Fa.mk (gne (o := .cells #[.int .i64 t402, .int .i64 t403] 23 (0, 0)) hg : gb405 ≠ gb457); have NB457_405 := Fa.mk NB405_457.out.symm; have NB409_457 := Fa.mk (gne (o := .cells #[.int .i64 t406, .int .i64 t407] 23 (0, 0)) hg : gb409 ≠ gb457); have NB457_409 := Fa.mk NB409_457.out.symm; have NB413_457 := Fa.mk (gne (o := .cells #[.int .i64 t410, .int .i64 t411] 23 (0, 0)) hg : gb413 ≠ gb457); have NB457_413 := Fa.mk NB413_457.out.symm; have NB417_457 := Fa.mk (gne (o := .cells #[.int .i64 t414, .int .i64 t415] 23 (0, 0)) hg : gb417 ≠ gb457); have NB457_417 := Fa.mk NB417_457.out.symm; have NB453_457 := Fa.mk (gne (o := .cells #[.int .i64 t450, .int .i64 t451] 23 (0, 0)) hg : gb453 ≠ gb457); have NB457_453 := Fa.mk NB453_457.out.symm; clear hb hbox hg; have hnb789 := NB457_395.out; have hnc789 := NB395_457.out; have hnb790 := NB457_396.out; have hnc790 := NB396_457.out; have hnb791 := NB457_397.out; have hnc791 := NB397_457.out; have hnb792 := NB457_405.out; have hnc792 := NB405_457.out; have hnb793 := NB457_409.out; have hnc793 := NB409_457.out; have hnb794 := NB457_413.out; have hnc794 := NB413_457.out; have hnb795 := NB457_417.out; have hnc795 := NB417_457.out; have hnb796 := NB457_453.out; have hnc796 := NB453_457.out; have hcz797_0 : w788.cell? ⟨gb457, 0, none⟩ = some (.int .i64 0) := (blk_cell BK457.out 0).trans rfl; have hcz797_1 : w788.cell? ⟨gb457, 1, none⟩ = some (.int .i64 0) := (blk_cell BK457.out 1).trans rfl; have hfz797_0 := blk_frozen BK457.out 0; have hfz797_1 := blk_frozen BK457.out 1; have hcz798_0 : w788.cell? ⟨gb395, 0, none⟩ = some (.int .i64 a0_0) := (blk_cell BK395.out 0).trans rfl; have hcz798_1 : w788.cell? ⟨gb395, 1, none⟩ = some (.int .i64 a0_1) := (blk_cell BK395.out 1).trans rfl; have hfz798_0 := blk_frozen BK395.out 0; have hfz798_1 := blk_frozen BK395.out 1; have hcz799_0 : w788.cell? ⟨gb396, 0, none⟩ = some (.int .i64 a1_0) := (blk_cell BK396.out 0).trans rfl; have hcz799_1 : w788.cell? ⟨gb396, 1, none⟩ = some (.int .i64 a1_1) := (blk_cell BK396.out 1).trans rfl; have hfz799_0 := blk_frozen BK396.out 0; have hfz799_1 := blk_frozen BK396.out 1) | ((with_reducible refine gate_callee (f := 31) rfl ?_); refine goesA (some 203) rfl rfl Tryd.func31 (by kernel_rfl) rfl #[.agg #[.int .i64 a0_0, .int .i64 a0_1], .agg #[.int .i64 a1_0, .int .i64 a1_1]] rfl ?_; (with_reducible refine (fleuronlaw01_product.calls kj419 a0_0 a0_1 a1_0 a1_1 t458 t459 _ _ A749.out).mono ?_); rintro e w800 ⟨rfl, hb⟩; refine ⟨_, rfl, ?_⟩; have hS := Stp.mk hb; have BK457 := Fa.mk (blk_below (g := gb457) (o := .cells #[.int .i64 t454, .int .i64 t455] 23 (0, 0)) (by (with_reducible repeat (first | refine blk_drewN ?_ _ | refine blk_drew ?_ | refine blk_alloc ?_ _)); refine blk_put (cs := #[.int .i64 t454, .int .i64 0]) ?_ 1 _ rfl; (with_reducible repeat (first | refine blk_drewN ?_ _ | refine blk_drew ?_ | refine blk_alloc ?_ _)); refine blk_put (cs := #[.int .i64 0, .int .i64 0]) ?_ 0 _ rfl; (with_reducible repeat (first | refine blk_drewN ?_ _ | refine blk_drew ?_ | refine blk_alloc ?_ _)); exact fa) hb); clear hb) | ((with_reducible refine gate_dst (N := 35) rfl ?_); refine boxF (N := 35) (cs := #[.int .i64 0, .int .i64 0]) (t := 23) ?_; intro gb461 hg w801 hbox hb; have hS := Stp.mk hb; have BK395 := (⟨fa⟩ : Fa (w801.heap[gb395]? = some (.cells #[.int .i64 a0_0, .int .i64 a0_1] 23 (0, 0)))); have BK397 := (⟨fa⟩ : Fa (w801.heap[gb397]? = some (.cells #[.int .i64 a2_0, .int .i64 a2_1] 23 (0, 0)))); have BK461 := Fa.mk (hbox); have GW461 := Fa.mk (gle hg : w.heap.size ≤ gb461); have GE461 := GW461; have NB395_461 := Fa.mk (gne (o := .cells #[.int .i64 a0_0, .int .i64 a0_1] 23 (0, 0)) hg : gb395 ≠ gb461); have NB461_395 := Fa.mk NB395_461.out.symm; have NB396_461 := Fa.mk (gne (o := .cells #[.int .i64 a1_0, .int .i64 a1_1] 23 (0, 0)) hg : gb396 ≠ gb461); have NB461_396 := Fa.mk NB396_461.out.symm; have NB397_461 := Fa.mk (gne (o := .cells #[.int .i64 a2_0, .int .i64 a2_1] 23 (0, 0)) hg : gb397 ≠ gb461); have NB461_397 := Fa.mk NB397_461.out.symm; have NB405_461 := Fa.mk (gne (o := .cells #[.int .i64 t402, .int .i64 t403] 23 (0, 0)) hg : gb405 ≠ gb461); have NB461_405 := Fa.mk NB405_461.out.symm; have NB409_461 := Fa.mk (gne (o := .cells #[.int .i64 t406, .int .i64 t407] 23 (0, 0)) hg : gb409 ≠ gb461); have NB461_409 := Fa.mk NB409_461.out.symm; have NB413_461 := Fa.mk (gne (o := .cells #[.int .i64 t410, .int .i64 t411] 23 (0, 0)) hg : gb413 ≠ gb461); have NB461_413 := Fa.mk NB413_461.out.symm; have NB417_461 := Fa.mk (gne (o := .cells #[.int .i64 t414, .int .i64 t415] 23 (0, 0)) hg : gb417 ≠ gb461); have NB461_417 := Fa.mk NB417_461.out.symm; have NB453_461 := Fa.mk (gne (o := .cells #[.int .i64 t450, .int .i64 t451] 23 (0, 0)) hg : gb453 ≠ gb461); have NB461_453 := Fa.mk NB453_461.out.symm; have NB457_461 := Fa.mk (gne (o := .cells #[.int .i64 t454, .int .i64 t455] 23 (0, 0)) hg : gb457 ≠ gb461); have NB461_457 := Fa.mk NB457_461.out.symm; clear hb hbox hg; have hnb802 := NB461_395.out; have hnc802 := NB395_461.out; have hnb803 := NB461_396.out; have hnc803 := NB396_461.out; have hnb804 := NB461_397.out; have hnc804 := NB397_461.out; have hnb805 := NB461_405.out; have hnc805 := NB405_461.out; have hnb806 := NB461_409.out; have hnc806 := NB409_461.out; have hnb807 := NB461_413.out; have hnc807 := NB413_461.out; have hnb808 := NB461_417.out; have hnc808 := NB417_461.out; have hnb809 := NB461_453.out; have hnc809 := NB453_461.out; have hnb810 := NB461_457.out; have hnc810 := NB457_461.out; have hcz811_0 : w801.cell? ⟨gb461, 0, none⟩ = some (.int .i64 0) := (blk_cell BK461.out 0).trans rfl; have hcz811_1 : w801.cell? ⟨gb461, 1, none⟩ = some (.int .i64 0) := (blk_cell BK461.out 1).trans rfl; have hfz811_0 := blk_frozen BK461.out 0; have hfz811_1 := blk_frozen BK461.out 1; have hcz812_0 : w801.cell? ⟨gb395, 0, none⟩ = some (.int .i64 a0_0) := (blk_cell BK395.out 0).trans rfl; have hcz812_1 : w801.cell? ⟨gb395, 1, none⟩ = some (.int .i64 a0_1) := (blk_cell BK395.out 1).trans rfl; have hfz812_0 := blk_frozen BK395.out 0; have hfz812_1 := blk_frozen BK395.out 1; have hcz813_0 : w801.cell? ⟨gb397, 0, none⟩ = some (.int .i64 a2_0) := (blk_cell BK397.out 0).trans rfl; have hcz813_1 : w801.cell? ⟨gb397, 1, none⟩ = some (.int .i64 a2_1) := (blk_cell BK397.out 1).trans rfl; have hfz813_0 := blk_frozen BK397.out 0; have hfz813_1 := blk_frozen BK397.out 1) | ((with_reducible refine gate_callee (f := 31) rfl ?_); refine goesA (some 209) rfl rfl Tryd.func31 (by kernel_rfl) rfl #[.agg #[.int .i64 a0_0, .int .i64 a0_1], .agg #[.int .i64 a2_0, .int .i64 a2_1]] rfl ?_; (with_reducible refine (fleuronlaw01_product.calls kj419 a0_0 a0_1 a2_0 a2_1 t462 t463 _ _ A750.out).mono ?_); rintro e w814 ⟨rfl, hb⟩; refine ⟨_, rfl, ?_⟩; have hS := Stp.mk hb; have BK461 := Fa.mk (blk_below (g := gb461) (o := .cells #[.int .i64 t458, .int .i64 t459] 23 (0, 0)) (by (with_reducible repeat (first | refine blk_drewN ?_ _ | refine blk_drew ?_ | refine blk_alloc ?_ _)); refine blk_put (cs := #[.int .i64 t458, .int .i64 0]) ?_ 1 _ rfl; (with_reducible repeat (first | refine blk_drewN ?_ _ | refine blk_drew ?_ | refine blk_alloc ?_ _)); refine blk_put (cs := #[.int .i64 0, .int .i64 0]) ?_ 0 _ rfl; (with_reducible repeat (first | refine blk_drewN ?_ _ | refine blk_drew ?_ | refine blk_alloc ?_ _)); exact fa) hb); clear hb) | ((with_reducible refine gate_dst (N := 37) rfl ?_); refine boxF (N := 37) (cs := #[.int .i64 0, .int .i64 0]) (t := 23) ?_; intro gb465 hg w815 hbox hb; have hS := Stp.mk hb; have BK461 := (⟨fa⟩ : Fa (w815.heap[gb461]? = some (.cells #[.int .i64 t458, .int .i64 t459] 23 (0, 0)))); have BK465 := Fa.mk (hbox); have GW465 := Fa.mk (gle hg : w.heap.size ≤ gb465); have GE465 := GW465; have NB395_465 := Fa.mk (gne (o := .cells #[.int .i64 a0_0, .int .i64 a0_1] 23 (0, 0)) hg : gb395 ≠ gb465); have NB465_395 := Fa.mk NB395_465.out.symm; have NB396_465 := Fa.mk (gne (o := .cells #[.int .i64 a1_0, .int .i64 a1_1] 23 (0, 0)) hg : gb396 ≠ gb465); have NB465_396 := Fa.mk NB396_465.out.symm; have NB397_465 := Fa.mk (gne (o := .cells #[.int .i64 a2_0, .int .i64 a2_1] 23 (0, 0)) hg : gb397 ≠ gb465); have NB465_397 := Fa.mk NB397_465.out.symm; have NB405_465 := Fa.mk (gne (o := .cells #[.int .i64 t402, .int .i64 t403] 23 (0, 0)) hg : gb405 ≠ gb465); have NB465_405 := Fa.mk NB405_465.out.symm; have NB409_465 := Fa.mk (gne (o := .cells #[.int .i64 t406, .int .i64 t407] 23 (0, 0)) hg : gb409 ≠ gb465); have NB465_409 := Fa.mk NB409_465.out.symm; have NB413_465 := Fa.mk (gne (o := .cells #[.int .i64 t410, .int .i64 t411] 23 (0, 0)) hg : gb413 ≠ gb465); have NB465_413 := Fa.mk NB413_465.out.symm; have NB417_465 := Fa.mk (gne (o := .cells #[.int .i64 t414, .int .i64 t415] 23 (0, 0)) hg : gb417 ≠ gb465); have NB465_417 := Fa.mk NB417_465.out.symm; have NB453_465 := Fa.mk (gne (o := .cells #[.int .i64 t450, .int .i64 t451] 23 (0, 0)) hg : gb453 ≠ gb465); have NB465_453 := Fa.mk NB453_465.out.symm; have NB457_465 := Fa.mk (gne (o := .cells #[.int .i64 t454, .int .i64 t455] 23 (0, 0)) hg : gb457 ≠ gb465); have NB465_457 := Fa.mk NB457_465.out.symm; have NB461_465 := Fa.mk (gne (o := .cells #[.int .i64 t458, .int .i64 t459] 23 (0, 0)) hg : gb461 ≠ gb465); have NB465_461 := Fa.mk NB461_465.out.symm; clear hb hbox hg; have hnb816 := NB465_395.out; have hnc816 := NB395_465.out; have hnb817 := NB465_396.out; have hnc817 := NB396_465.out; have hnb818 := NB465_397.out; have hnc818 := NB397_465.out; have hnb819 := NB465_405.out; have hnc819 := NB405_465.out; have hnb820 := NB465_409.out; have hnc820 := NB409_465.out; have hnb821 := NB465_413.out; have hnc821 := NB413_465.out; have hnb822 := NB465_417.out; have hnc822 := NB417_465.out; have hnb823 := NB465_453.out; have hnc823 := NB453_465.out; have hnb824 := NB465_457.out; have hnc824 := NB457_465.out; have hnb825 := NB465_461.out; have hnc825 := NB461_465.out; have hcz826_0 : w815.cell? ⟨gb465, 0, none⟩ = some (.int .i64 0) := (blk_cell BK465.out 0).trans rfl; have hcz826_1 : w815.cell? ⟨gb465, 1, none⟩ = some (.int .i64 0) := (blk_cell BK465.out 1).trans rfl; have hfz826_0 := blk_frozen BK465.out 0; have hfz826_1 := blk_frozen BK465.out 1; have hcz827_0 : w815.cell? ⟨gb461, 0, none⟩ = some (.int .i64 t458) := (blk_cell BK461.out 0).trans rfl; have hcz827_1 : w815.cell? ⟨gb461, 1, none⟩ = some (.int .i64 t459) := (blk_cell BK461.out 1).trans rfl; have hfz827_0 := blk_frozen BK461.out 0; have hfz827_1 := blk_frozen BK461.out 1) | ((with_reducible refine gate_callee (f := 30) rfl ?_); refine goesA (some 215) rfl rfl Tryd.func30 (by kernel_rfl) rfl #[.agg #[.int .i64 t458, .int .i64 t459], .agg #[.int .i64 t462, .int .i64 t463]] rfl ?_; (with_reducible refine (fleuronlaw01_sum.calls kj419 t458 t459 t462 t463 t466 t467 _ _ A751.out).mono ?_); rintro e w828 ⟨rfl, hb⟩; refine ⟨_, rfl, ?_⟩; have hS := Stp.mk hb; have BK465 := Fa.mk (blk_below (g := gb465) (o := .cells #[.int .i64 t462, .int .i64 t463] 23 (0, 0)) (by (with_reducible repeat (first | refine blk_drewN ?_ _ | refine blk_drew ?_ | refine blk_alloc ?_ _)); refine blk_put (cs := #[.int .i64 t462, .int .i64 0]) ?_ 1 _ rfl; (with_reducible repeat (first | refine blk_drewN ?_ _ | refine blk_drew ?_ | refine blk_alloc ?_ _)); refine blk_put (cs := #[.int .i64 0, .int .i64 0]) ?_ 0 _ rfl; (with_reducible repeat (first | refine blk_drewN ?_ _ | refine blk_drew ?_ | refine blk_alloc ?_ _)); exact fa) hb); clear hb) | ((with_reducible refine gate_dst (N := 39) rfl ?_); refine boxF (N := 39) (cs := #[.int .i64 0, .int .i64 0]) (t := 23) ?_; intro gb469 hg w829 hbox hb; have hS := Stp.mk hb; have BK457 := (⟨fa⟩ : Fa (w829.heap[gb457]? = some (.cells #[.int .i64 t454, .int .i64 t455] 23 (0, 0)))); have BK469 := Fa.mk (hbox); have GW469 := Fa.mk (gle hg : w.heap.size ≤ gb469); have GE469 := GW469; have NB395_469 := Fa.mk (gne (o := .cells #[.int .i64 a0_0, .int .i64 a0_1] 23 (0, 0)) hg : gb395 ≠ gb469); have NB469_395 := Fa.mk NB395_469.out.symm; have NB396_469 := Fa.mk (gne (o := .cells #[.int .i64 a1_0, .int .i64 a1_1] 23 (0, 0)) hg : gb396 ≠ gb469); have NB469_396 := Fa.mk NB396_469.out.symm; have NB397_469 := Fa.mk (gne (o := .cells #[.int .i64 a2_0, .int .i64 a2_1] 23 (0, 0)) hg : gb397 ≠ gb469); have NB469_397 := Fa.mk NB397_469.out.symm; have NB405_469 := Fa.mk (gne (o := .cells #[.int .i64 t402, .int .i64 t403] 23 (0, 0)) hg : gb405 ≠ gb469); have NB469_405 := Fa.mk NB405_469.out.symm; have NB409_469 := Fa.mk (gne (o := .cells #[.int .i64 t406, .int .i64 t407] 23 (0, 0)) hg : gb409 ≠ gb469); have NB469_409 := Fa.mk NB409_469.out.symm; have NB413_469 := Fa.mk (gne (o := .cells #[.int .i64 t410, .int .i64 t411] 23 (0, 0)) hg : gb413 ≠ gb469); have NB469_413 := Fa.mk NB413_469.out.symm; have NB417_469 := Fa.mk (gne (o := .cells #[.int .i64 t414, .int .i64 t415] 23 (0, 0)) hg : gb417 ≠ gb469); have NB469_417 := Fa.mk NB417_469.out.symm; have NB453_469 := Fa.mk (gne (o := .cells #[.int .i64 t450, .int .i64 t451] 23 (0, 0)) hg : gb453 ≠ gb469); have NB469_453 := Fa.mk NB453_469.out.symm; have NB457_469 := Fa.mk (gne (o := .cells #[.int .i64 t454, .int .i64 t455] 23 (0, 0)) hg : gb457 ≠ gb469); have NB469_457 := Fa.mk NB457_469.out.symm; have NB461_469 := Fa.mk (gne (o := .cells #[.int .i64 t458, .int .i64 t459] 23 (0, 0)) hg : gb461 ≠ gb469); have NB469_461 := Fa.mk NB461_469.out.symm; have NB465_469 := Fa.mk (gne (o := .cells #[.int .i64 t462, .int .i64 t463] 23 (0, 0)) hg : gb465 ≠ gb469); have NB469_465 := Fa.mk NB465_469.out.symm; clear hb hbox hg; have hnb830 := NB469_395.out; have hnc830 := NB395_469.out; have hnb831 := NB469_396.out; have hnc831 := NB396_469.out; have hnb832 := NB469_397.out; have hnc832 := NB397_469.out; have hnb833 := NB469_405.out; have hnc833 := NB405_469.out; have hnb834 := NB469_409.out; have hnc834 := NB409_469.out; have hnb835 := NB469_413.out; have hnc835 := NB413_469.out; have hnb836 := NB469_417.out; have hnc836 := NB417_469.out; have hnb837 := NB469_453.out; have hnc837 := NB453_469.out; have hnb838 := NB469_457.out; have hnc838 := NB457_469.out; have hnb839 := NB469_461.out; have hnc839 := NB461_469.out; have hnb840 := NB469_465.out; have hnc840 := NB465_469.out; have hcz841_0 : w829.cell? ⟨gb469, 0, none⟩ = some (.int .i64 0) := (blk_cell BK469.out 0).trans rfl; have hcz841_1 : w829.cell? ⟨gb469, 1, none⟩ = some (.int .i64 0) := (blk_cell BK469.out 1).trans rfl; have hfz841_0 := blk_frozen BK469.out 0; have hfz841_1 := blk_frozen BK469.out 1; have hcz842_0 : w829.cell? ⟨gb457, 0, none⟩ = some (.int .i64 t454) := (blk_cell BK457.out 0).trans rfl; have hcz842_1 : w829.cell? ⟨gb457, 1, none⟩ = some (.int .i64 t455) := (blk_cell BK457.out 1).trans rfl; have hfz842_0 := blk_frozen BK457.out 0; have hfz842_1 := blk_frozen BK457.out 1))
              by_cases c752 : t452 = true
              ·
               subst c752
               have H1 : (if t456 = true then (if t460 = true then (if t464 = true then (if t468 = true then (if (t454 == t466 && (t455 == t467)) = true then ((fleuronlaw01_awake.f kj419).bind fun t470 => (some t470)) else (none)) else ((fleuronlaw01_awake.f kj419).bind fun t471 => (some t471))) else ((fleuronlaw01_awake.f kj419).bind fun t472 => (some t472))) else ((fleuronlaw01_awake.f kj419).bind fun t473 => (some t473))) else ((fleuronlaw01_awake.f kj419).bind fun t474 => (some t474))) = some r := by rw [if_pos rfl] at H; exact H
               clear H
               have H := H1
               clear H1
               by_cases c753 : t456 = true
               ·
                subst c753
                have H1 : (if t460 = true then (if t464 = true then (if t468 = true then (if (t454 == t466 && (t455 == t467)) = true then ((fleuronlaw01_awake.f kj419).bind fun t470 => (some t470)) else (none)) else ((fleuronlaw01_awake.f kj419).bind fun t471 => (some t471))) else ((fleuronlaw01_awake.f kj419).bind fun t472 => (some t472))) else ((fleuronlaw01_awake.f kj419).bind fun t473 => (some t473))) = some r := by rw [if_pos rfl] at H; exact H
                clear H
                have H := H1
                clear H1
                by_cases c754 : t460 = true
                ·
                 subst c754
                 have H1 : (if t464 = true then (if t468 = true then (if (t454 == t466 && (t455 == t467)) = true then ((fleuronlaw01_awake.f kj419).bind fun t470 => (some t470)) else (none)) else ((fleuronlaw01_awake.f kj419).bind fun t471 => (some t471))) else ((fleuronlaw01_awake.f kj419).bind fun t472 => (some t472))) = some r := by rw [if_pos rfl] at H; exact H
                 clear H
                 have H := H1
                 clear H1
                 by_cases c755 : t464 = true
                 ·
                  subst c755
                  have H1 : (if t468 = true then (if (t454 == t466 && (t455 == t467)) = true then ((fleuronlaw01_awake.f kj419).bind fun t470 => (some t470)) else (none)) else ((fleuronlaw01_awake.f kj419).bind fun t471 => (some t471))) = some r := by rw [if_pos rfl] at H; exact H
                  clear H
                  have H := H1
                  clear H1
                  by_cases c756 : t468 = true
                  ·
                   subst c756
                   have H1 : (if (t454 == t466 && (t455 == t467)) = true then ((fleuronlaw01_awake.f kj419).bind fun t470 => (some t470)) else (none)) = some r := by rw [if_pos rfl] at H; exact H
                   clear H
                   have H := H1
                   clear H1
                   by_cases c757 : (t454 == t466 && (t455 == t467)) = true
                   ·
                    rw [if_pos c757] at H
                    have c757b0 : (t454 == t466 && (t455 == t467)) = true := c757
                    (try (have c757b1 : decide (t454 = t466 && (t455 == t467)) = true := by simpa using c757))
                    (try (have c757b2 : (t454 == t466 && (t455 == t467)) = true := by simpa using c757))
                    clear c757
                    replace H := Option.bind_eq_some_iff.mp H
                    obtain ⟨t470, A7580, H⟩ := H
                    replace H : (some t470) = some r := H
                    have A758 := Fa.mk A7580
                    clear A7580
                    obtain rfl := Option.some.inj H
                    iterate 4 (go_wp2_with (first | (go_at_call 17; (with_reducible refine (fleuronlaw01_awake.calls kj419  t470 _ A758.out (HG.out.below fa)).mono ?_); rintro e w843 ⟨rfl, hb⟩; have hS := Stp.mk hb; clear hb)); (try go_quiet (fail)))
                    go_ret
                    exact ⟨by first | rfl | (simp [errW_none, errW_some] <;> rfl) | (simp [*, errW_none, errW_some] <;> rfl), fa⟩
                   ·
                    rw [if_neg c757] at H
                    exact absurd H (by simp)
                  ·
                   replace c756 := Bool.eq_false_iff.mpr c756
                   subst c756
                   have H1 : ((fleuronlaw01_awake.f kj419).bind fun t471 => (some t471)) = some r := by rw [if_neg (show ¬ (false = true) by decide)] at H; exact H
                   clear H
                   have H := H1
                   clear H1
                   replace H := Option.bind_eq_some_iff.mp H
                   obtain ⟨t471, A8440, H⟩ := H
                   replace H : (some t471) = some r := H
                   have A844 := Fa.mk A8440
                   clear A8440
                   obtain rfl := Option.some.inj H
                   iterate 4 (go_wp2_with (first | (go_at_call 17; (with_reducible refine (fleuronlaw01_awake.calls kj419  t471 _ A844.out (HG.out.below fa)).mono ?_); rintro e w928 ⟨rfl, hb⟩; have hS := Stp.mk hb; clear hb)); (try go_quiet (fail)))
                   go_ret
                   exact ⟨by first | rfl | (simp [errW_none, errW_some] <;> rfl) | (simp [*, errW_none, errW_some] <;> rfl), fa⟩
                 ·
                  replace c755 := Bool.eq_false_iff.mpr c755
                  subst c755
                  have H1 : ((fleuronlaw01_awake.f kj419).bind fun t472 => (some t472)) = some r := by rw [if_neg (show ¬ (false = true) by decide)] at H; exact H
                  clear H
                  have H := H1
                  clear H1
                  replace H := Option.bind_eq_some_iff.mp H
                  obtain ⟨t472, A9290, H⟩ := H
                  replace H : (some t472) = some r := H
                  have A929 := Fa.mk A9290
                  clear A9290
                  obtain rfl := Option.some.inj H
                  iterate 4 (go_wp2_with (first | (go_at_call 17; (with_reducible refine (fleuronlaw01_awake.calls kj419  t472 _ A929.out (HG.out.below fa)).mono ?_); rintro e w1013 ⟨rfl, hb⟩; have hS := Stp.mk hb; clear hb)); (try go_quiet (fail)))
                  go_ret
                  exact ⟨by first | rfl | (simp [errW_none, errW_some] <;> rfl) | (simp [*, errW_none, errW_some] <;> rfl), fa⟩
                ·
                 replace c754 := Bool.eq_false_iff.mpr c754
                 subst c754
                 have H1 : ((fleuronlaw01_awake.f kj419).bind fun t473 => (some t473)) = some r := by rw [if_neg (show ¬ (false = true) by decide)] at H; exact H
                 clear H
                 have H := H1
                 clear H1
                 replace H := Option.bind_eq_some_iff.mp H
                 obtain ⟨t473, A10140, H⟩ := H
                 replace H : (some t473) = some r := H
                 have A1014 := Fa.mk A10140
                 clear A10140
                 obtain rfl := Option.some.inj H
                 iterate 4 (go_wp2_with (first | (go_at_call 17; (with_reducible refine (fleuronlaw01_awake.calls kj419  t473 _ A1014.out (HG.out.below fa)).mono ?_); rintro e w1098 ⟨rfl, hb⟩; have hS := Stp.mk hb; clear hb)); (try go_quiet (fail)))
                 go_ret
                 exact ⟨by first | rfl | (simp [errW_none, errW_some] <;> rfl) | (simp [*, errW_none, errW_some] <;> rfl), fa⟩
               ·
                replace c753 := Bool.eq_false_iff.mpr c753
                subst c753
                have H1 : ((fleuronlaw01_awake.f kj419).bind fun t474 => (some t474)) = some r := by rw [if_neg (show ¬ (false = true) by decide)] at H; exact H
                clear H
                have H := H1
                clear H1
                replace H := Option.bind_eq_some_iff.mp H
                obtain ⟨t474, A10990, H⟩ := H
                replace H : (some t474) = some r := H
                have A1099 := Fa.mk A10990
                clear A10990
                obtain rfl := Option.some.inj H
                iterate 4 (go_wp2_with (first | (go_at_call 17; (with_reducible refine (fleuronlaw01_awake.calls kj419  t474 _ A1099.out (HG.out.below fa)).mono ?_); rintro e w1183 ⟨rfl, hb⟩; have hS := Stp.mk hb; clear hb)); (try go_quiet (fail)))
                go_ret
                exact ⟨by first | rfl | (simp [errW_none, errW_some] <;> rfl) | (simp [*, errW_none, errW_some] <;> rfl), fa⟩
              ·
               replace c752 := Bool.eq_false_iff.mpr c752
               subst c752
               have H1 : ((fleuronlaw01_awake.f kj419).bind fun t475 => (some t475)) = some r := by rw [if_neg (show ¬ (false = true) by decide)] at H; exact H
               clear H
               have H := H1
               clear H1
               replace H := Option.bind_eq_some_iff.mp H
               obtain ⟨t475, A11840, H⟩ := H
               replace H : (some t475) = some r := H
               have A1184 := Fa.mk A11840
               clear A11840
               obtain rfl := Option.some.inj H
               iterate 4 (go_wp2_with (first | (go_at_call 17; (with_reducible refine (fleuronlaw01_awake.calls kj419  t475 _ A1184.out (HG.out.below fa)).mono ?_); rintro e w1268 ⟨rfl, hb⟩; have hS := Stp.mk hb; clear hb)); (try go_quiet (fail)))
               go_ret
               exact ⟨by first | rfl | (simp [errW_none, errW_some] <;> rfl) | (simp [*, errW_none, errW_some] <;> rfl), fa⟩

end Go.Proofs.YtndbdnkpnjibkaaDoor.P
