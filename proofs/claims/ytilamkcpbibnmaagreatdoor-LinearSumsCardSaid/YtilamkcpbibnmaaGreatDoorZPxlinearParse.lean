import Derived.Test.YtilamkcpbibnmaaGreatDoorZPx0
import Derived.Test.YtilamkcpbibnmaaGreatDoorZPxlinearText
namespace Go.Proofs.YtilamkcpbibnmaaGreatDoor.P
open Go.RowKit Go.Proofs.YtilamkcpbibnmaaGreatDoorW.PrintWords Go.Proofs.YtilamkcpbibnmaaGreatDoorW.PrintLast Go.Proofs.YtilamkcpbibnmaaGreatDoorW.PrintMore
attribute [local go_sem] max2_int min2_int max_two min_two max_three min_three max_four min_four
set_option linter.unusedVariables false
set_option linter.unusedSimpArgs false
attribute [local go_sem] gl_zero0 gl_zero1 gl_one0 gl_one1
mutual
def linear_Parse.l0 : Nat → ByteArray → ByteArray → Int → Int → Int → List (S47) → Option (Int × Int × (List (S47)) × Int)
  | 0, _, _, _, _, _, _ => none
  | k + 1, x0, x5, x6, x244000, x244001, x244002 => if x5.toList = ([] : List UInt8) then ((linear_Text.f k x244000 x244001 x244002).bind fun bt244 => (if bt244.2 = 0 then (if bt244.1.toList = x0.toList then (some (x244000, x244001, x244002, 0)) else (some (0, 0, ([] : List (S47)), 30))) else (some (0, 0, ([] : List (S47)), 30)))) else (if 1 ≤ (x5.size : Int) then ((strings_IndexAny.f (x5.extract 1 x5.size) (⟨#[43, 45]⟩ : ByteArray)).bind fun t246 => (if (wrap64 (t246 + 1)) = 0 then (linear_Parse.j1 k x0 x5 x6 (x5.size : Int) x244000 x244001 x244002) else (linear_Parse.j1 k x0 x5 x6 (wrap64 (t246 + 1)) x244000 x244001 x244002))) else (none))
def linear_Parse.j1 : Nat → ByteArray → ByteArray → Int → Int → Int → Int → List (S47) → Option (Int × Int × (List (S47)) × Int)
  | 0, _, _, _, _, _, _, _ => none
  | k + 1, x0, x5, x6, x7, x244000, x244001, x244002 => if 0 ≤ x7 then (if x7 ≤ (x5.size : Int) then ((strings_HasPrefix.f (x5.extract 0 (x7 : Int).toNat) (⟨#[45]⟩ : ByteArray)).bind fun t247 => (if t247 = true then (linear_Parse.j2 k x0 (x5.extract (x7 : Int).toNat x5.size) x6 (x5.extract 0 (x7 : Int).toNat) false x244000 x244001 x244002) else (linear_Parse.j2 k x0 (x5.extract (x7 : Int).toNat x5.size) x6 (x5.extract 0 (x7 : Int).toNat) (decide (x6 > 0)) x244000 x244001 x244002))) else (none)) else (none)
def linear_Parse.j2 : Nat → ByteArray → ByteArray → Int → ByteArray → Bool → Int → Int → List (S47) → Option (Int × Int × (List (S47)) × Int)
  | 0, _, _, _, _, _, _, _, _ => none
  | k + 1, x0, x5, x6, x8, x45, x244000, x244001, x244002 => if x45 = true then (if 1 ≤ (x8.size : Int) then (linear_Parse.j3 k x0 x5 x6 (x8.extract 1 x8.size) x244000 x244001 x244002) else (none)) else (linear_Parse.j3 k x0 x5 x6 x8 x244000 x244001 x244002)
def linear_Parse.j3 : Nat → ByteArray → ByteArray → Int → ByteArray → Int → Int → List (S47) → Option (Int × Int × (List (S47)) × Int)
  | 0, _, _, _, _, _, _, _ => none
  | k + 1, x0, x5, x6, x8, x244000, x244001, x244002 => (strings_HasPrefix.f x8 (⟨#[45]⟩ : ByteArray)).bind fun t248 => ((strings_TrimPrefix.f x8 (⟨#[45]⟩ : ByteArray)).bind fun t249 => ((strings_Cut.f t249 (⟨#[42]⟩ : ByteArray)).bind fun bt250 => (if bt250.2.2 = true then (linear_Parse.j4 k x0 x5 x6 t248 t249 bt250.1 bt250.2.1 x244000 x244001 x244002) else (linear_Parse.j4 k x0 x5 x6 t248 t249 (⟨#[49]⟩ : ByteArray) t249 x244000 x244001 x244002))))
def linear_Parse.j4 : Nat → ByteArray → ByteArray → Int → Bool → ByteArray → ByteArray → ByteArray → Int → Int → List (S47) → Option (Int × Int × (List (S47)) × Int)
  | 0, _, _, _, _, _, _, _, _, _, _ => none
  | k + 1, x0, x5, x6, x9, x10, x11, x12, x244000, x244001, x244002 => if x12.toList = ([] : List UInt8) then (linear_Parse.j5 k x0 x5 x6 x9 x10 x11 x12 true x244000 x244001 x244002) else (if 0 < (x12.size : Int) then (if (bt x12 0) ≥ 48 then (linear_Parse.j5 k x0 x5 x6 x9 x10 x11 x12 (decide ((bt x12 0) ≤ 57)) x244000 x244001 x244002) else (linear_Parse.j5 k x0 x5 x6 x9 x10 x11 x12 false x244000 x244001 x244002)) else (none))
def linear_Parse.j5 : Nat → ByteArray → ByteArray → Int → Bool → ByteArray → ByteArray → ByteArray → Bool → Int → Int → List (S47) → Option (Int × Int × (List (S47)) × Int)
  | 0, _, _, _, _, _, _, _, _, _, _, _ => none
  | k + 1, x0, x5, x6, x9, x10, x11, x12, x72, x244000, x244001, x244002 => if x72 = true then (linear_Parse.j6 k x0 x5 x6 x9 x10 (⟨#[]⟩ : ByteArray) x244000 x244001 x244002) else (linear_Parse.j6 k x0 x5 x6 x9 x11 x12 x244000 x244001 x244002)
def linear_Parse.j6 : Nat → ByteArray → ByteArray → Int → Bool → ByteArray → ByteArray → Int → Int → List (S47) → Option (Int × Int × (List (S47)) × Int)
  | 0, _, _, _, _, _, _, _, _, _ => none
  | k + 1, x0, x5, x6, x9, x11, x12, x244000, x244001, x244002 => (num_Parse.f k x11).bind fun bt253 => (if bt253.2.2 = 0 then (if x9 = true then (linear_Parse.j7 k x0 x5 x6 x12 x244000 x244001 x244002 (wrap64 (-bt253.1)) bt253.2.1) else (linear_Parse.j7 k x0 x5 x6 x12 x244000 x244001 x244002 bt253.1 bt253.2.1)) else (some (0, 0, ([] : List (S47)), 30)))
def linear_Parse.j7 : Nat → ByteArray → ByteArray → Int → ByteArray → Int → Int → List (S47) → Int → Int → Option (Int × Int × (List (S47)) × Int)
  | 0, _, _, _, _, _, _, _, _, _ => none
  | k + 1, x0, x5, x6, x12, x244000, x244001, x244002, x257000, x257001 => if x12.toList = ([] : List UInt8) then (linear_Parse.l0 k x0 x5 (wrap64 (x6 + 1)) x257000 x257001 x244002) else ((strings_ContainsAny.f x12 (⟨#[43, 45, 42, 47]⟩ : ByteArray)).bind fun t257 => (if t257 = true then (some (0, 0, ([] : List (S47)), 30)) else (if x244002.length < 4398046511104 then (linear_Parse.l0 k x0 x5 (wrap64 (x6 + 1)) x244000 x244001 (x244002 ++ [(⟨x12, (⟨x257000, x257001⟩ : S23)⟩ : S47)])) else (none))))
end
def linear_Parse.f (k : Nat) (a0 : ByteArray) : Option (Int × Int × (List (S47)) × Int) := linear_Parse.l0 k a0 a0 0 0 1 ([] : List (S47))
theorem linear_Parse.mono_l : ∀ k, (∀ y0 y1 y2 y3 y4 y5, LeO (linear_Parse.l0 k y0 y1 y2 y3 y4 y5) (linear_Parse.l0 (k + 1) y0 y1 y2 y3 y4 y5)) ∧ (∀ y0 y1 y2 y3 y4 y5 y6, LeO (linear_Parse.j1 k y0 y1 y2 y3 y4 y5 y6) (linear_Parse.j1 (k + 1) y0 y1 y2 y3 y4 y5 y6)) ∧ (∀ y0 y1 y2 y3 y4 y5 y6 y7, LeO (linear_Parse.j2 k y0 y1 y2 y3 y4 y5 y6 y7) (linear_Parse.j2 (k + 1) y0 y1 y2 y3 y4 y5 y6 y7)) ∧ (∀ y0 y1 y2 y3 y4 y5 y6, LeO (linear_Parse.j3 k y0 y1 y2 y3 y4 y5 y6) (linear_Parse.j3 (k + 1) y0 y1 y2 y3 y4 y5 y6)) ∧ (∀ y0 y1 y2 y3 y4 y5 y6 y7 y8 y9, LeO (linear_Parse.j4 k y0 y1 y2 y3 y4 y5 y6 y7 y8 y9) (linear_Parse.j4 (k + 1) y0 y1 y2 y3 y4 y5 y6 y7 y8 y9)) ∧ (∀ y0 y1 y2 y3 y4 y5 y6 y7 y8 y9 y10, LeO (linear_Parse.j5 k y0 y1 y2 y3 y4 y5 y6 y7 y8 y9 y10) (linear_Parse.j5 (k + 1) y0 y1 y2 y3 y4 y5 y6 y7 y8 y9 y10)) ∧ (∀ y0 y1 y2 y3 y4 y5 y6 y7 y8, LeO (linear_Parse.j6 k y0 y1 y2 y3 y4 y5 y6 y7 y8) (linear_Parse.j6 (k + 1) y0 y1 y2 y3 y4 y5 y6 y7 y8)) ∧ (∀ y0 y1 y2 y3 y4 y5 y6 y7 y8, LeO (linear_Parse.j7 k y0 y1 y2 y3 y4 y5 y6 y7 y8) (linear_Parse.j7 (k + 1) y0 y1 y2 y3 y4 y5 y6 y7 y8))
  | 0 => ⟨fun _ _ _ _ _ _ r h => by simp [linear_Parse.l0] at h, fun _ _ _ _ _ _ _ r h => by simp [linear_Parse.j1] at h, fun _ _ _ _ _ _ _ _ r h => by simp [linear_Parse.j2] at h, fun _ _ _ _ _ _ _ r h => by simp [linear_Parse.j3] at h, fun _ _ _ _ _ _ _ _ _ _ r h => by simp [linear_Parse.j4] at h, fun _ _ _ _ _ _ _ _ _ _ _ r h => by simp [linear_Parse.j5] at h, fun _ _ _ _ _ _ _ _ _ r h => by simp [linear_Parse.j6] at h, fun _ _ _ _ _ _ _ _ _ r h => by simp [linear_Parse.j7] at h⟩
  | k + 1 => by
    obtain ⟨ih0, ih1, ih2, ih3, ih4, ih5, ih6, ih7⟩ := linear_Parse.mono_l k
    refine ⟨?_, ?_, ?_, ?_, ?_, ?_, ?_, ?_⟩
    all_goals intros
    all_goals first | unfold linear_Parse.l0 | unfold linear_Parse.j1 | unfold linear_Parse.j2 | unfold linear_Parse.j3 | unfold linear_Parse.j4 | unfold linear_Parse.j5 | unfold linear_Parse.j6 | unfold linear_Parse.j7
    all_goals repeat' first | (with_reducible exact ih0 _ _ _ _ _ _) | (with_reducible exact ih1 _ _ _ _ _ _ _) | (with_reducible exact ih2 _ _ _ _ _ _ _ _) | (with_reducible exact ih3 _ _ _ _ _ _ _) | (with_reducible exact ih4 _ _ _ _ _ _ _ _ _ _) | (with_reducible exact ih5 _ _ _ _ _ _ _ _ _ _ _) | (with_reducible exact ih6 _ _ _ _ _ _ _ _ _) | (with_reducible exact ih7 _ _ _ _ _ _ _ _ _) | (with_reducible exact linear_Text.mono _ _ _ _) | (with_reducible exact num_Parse.mono _ _) | (with_reducible exact LeO.refl _) | (with_reducible exact LeO.none _) | (with_reducible refine LeO.ite ?_ ?_) | (with_reducible refine LeO.bind ?_ (fun _ => ?_)) | exact ih0 _ _ _ _ _ _ | exact ih1 _ _ _ _ _ _ _ | exact ih2 _ _ _ _ _ _ _ _ | exact ih3 _ _ _ _ _ _ _ | exact ih4 _ _ _ _ _ _ _ _ _ _ | exact ih5 _ _ _ _ _ _ _ _ _ _ _ | exact ih6 _ _ _ _ _ _ _ _ _ | exact ih7 _ _ _ _ _ _ _ _ _ | exact linear_Text.mono _ _ _ _ | exact num_Parse.mono _ _ | exact LeO.none _ | refine LeO.ite ?_ ?_ | refine LeO.bind ?_ (fun _ => ?_)
theorem linear_Parse.mono : ∀ a0 k, LeO (linear_Parse.f k a0) (linear_Parse.f (k + 1) a0) := by
  intro a0 k
  obtain ⟨ih0, ih1, ih2, ih3, ih4, ih5, ih6, ih7⟩ := linear_Parse.mono_l k
  unfold linear_Parse.f
  repeat' first
      | (with_reducible exact ih0 _ _ _ _ _ _)
      | (with_reducible exact ih1 _ _ _ _ _ _ _)
      | (with_reducible exact ih2 _ _ _ _ _ _ _ _)
      | (with_reducible exact ih3 _ _ _ _ _ _ _)
      | (with_reducible exact ih4 _ _ _ _ _ _ _ _ _ _)
      | (with_reducible exact ih5 _ _ _ _ _ _ _ _ _ _ _)
      | (with_reducible exact ih6 _ _ _ _ _ _ _ _ _)
      | (with_reducible exact ih7 _ _ _ _ _ _ _ _ _)
      | (with_reducible exact linear_Text.mono _ _ _ _)
      | (with_reducible exact num_Parse.mono _ _)
      | (with_reducible exact LeO.refl _)
      | (with_reducible exact LeO.none _)
      | (with_reducible refine LeO.ite ?_ ?_)
      | (with_reducible refine LeO.bind ?_ (fun _ => ?_))
      | exact ih0 _ _ _ _ _ _
      | exact ih1 _ _ _ _ _ _ _
      | exact ih2 _ _ _ _ _ _ _ _
      | exact ih3 _ _ _ _ _ _ _
      | exact ih4 _ _ _ _ _ _ _ _ _ _
      | exact ih5 _ _ _ _ _ _ _ _ _ _ _
      | exact ih6 _ _ _ _ _ _ _ _ _
      | exact ih7 _ _ _ _ _ _ _ _ _
      | exact linear_Text.mono _ _ _ _
      | exact num_Parse.mono _ _
      | exact LeO.none _
      | refine LeO.ite ?_ ?_
      | refine LeO.bind ?_ (fun _ => ?_)
set_option maxHeartbeats 8000000 in
set_option maxRecDepth 100000 in
theorem linear_Parse.calls (k : Nat) (a0 : ByteArray) (r1 : Int) (r2 : Int) (r3 : List (S47)) (r4 : Int) (w : World) (h : linear_Parse.f k a0 = some (r1, r2, r3, r4)) (hG : Glob w) :
  Calls Tryz.prog 32 #[.string a0] w fun e w' => ∃ v2_ : Value, e = .returned (.tuple #[.agg #[.int .i64 r1, .int .i64 r2, v2_], .int .i64 r4]) ∧ Kd.R k47 47 w' w.heap.size (fun _ => True) v2_ r3 ∧ Below w.heap.size w w' := by
 have HG := Fa.mk hG
 clear hG
 have hBs : Base w := Base.mk
 have hu26 := Tryz.underlying26
 have hu23 := Tryz.underlying23
 have hu47 := Tryz.underlying47
 have HB := Fa.mk (Below.refl w.heap.size w)
 have H : (linear_Parse.l0 k a0 a0 0 0 1 ([] : List (S47))) = some (r1, r2, r3, r4) := h
 clear h
 have H' := Fa.mk H
 clear H
 go_enter Tryz.func32, Tryz.ntmps32
 go_wp2_with (first | ((with_reducible refine gate_dst (N := 2) rfl ?_); refine boxF (N := 2) (cs := #[.int .i64 0, .int .i64 0, .slice none 0 0]) (t := 26) ?_; intro gb242 hg w2 hbox hb; have hS := Stp.mk hb; have BK242 := Fa.mk (hbox); have GW242 := Fa.mk (gle hg : w.heap.size ≤ gb242); have GE242 := GW242; clear hb hbox hg) | ((with_reducible refine gate_dst (N := 4) rfl ?_); refine boxF (N := 4) (cs := #[.int .i64 0, .int .i64 0, .slice none 0 0]) (t := 26) ?_; intro gb243 hg w3 hbox hb; have hS := Stp.mk hb; have BK243 := Fa.mk (hbox); have GW243 := Fa.mk (gle hg : w.heap.size ≤ gb243); have GE243 := GW243; have NB242_243 := Fa.mk (gne (o := .cells #[.int .i64 0, .int .i64 0, .slice none 0 0] 26 (0, 0)) hg : gb242 ≠ gb243); have NB243_242 := Fa.mk NB242_243.out.symm; clear hb hbox hg; have hnb4 := NB243_242.out; have hnc4 := NB242_243.out; have hcz5_0 := jcell BK243.out (i := 0) rfl; have hcz5_1 := jcell BK243.out (i := 1) rfl; have hcz5_2 := jcell BK243.out (i := 2) rfl; have hfz5_0 := blk_frozen BK243.out 0; have hfz5_1 := blk_frozen BK243.out 1; have hfz5_2 := blk_frozen BK243.out 2))
 go_loopg [5, 6] k (fun kq v5 v6 w' => ∃ (x5_1 : ByteArray) (x6_1 : Int) (x243000_1 : Int) (x243001_1 : Int) (x244000_1 : Int) (x244001_1 : Int) (x244002_1 : List (S47)) (u244002 : Value), v5 = .string x5_1 ∧ v6 = .int .i64 x6_1 ∧ Fa (linear_Parse.l0 kq a0 x5_1 x6_1 x244000_1 x244001_1 x244002_1 = some (r1, r2, r3, r4)) ∧ Fa (kq ≤ k) ∧ Fa (Kd.R k47 47 w' w.heap.size (fun _ => True) u244002 x244002_1) ∧ Fa (w'.heap[gb242]? = some (.cells #[.int .i64 x243000_1, .int .i64 x243001_1, (.slice none 0 0)] 26 (0, 0))) ∧ Fa (w'.heap[gb243]? = some (.cells #[.int .i64 x244000_1, .int .i64 x244001_1, u244002] 26 (0, 0))) ∧ Fa (Below w.heap.size w w'))
 case atStart => exact ⟨(a0), (0), (0), (0), (0), (1), (([] : List (S47))), (.slice none 0 0), (by first | rfl | (simp; done) | (simp [*]; done)), (by first | rfl | (simp; done) | (simp [*]; done)), H', ⟨Nat.le_refl _⟩, ⟨Kd.R_nil _ _ _ _ _⟩, ⟨by (with_reducible repeat (first | refine blk_drewN ?_ _ | refine blk_drew ?_ | refine blk_alloc ?_ _)); refine blk_far ?_ NB242_243.out _; (with_reducible repeat (first | refine blk_drewN ?_ _ | refine blk_drew ?_ | refine blk_alloc ?_ _)); refine blk_far ?_ NB242_243.out _; (with_reducible repeat (first | refine blk_drewN ?_ _ | refine blk_drew ?_ | refine blk_alloc ?_ _)); refine blk_far ?_ NB242_243.out _; (with_reducible repeat (first | refine blk_drewN ?_ _ | refine blk_drew ?_ | refine blk_alloc ?_ _)); exact fa⟩, ⟨by (with_reducible repeat (first | refine blk_drewN ?_ _ | refine blk_drew ?_ | refine blk_alloc ?_ _)); refine blk_put (cs := #[.int .i64 0, .int .i64 1, .slice none 0 0]) ?_ 2 _ rfl; (with_reducible repeat (first | refine blk_drewN ?_ _ | refine blk_drew ?_ | refine blk_alloc ?_ _)); refine blk_put (cs := #[.int .i64 0, .int .i64 0, .slice none 0 0]) ?_ 1 _ rfl; (with_reducible repeat (first | refine blk_drewN ?_ _ | refine blk_drew ?_ | refine blk_alloc ?_ _)); refine blk_put (cs := #[.int .i64 0, .int .i64 0, .slice none 0 0]) ?_ 0 _ rfl; (with_reducible repeat (first | refine blk_drewN ?_ _ | refine blk_drew ?_ | refine blk_alloc ?_ _)); exact fa⟩, ⟨fa⟩⟩
 case round =>
  clear H'
  (try clear p2);(try clear c3);(try clear c4);(try clear hcz5_0);(try clear hcz5_1);(try clear hcz5_2);(try clear hfz5_0);(try clear hfz5_1);(try clear hfz5_2)
  obtain ⟨x5_1, x6_1, x243000_1, x243001_1, x244000_1, x244001_1, x244002_1, u244002, rfl, rfl, HA, HK1, HO_244002, BK242, BK243, HB⟩ := hrel
  cases gk with
  | zero => exact absurd HA.out (by simp [linear_Parse.l0])
  | succ k1 =>
   have H := HA.out
   clear HA
   simp only [linear_Parse.l0] at H
   by_cases c6 : x5_1.toList = ([] : List UInt8)
   ·
    rw [if_pos c6] at H
    have c6b0 : (x5_1.toList == ([] : List UInt8)) = true := beq_iff_eq.mpr c6
    have c6b1 : (x5_1.toList != ([] : List UInt8)) = false := bne_eq_false_iff_eq.mpr c6
    clear c6
    replace H := Option.bind_eq_some_iff.mp H
    obtain ⟨⟨t244, t245⟩, A70, H⟩ := H
    (try dsimp only at H)
    have A7 := Fa.mk A70
    clear A70
    by_cases c8 : t245 = 0
    ·
     rw [if_pos c8] at H
     have c8b0 : (t245 == 0) = true := beq_iff_eq.mpr c8
     have c8b1 : (t245 != 0) = false := bne_eq_false_iff_eq.mpr c8
     clear c8
     by_cases c9 : t244.toList = a0.toList
     ·
      rw [if_pos c9] at H
      have c9b0 : (t244.toList == a0.toList) = true := beq_iff_eq.mpr c9
      have c9b1 : (t244.toList != a0.toList) = false := bne_eq_false_iff_eq.mpr c9
      clear c9
      simp only [Option.some.injEq, Prod.mk.injEq] at H
      obtain ⟨rfl, rfl, rfl, rfl⟩ := H
      have hnb10 := NB243_242.out
      have hnc10 := NB242_243.out
      have hcz11_0 := jcell BK243.out (i := 0) rfl
      have hcz11_1 := jcell BK243.out (i := 1) rfl
      have hcz11_2 := jcell BK243.out (i := 2) rfl
      have hfz11_0 := blk_frozen BK243.out 0
      have hfz11_1 := blk_frozen BK243.out 1
      have hfz11_2 := blk_frozen BK243.out 2
      obtain ⟨Ao12, co12, eo12⟩ := Kd.R_slice HO_244002.out
      subst eo12
      go_wp2_with (first | ((with_reducible refine gate_callee (f := 30) rfl ?_); refine goesA (some 104) rfl rfl Tryz.func30 (by kernel_rfl) rfl #[.agg #[.int .i64 x244000_1, .int .i64 x244001_1, .slice Ao12 x244002_1.length co12]] rfl ?_; (with_reducible refine (linear_Text.calls k1 x244000_1 x244001_1 _ _ x244002_1 t244 t245 _ ?side1 ?side2 A7.out (HG.out.below fa)).mono ?_); (case side1 => repeat (first | exact (Kd.R_reads' HO_244002.out).2.2 | (with_reducible refine Kd.C_alloc ?_ _) | (with_reducible refine Kd.C_drewN ?_ _) | (with_reducible refine Kd.C_drew ?_))); (case side2 => exact (Kd.R_reads' HO_244002.out).2.1); rintro e w13 ⟨rfl, hb⟩; refine ⟨_, rfl, ?_⟩; have hS := Stp.mk hb; have HO_244002 := Fa.mk (Kd.R_below (by (with_reducible repeat (first | apply Kd.R_alloc | apply Kd.R_drewN | apply Kd.R_drew)); exact HO_244002.out) hb); have BK242 := (⟨fa⟩ : Fa (w13.heap[gb242]? = some (.cells #[.int .i64 x243000_1, .int .i64 x243001_1, .slice none 0 0] 26 (0, 0)))); have BK243 := (⟨fa⟩ : Fa (w13.heap[gb243]? = some (.cells #[.int .i64 x244000_1, .int .i64 x244001_1, .slice Ao12 x244002_1.length co12] 26 (0, 0)))); clear hb; have hcz14_0 := jcell BK243.out (i := 0) rfl; have hcz14_1 := jcell BK243.out (i := 1) rfl; have hcz14_2 := jcell BK243.out (i := 2) rfl; have hfz14_0 := blk_frozen BK243.out 0; have hfz14_1 := blk_frozen BK243.out 1; have hfz14_2 := blk_frozen BK243.out 2; have hcz15_0 := jcell BK242.out (i := 0) rfl; have hcz15_1 := jcell BK242.out (i := 1) rfl; have hcz15_2 := jcell BK242.out (i := 2) rfl; have hfz15_0 := blk_frozen BK242.out 0; have hfz15_1 := blk_frozen BK242.out 1; have hfz15_2 := blk_frozen BK242.out 2))
      refine bodyPost_ret (results_ct rfl _ _ gb242 26 #[.int .i64 x244000_1, .int .i64 x244001_1, .slice Ao12 x244002_1.length co12] (0, 0) _ rfl (by (with_reducible repeat (first | refine blk_drewN ?_ _ | refine blk_drew ?_ | refine blk_alloc ?_ _)); refine blk_put (cs := #[.int .i64 x244000_1, .int .i64 x244001_1, .slice none 0 0]) ?_ 2 _ rfl; (with_reducible repeat (first | refine blk_drewN ?_ _ | refine blk_drew ?_ | refine blk_alloc ?_ _)); refine blk_put (cs := #[.int .i64 x244000_1, .int .i64 x243001_1, .slice none 0 0]) ?_ 1 _ rfl; (with_reducible repeat (first | refine blk_drewN ?_ _ | refine blk_drew ?_ | refine blk_alloc ?_ _)); refine blk_put (cs := #[.int .i64 x243000_1, .int .i64 x243001_1, .slice none 0 0]) ?_ 0 _ rfl; (with_reducible repeat (first | refine blk_drewN ?_ _ | refine blk_drew ?_ | refine blk_alloc ?_ _)); exact fa) Tryz.underlying26 rfl (by kernel_rfl)) rfl ?_
      exact ⟨_, rfl, by (with_reducible repeat (first | apply Kd.R_alloc | apply Kd.R_drewN | apply Kd.R_drew)); exact Kd.R_mono (Kd.R_far (p := ⟨gb242, 2, none⟩) (Kd.R_far (p := ⟨gb242, 1, none⟩) (Kd.R_far (p := ⟨gb242, 0, none⟩) (Kd.R_types HO_244002.out BK242.out (by decide)) (fun _ hk => hk.2) (.int .i64 x244000_1)) (fun _ hk => hk.2) (.int .i64 x244001_1)) (fun _ hk => hk.2) (.slice Ao12 x244002_1.length co12)) (fun _ hk => trivial), fa⟩
     ·
      rw [if_neg c9] at H
      have c9b0 : (t244.toList == a0.toList) = false := beq_eq_false_iff_ne.mpr c9
      have c9b1 : (t244.toList != a0.toList) = true := bne_iff_ne.mpr c9
      simp only [Option.some.injEq, Prod.mk.injEq] at H
      obtain ⟨rfl, rfl, rfl, rfl⟩ := H
      have hnb16 := NB243_242.out
      have hnc16 := NB242_243.out
      have hcz17_0 := jcell BK243.out (i := 0) rfl
      have hcz17_1 := jcell BK243.out (i := 1) rfl
      have hcz17_2 := jcell BK243.out (i := 2) rfl
      have hfz17_0 := blk_frozen BK243.out 0
      have hfz17_1 := blk_frozen BK243.out 1
      have hfz17_2 := blk_frozen BK243.out 2
      obtain ⟨Ao18, co18, eo18⟩ := Kd.R_slice HO_244002.out
      subst eo18
      go_wp2_with (first | ((with_reducible refine gate_callee (f := 30) rfl ?_); refine goesA (some 104) rfl rfl Tryz.func30 (by kernel_rfl) rfl #[.agg #[.int .i64 x244000_1, .int .i64 x244001_1, .slice Ao18 x244002_1.length co18]] rfl ?_; (with_reducible refine (linear_Text.calls k1 x244000_1 x244001_1 _ _ x244002_1 t244 t245 _ ?side1 ?side2 A7.out (HG.out.below fa)).mono ?_); (case side1 => repeat (first | exact (Kd.R_reads' HO_244002.out).2.2 | (with_reducible refine Kd.C_alloc ?_ _) | (with_reducible refine Kd.C_drewN ?_ _) | (with_reducible refine Kd.C_drew ?_))); (case side2 => exact (Kd.R_reads' HO_244002.out).2.1); rintro e w19 ⟨rfl, hb⟩; refine ⟨_, rfl, ?_⟩; have hS := Stp.mk hb; have HO_244002 := Fa.mk (Kd.R_below (by (with_reducible repeat (first | apply Kd.R_alloc | apply Kd.R_drewN | apply Kd.R_drew)); exact HO_244002.out) hb); have BK242 := (⟨fa⟩ : Fa (w19.heap[gb242]? = some (.cells #[.int .i64 x243000_1, .int .i64 x243001_1, .slice none 0 0] 26 (0, 0)))); clear hb; have hcz20_0 := jcell BK242.out (i := 0) rfl; have hcz20_1 := jcell BK242.out (i := 1) rfl; have hcz20_2 := jcell BK242.out (i := 2) rfl; have hfz20_0 := blk_frozen BK242.out 0; have hfz20_1 := blk_frozen BK242.out 1; have hfz20_2 := blk_frozen BK242.out 2))
      refine bodyPost_ret (results_ct rfl _ _ gb242 26 #[.int .i64 0, .int .i64 0, .slice none 0 0] (0, 0) _ rfl (by (with_reducible repeat (first | refine blk_drewN ?_ _ | refine blk_drew ?_ | refine blk_alloc ?_ _)); refine blk_put (cs := #[.int .i64 0, .int .i64 0, .slice none 0 0]) ?_ 2 _ rfl; (with_reducible repeat (first | refine blk_drewN ?_ _ | refine blk_drew ?_ | refine blk_alloc ?_ _)); refine blk_put (cs := #[.int .i64 0, .int .i64 x243001_1, .slice none 0 0]) ?_ 1 _ rfl; (with_reducible repeat (first | refine blk_drewN ?_ _ | refine blk_drew ?_ | refine blk_alloc ?_ _)); refine blk_put (cs := #[.int .i64 x243000_1, .int .i64 x243001_1, .slice none 0 0]) ?_ 0 _ rfl; (with_reducible repeat (first | refine blk_drewN ?_ _ | refine blk_drew ?_ | refine blk_alloc ?_ _)); exact fa) Tryz.underlying26 rfl (by kernel_rfl)) rfl ?_
      exact ⟨_, rfl, Kd.R_nil _ _ _ _ _, fa⟩
    ·
     rw [if_neg c8] at H
     have c8b0 : (t245 == 0) = false := beq_eq_false_iff_ne.mpr c8
     have c8b1 : (t245 != 0) = true := bne_iff_ne.mpr c8
     simp only [Option.some.injEq, Prod.mk.injEq] at H
     obtain ⟨rfl, rfl, rfl, rfl⟩ := H
     have hnb21 := NB243_242.out
     have hnc21 := NB242_243.out
     have hcz22_0 := jcell BK243.out (i := 0) rfl
     have hcz22_1 := jcell BK243.out (i := 1) rfl
     have hcz22_2 := jcell BK243.out (i := 2) rfl
     have hfz22_0 := blk_frozen BK243.out 0
     have hfz22_1 := blk_frozen BK243.out 1
     have hfz22_2 := blk_frozen BK243.out 2
     obtain ⟨Ao23, co23, eo23⟩ := Kd.R_slice HO_244002.out
     subst eo23
     go_wp2_with (first | ((with_reducible refine gate_callee (f := 30) rfl ?_); refine goesA (some 104) rfl rfl Tryz.func30 (by kernel_rfl) rfl #[.agg #[.int .i64 x244000_1, .int .i64 x244001_1, .slice Ao23 x244002_1.length co23]] rfl ?_; (with_reducible refine (linear_Text.calls k1 x244000_1 x244001_1 _ _ x244002_1 t244 t245 _ ?side1 ?side2 A7.out (HG.out.below fa)).mono ?_); (case side1 => repeat (first | exact (Kd.R_reads' HO_244002.out).2.2 | (with_reducible refine Kd.C_alloc ?_ _) | (with_reducible refine Kd.C_drewN ?_ _) | (with_reducible refine Kd.C_drew ?_))); (case side2 => exact (Kd.R_reads' HO_244002.out).2.1); rintro e w24 ⟨rfl, hb⟩; refine ⟨_, rfl, ?_⟩; have hS := Stp.mk hb; have HO_244002 := Fa.mk (Kd.R_below (by (with_reducible repeat (first | apply Kd.R_alloc | apply Kd.R_drewN | apply Kd.R_drew)); exact HO_244002.out) hb); have BK242 := (⟨fa⟩ : Fa (w24.heap[gb242]? = some (.cells #[.int .i64 x243000_1, .int .i64 x243001_1, .slice none 0 0] 26 (0, 0)))); clear hb; have hcz25_0 := jcell BK242.out (i := 0) rfl; have hcz25_1 := jcell BK242.out (i := 1) rfl; have hcz25_2 := jcell BK242.out (i := 2) rfl; have hfz25_0 := blk_frozen BK242.out 0; have hfz25_1 := blk_frozen BK242.out 1; have hfz25_2 := blk_frozen BK242.out 2))
     refine bodyPost_ret (results_ct rfl _ _ gb242 26 #[.int .i64 0, .int .i64 0, .slice none 0 0] (0, 0) _ rfl (by (with_reducible repeat (first | refine blk_drewN ?_ _ | refine blk_drew ?_ | refine blk_alloc ?_ _)); refine blk_put (cs := #[.int .i64 0, .int .i64 0, .slice none 0 0]) ?_ 2 _ rfl; (with_reducible repeat (first | refine blk_drewN ?_ _ | refine blk_drew ?_ | refine blk_alloc ?_ _)); refine blk_put (cs := #[.int .i64 0, .int .i64 x243001_1, .slice none 0 0]) ?_ 1 _ rfl; (with_reducible repeat (first | refine blk_drewN ?_ _ | refine blk_drew ?_ | refine blk_alloc ?_ _)); refine blk_put (cs := #[.int .i64 x243000_1, .int .i64 x243001_1, .slice none 0 0]) ?_ 0 _ rfl; (with_reducible repeat (first | refine blk_drewN ?_ _ | refine blk_drew ?_ | refine blk_alloc ?_ _)); exact fa) Tryz.underlying26 rfl (by kernel_rfl)) rfl ?_
     exact ⟨_, rfl, Kd.R_nil _ _ _ _ _, fa⟩
   ·
    rw [if_neg c6] at H
    have c6b0 : (x5_1.toList == ([] : List UInt8)) = false := beq_eq_false_iff_ne.mpr c6
    have c6b1 : (x5_1.toList != ([] : List UInt8)) = true := bne_iff_ne.mpr c6
    by_cases c26 : 1 ≤ (x5_1.size : Int)
    ·
     rw [if_pos c26] at H
     have c26b0 := eq_true c26
     have c26b1 : decide (1 ≤ (x5_1.size : Int)) = true := decide_eq_true c26
     clear c26
     replace H := Option.bind_eq_some_iff.mp H
     obtain ⟨t246, A270, H⟩ := H
     (try dsimp only at H)
     have A27 := Fa.mk A270
     clear A270
     have HC28 := Fa.mk H
     clear H
     go_upto_if 30 with (first | ((with_reducible refine gate_callee (f := 64) rfl ?_); refine goesA (some 27) rfl rfl Tryz.func64 (by kernel_rfl) rfl #[.string (x5_1.extract 1 x5_1.size), .string (⟨#[43, 45]⟩ : ByteArray)] rfl ?_; (with_reducible refine (strings_IndexAny.calls (x5_1.extract 1 x5_1.size) (⟨#[43, 45]⟩ : ByteArray) t246 _ A27.out).mono ?_); rintro e w29 ⟨rfl, hb⟩; refine ⟨_, rfl, ?_⟩; have n0_ := Fa.mk (Kd.R_below (by (with_reducible repeat (first | apply Kd.R_alloc | apply Kd.R_drewN | apply Kd.R_drew)); exact HO_244002.out) hb); have n1_ := Fa.mk (blk_below (g := gb242) (o := .cells #[.int .i64 x243000_1, .int .i64 x243001_1, .slice none 0 0] 26 (0, 0)) fa hb); have n2_ := Fa.mk (blk_below (g := gb243) (o := .cells #[.int .i64 x244000_1, .int .i64 x244001_1, u244002] 26 (0, 0)) fa hb); have n3_ := Fa.mk (bst w hb); clear HO_244002; clear BK242; clear BK243; clear HB; have HO_244002 := n0_; have BK242 := n1_; have BK243 := n2_; have HB := n3_; clear n0_ n1_ n2_ n3_; (try clear hb); (try clear hb2); (try clear hk); (try clear hi)))
     (try simp only [Act.put, List.setIfInBounds_toArray, List.set_cons_zero, List.set_cons_succ])
     go_cut [7] (fun v7 wc => ∃ (kq : Nat) (x7_27 : Int), v7 = .int .i64 x7_27 ∧ Fa (linear_Parse.j1 kq a0 x5_1 x6_1 x7_27 x244000_1 x244001_1 x244002_1 = some (r1, r2, r3, r4)) ∧ Fa (kq ≤ k1) ∧ Fa (Kd.R k47 47 wc w.heap.size (fun _ => True) u244002 x244002_1) ∧ Fa (wc.heap[gb242]? = some (.cells #[.int .i64 x243000_1, .int .i64 x243001_1, (.slice none 0 0)] 26 (0, 0))) ∧ Fa (wc.heap[gb243]? = some (.cells #[.int .i64 x244000_1, .int .i64 x244001_1, u244002] 26 (0, 0))) ∧ Fa (Below w.heap.size w wc))
     case first =>
      have H := HC28.out
      clear HC28
      by_cases c30 : (wrap64 (t246 + 1)) = 0
      ·
       rw [if_pos c30] at H
       have c30b0 : ((wrap64 (t246 + 1)) == 0) = true := beq_iff_eq.mpr c30
       have c30b1 : ((wrap64 (t246 + 1)) != 0) = false := bne_eq_false_iff_eq.mpr c30
       clear c30
       (first | rw [c30b0] | (simp only [i64_w, i32_w]; rw [c30b0]) | skip)
       have H' := Fa.mk H
       clear H
       go_wp2
       go_meet
       case rel => exact ⟨_, ((x5_1.size : Int)), (by first | rfl | (simp; done) | (simp [*]; done)), H', ⟨by have := HK1.out; first | omega | exact Nat.le_refl _⟩, ⟨by (with_reducible repeat (first | apply Kd.R_alloc | apply Kd.R_drewN | apply Kd.R_drew)); exact HO_244002.out⟩, ⟨fa⟩, ⟨fa⟩, ⟨fa⟩⟩
      ·
       rw [if_neg c30] at H
       have c30b0 : ((wrap64 (t246 + 1)) == 0) = false := beq_eq_false_iff_ne.mpr c30
       have c30b1 : ((wrap64 (t246 + 1)) != 0) = true := bne_iff_ne.mpr c30
       (first | rw [c30b0] | (simp only [i64_w, i32_w]; rw [c30b0]) | skip)
       have H' := Fa.mk H
       clear H
       go_wp2
       go_meet
       case rel => exact ⟨_, (wrap64 (t246 + 1)), (by first | rfl | (simp; done) | (simp [*]; done)), H', ⟨by have := HK1.out; first | omega | exact Nat.le_refl _⟩, ⟨by (with_reducible repeat (first | apply Kd.R_alloc | apply Kd.R_drewN | apply Kd.R_drew)); exact HO_244002.out⟩, ⟨fa⟩, ⟨fa⟩, ⟨fa⟩⟩
     case rest =>
      clear HC28
      (try clear c1);(try clear c2);(try clear p2);(try clear c3);(try clear c4);(try clear c6);(try clear c6b0);(try clear c6b1);(try clear p6);(try clear c8);(try clear c8b0);(try clear c8b1);(try clear c9);(try clear c9b0);(try clear c9b1);(try clear c10);(try clear c16);(try clear c21);(try clear c26);(try clear c26b0);(try clear c26b1);(try clear c30);(try clear c30b0);(try clear c30b1);(try clear hcz11_0);(try clear hcz11_1);(try clear hcz11_2);(try clear hcz14_0);(try clear hcz14_1);(try clear hcz14_2);(try clear hcz15_0);(try clear hcz15_1);(try clear hcz15_2);(try clear hcz17_0);(try clear hcz17_1);(try clear hcz17_2);(try clear hcz20_0);(try clear hcz20_1);(try clear hcz20_2);(try clear hcz22_0);(try clear hcz22_1);(try clear hcz22_2);(try clear hcz25_0);(try clear hcz25_1);(try clear hcz25_2);(try clear hcz5_0);(try clear hcz5_1);(try clear hcz5_2);(try clear hfz11_0);(try clear hfz11_1);(try clear hfz11_2);(try clear hfz14_0);(try clear hfz14_1);(try clear hfz14_2);(try clear hfz15_0);(try clear hfz15_1);(try clear hfz15_2);(try clear hfz17_0);(try clear hfz17_1);(try clear hfz17_2);(try clear hfz20_0);(try clear hfz20_1);(try clear hfz20_2);(try clear hfz22_0);(try clear hfz22_1);(try clear hfz22_2);(try clear hfz25_0);(try clear hfz25_1);(try clear hfz25_2);(try clear hfz5_0);(try clear hfz5_1);(try clear hfz5_2);(try clear p2)
      obtain ⟨kq, x7_27, rfl, HA, HJ27, HO_244002, BK242, BK243, HB⟩ := hcut
      cases kq with
      | zero => exact absurd HA.out (by simp [linear_Parse.j1])
      | succ kj27 =>
       have H := HA.out
       clear HA
       simp only [linear_Parse.j1] at H
       by_cases c31 : 0 ≤ x7_27
       ·
        rw [if_pos c31] at H
        have c31b0 := eq_true c31
        have c31b1 : decide (0 ≤ x7_27) = true := decide_eq_true c31
        clear c31
        by_cases c32 : x7_27 ≤ (x5_1.size : Int)
        ·
         rw [if_pos c32] at H
         have c32b0 := eq_true c32
         have c32b1 : decide (x7_27 ≤ (x5_1.size : Int)) = true := decide_eq_true c32
         clear c32
         have c33b0 := eq_true (of_decide_eq_true (by first | (with_reducible assumption) | assumption) : 0 ≤ x7_27)
         have c34b0 := eq_true (of_decide_eq_true (by first | (with_reducible assumption) | assumption) : x7_27 ≤ (x5_1.size : Int))
         have HC35 := Fa.mk H
         clear H
         go_upto_region 11 with (fail)
         go_cut [45] (fun v45 wc => ∃ (kq : Nat) (x45_34 : Bool), v45 = .bool x45_34 ∧ Fa (linear_Parse.j2 kq a0 (x5_1.extract (x7_27 : Int).toNat x5_1.size) x6_1 (x5_1.extract 0 (x7_27 : Int).toNat) x45_34 x244000_1 x244001_1 x244002_1 = some (r1, r2, r3, r4)) ∧ Fa (kq ≤ kj27) ∧ Fa (Kd.R k47 47 wc w.heap.size (fun _ => True) u244002 x244002_1) ∧ Fa (wc.heap[gb242]? = some (.cells #[.int .i64 x243000_1, .int .i64 x243001_1, (.slice none 0 0)] 26 (0, 0))) ∧ Fa (wc.heap[gb243]? = some (.cells #[.int .i64 x244000_1, .int .i64 x244001_1, u244002] 26 (0, 0))) ∧ Fa (Below w.heap.size w wc))
         case first =>
          have H := HC35.out
          clear HC35
          replace H := Option.bind_eq_some_iff.mp H
          obtain ⟨t247, A360, H⟩ := H
          (try dsimp only at H)
          have A36 := Fa.mk A360
          clear A360
          by_cases c37 : t247 = true
          ·
           subst c37
           rw [if_pos rfl] at H
           have H' := Fa.mk H
           clear H
           go_wp2_with (first | ((with_reducible refine gate_callee (f := 65) rfl ?_); refine goesA (some 40) rfl rfl Tryz.func65 (by kernel_rfl) rfl #[.string (x5_1.extract 0 (x7_27 : Int).toNat), .string (⟨#[45]⟩ : ByteArray)] rfl ?_; (with_reducible refine (strings_HasPrefix.calls (x5_1.extract 0 (x7_27 : Int).toNat) (⟨#[45]⟩ : ByteArray) true _ A36.out).mono ?_); rintro e w' ⟨rfl, ⟨nd, rfl⟩⟩; refine ⟨_, rfl, ?_⟩))
           go_meet
           case rel => exact ⟨_, (false), (by first | rfl | (simp; done) | (simp [*]; done)), H', ⟨by have := HK1.out; have := HJ27.out; first | omega | exact Nat.le_refl _⟩, ⟨by (with_reducible repeat (first | apply Kd.R_alloc | apply Kd.R_drewN | apply Kd.R_drew)); exact HO_244002.out⟩, ⟨fa⟩, ⟨fa⟩, ⟨fa⟩⟩
          ·
           replace c37 := Bool.eq_false_iff.mpr c37
           subst c37
           rw [if_neg (show ¬ (false = true) by decide)] at H
           have H' := Fa.mk H
           clear H
           go_wp2_with (first | ((with_reducible refine gate_callee (f := 65) rfl ?_); refine goesA (some 40) rfl rfl Tryz.func65 (by kernel_rfl) rfl #[.string (x5_1.extract 0 (x7_27 : Int).toNat), .string (⟨#[45]⟩ : ByteArray)] rfl ?_; (with_reducible refine (strings_HasPrefix.calls (x5_1.extract 0 (x7_27 : Int).toNat) (⟨#[45]⟩ : ByteArray) false _ A36.out).mono ?_); rintro e w' ⟨rfl, ⟨nd, rfl⟩⟩; refine ⟨_, rfl, ?_⟩))
           go_meet
           case rel => exact ⟨_, (decide (x6_1 > 0)), (by first | rfl | (simp; done) | (simp [*]; done)), H', ⟨by have := HK1.out; have := HJ27.out; first | omega | exact Nat.le_refl _⟩, ⟨by (with_reducible repeat (first | apply Kd.R_alloc | apply Kd.R_drewN | apply Kd.R_drew)); exact HO_244002.out⟩, ⟨fa⟩, ⟨fa⟩, ⟨fa⟩⟩
         case rest =>
          clear HC35
          (try clear c1);(try clear c2);(try clear p2);(try clear c3);(try clear c4);(try clear c6);(try clear c6b0);(try clear c6b1);(try clear p6);(try clear c8);(try clear c8b0);(try clear c8b1);(try clear c9);(try clear c9b0);(try clear c9b1);(try clear c10);(try clear c16);(try clear c21);(try clear c26);(try clear c26b0);(try clear c26b1);(try clear c30);(try clear c30b0);(try clear c30b1);(try clear c31);(try clear c31b0);(try clear c31b1);(try clear c32);(try clear c32b0);(try clear c32b1);(try clear c33);(try clear c33b0);(try clear c34);(try clear c34b0);(try clear c37);(try clear hcz11_0);(try clear hcz11_1);(try clear hcz11_2);(try clear hcz14_0);(try clear hcz14_1);(try clear hcz14_2);(try clear hcz15_0);(try clear hcz15_1);(try clear hcz15_2);(try clear hcz17_0);(try clear hcz17_1);(try clear hcz17_2);(try clear hcz20_0);(try clear hcz20_1);(try clear hcz20_2);(try clear hcz22_0);(try clear hcz22_1);(try clear hcz22_2);(try clear hcz25_0);(try clear hcz25_1);(try clear hcz25_2);(try clear hcz5_0);(try clear hcz5_1);(try clear hcz5_2);(try clear hfz11_0);(try clear hfz11_1);(try clear hfz11_2);(try clear hfz14_0);(try clear hfz14_1);(try clear hfz14_2);(try clear hfz15_0);(try clear hfz15_1);(try clear hfz15_2);(try clear hfz17_0);(try clear hfz17_1);(try clear hfz17_2);(try clear hfz20_0);(try clear hfz20_1);(try clear hfz20_2);(try clear hfz22_0);(try clear hfz22_1);(try clear hfz22_2);(try clear hfz25_0);(try clear hfz25_1);(try clear hfz25_2);(try clear hfz5_0);(try clear hfz5_1);(try clear hfz5_2);(try clear p2);(try clear p6)
          obtain ⟨kq, x45_34, rfl, HA, HJ34, HO_244002, BK242, BK243, HB⟩ := hcut
          cases kq with
          | zero => exact absurd HA.out (by simp [linear_Parse.j2])
          | succ kj34 =>
           have H := HA.out
           clear HA
           simp only [linear_Parse.j2] at H
           have HC38 := Fa.mk H
           clear H
           go_upto_if 45 with (fail)
           go_cut [8] (fun v8 wc => ∃ (kq : Nat) (x8_37 : ByteArray), v8 = .string x8_37 ∧ Fa (linear_Parse.j3 kq a0 (x5_1.extract (x7_27 : Int).toNat x5_1.size) x6_1 x8_37 x244000_1 x244001_1 x244002_1 = some (r1, r2, r3, r4)) ∧ Fa (kq ≤ kj34) ∧ Fa (Kd.R k47 47 wc w.heap.size (fun _ => True) u244002 x244002_1) ∧ Fa (wc.heap[gb242]? = some (.cells #[.int .i64 x243000_1, .int .i64 x243001_1, (.slice none 0 0)] 26 (0, 0))) ∧ Fa (wc.heap[gb243]? = some (.cells #[.int .i64 x244000_1, .int .i64 x244001_1, u244002] 26 (0, 0))) ∧ Fa (Below w.heap.size w wc))
           case first =>
            have H := HC38.out
            clear HC38
            by_cases c39 : x45_34 = true
            ·
             subst c39
             rw [if_pos rfl] at H
             by_cases c40 : 1 ≤ ((x5_1.extract 0 (x7_27 : Int).toNat).size : Int)
             ·
              rw [if_pos c40] at H
              have c40b0 := eq_true c40
              have c40x := c40
              simp only [ByteArray.size_extract, Nat.sub_zero] at c40x
              have c40y := eq_true c40x
              have c40b1 : decide (1 ≤ ((x5_1.extract 0 (x7_27 : Int).toNat).size : Int)) = true := decide_eq_true c40
              clear c40
              have H' := Fa.mk H
              clear H
              go_wp2
              go_meet
              case rel => exact ⟨_, ((x5_1.extract 0 (x7_27 : Int).toNat).extract 1 (x5_1.extract 0 (x7_27 : Int).toNat).size), (by first | rfl | (simp; done) | (simp [*]; done)), H', ⟨by have := HK1.out; have := HJ27.out; have := HJ34.out; first | omega | exact Nat.le_refl _⟩, ⟨by (with_reducible repeat (first | apply Kd.R_alloc | apply Kd.R_drewN | apply Kd.R_drew)); exact HO_244002.out⟩, ⟨fa⟩, ⟨fa⟩, ⟨fa⟩⟩
             ·
              rw [if_neg c40] at H
              exact absurd H (by simp)
            ·
             replace c39 := Bool.eq_false_iff.mpr c39
             subst c39
             rw [if_neg (show ¬ (false = true) by decide)] at H
             have H' := Fa.mk H
             clear H
             go_wp2
             go_meet
             case rel => exact ⟨_, ((x5_1.extract 0 (x7_27 : Int).toNat)), (by first | rfl | (simp; done) | (simp [*]; done)), H', ⟨by have := HK1.out; have := HJ27.out; have := HJ34.out; first | omega | exact Nat.le_refl _⟩, ⟨by (with_reducible repeat (first | apply Kd.R_alloc | apply Kd.R_drewN | apply Kd.R_drew)); exact HO_244002.out⟩, ⟨fa⟩, ⟨fa⟩, ⟨fa⟩⟩
           case rest =>
            clear HC38
            (try clear c1);(try clear c2);(try clear p2);(try clear c3);(try clear c4);(try clear c6);(try clear c6b0);(try clear c6b1);(try clear p6);(try clear c8);(try clear c8b0);(try clear c8b1);(try clear c9);(try clear c9b0);(try clear c9b1);(try clear c10);(try clear c16);(try clear c21);(try clear c26);(try clear c26b0);(try clear c26b1);(try clear c30);(try clear c30b0);(try clear c30b1);(try clear c31);(try clear c31b0);(try clear c31b1);(try clear c32);(try clear c32b0);(try clear c32b1);(try clear c33);(try clear c33b0);(try clear c34);(try clear c34b0);(try clear c37);(try clear c39);(try clear c40);(try clear c40b0);(try clear c40b1);(try clear hcz11_0);(try clear hcz11_1);(try clear hcz11_2);(try clear hcz14_0);(try clear hcz14_1);(try clear hcz14_2);(try clear hcz15_0);(try clear hcz15_1);(try clear hcz15_2);(try clear hcz17_0);(try clear hcz17_1);(try clear hcz17_2);(try clear hcz20_0);(try clear hcz20_1);(try clear hcz20_2);(try clear hcz22_0);(try clear hcz22_1);(try clear hcz22_2);(try clear hcz25_0);(try clear hcz25_1);(try clear hcz25_2);(try clear hcz5_0);(try clear hcz5_1);(try clear hcz5_2);(try clear hfz11_0);(try clear hfz11_1);(try clear hfz11_2);(try clear hfz14_0);(try clear hfz14_1);(try clear hfz14_2);(try clear hfz15_0);(try clear hfz15_1);(try clear hfz15_2);(try clear hfz17_0);(try clear hfz17_1);(try clear hfz17_2);(try clear hfz20_0);(try clear hfz20_1);(try clear hfz20_2);(try clear hfz22_0);(try clear hfz22_1);(try clear hfz22_2);(try clear hfz25_0);(try clear hfz25_1);(try clear hfz25_2);(try clear hfz5_0);(try clear hfz5_1);(try clear hfz5_2);(try clear p2);(try clear p6)
            obtain ⟨kq, x8_37, rfl, HA, HJ37, HO_244002, BK242, BK243, HB⟩ := hcut
            cases kq with
            | zero => exact absurd HA.out (by simp [linear_Parse.j3])
            | succ kj37 =>
             have H := HA.out
             clear HA
             simp only [linear_Parse.j3] at H
             replace H := Option.bind_eq_some_iff.mp H
             obtain ⟨t248, A410, H⟩ := H
             (try dsimp only at H)
             have A41 := Fa.mk A410
             clear A410
             replace H := Option.bind_eq_some_iff.mp H
             obtain ⟨t249, A420, H⟩ := H
             (try dsimp only at H)
             have A42 := Fa.mk A420
             clear A420
             replace H := Option.bind_eq_some_iff.mp H
             obtain ⟨⟨t250, t251, t252⟩, A430, H⟩ := H
             (try dsimp only at H)
             have A43 := Fa.mk A430
             clear A430
             have HC44 := Fa.mk H
             clear H
             go_upto_if 59 with (first | ((with_reducible refine gate_callee (f := 65) rfl ?_); refine goesA (some 49) rfl rfl Tryz.func65 (by kernel_rfl) rfl #[.string x8_37, .string (⟨#[45]⟩ : ByteArray)] rfl ?_; (with_reducible refine (strings_HasPrefix.calls x8_37 (⟨#[45]⟩ : ByteArray) t248 _ A41.out).mono ?_); rintro e w' ⟨rfl, ⟨nd, rfl⟩⟩; refine ⟨_, rfl, ?_⟩) | ((with_reducible refine gate_callee (f := 66) rfl ?_); refine goesA (some 51) rfl rfl Tryz.func66 (by kernel_rfl) rfl #[.string x8_37, .string (⟨#[45]⟩ : ByteArray)] rfl ?_; (with_reducible refine (strings_TrimPrefix.calls x8_37 (⟨#[45]⟩ : ByteArray) t249 _ A42.out).mono ?_); rintro e w' ⟨rfl, ⟨nd, rfl⟩⟩; refine ⟨_, rfl, ?_⟩) | ((with_reducible refine gate_callee (f := 67) rfl ?_); refine goesA (some 54) rfl rfl Tryz.func67 (by kernel_rfl) rfl #[.string t249, .string (⟨#[42]⟩ : ByteArray)] rfl ?_; (with_reducible refine (strings_Cut.calls t249 (⟨#[42]⟩ : ByteArray) t250 t251 t252 _ A43.out).mono ?_); rintro e w' ⟨rfl, ⟨nd, rfl⟩⟩; refine ⟨_, rfl, ?_⟩))
             (try simp only [Act.put, List.setIfInBounds_toArray, List.set_cons_zero, List.set_cons_succ])
             go_cut [11, 12] (fun v11 v12 wc => ∃ (kq : Nat) (x11_43 : ByteArray) (x12_43 : ByteArray), v11 = .string x11_43 ∧ v12 = .string x12_43 ∧ Fa (linear_Parse.j4 kq a0 (x5_1.extract (x7_27 : Int).toNat x5_1.size) x6_1 t248 t249 x11_43 x12_43 x244000_1 x244001_1 x244002_1 = some (r1, r2, r3, r4)) ∧ Fa (kq ≤ kj37) ∧ Fa (Kd.R k47 47 wc w.heap.size (fun _ => True) u244002 x244002_1) ∧ Fa (wc.heap[gb242]? = some (.cells #[.int .i64 x243000_1, .int .i64 x243001_1, (.slice none 0 0)] 26 (0, 0))) ∧ Fa (wc.heap[gb243]? = some (.cells #[.int .i64 x244000_1, .int .i64 x244001_1, u244002] 26 (0, 0))) ∧ Fa (Below w.heap.size w wc))
             case first =>
              have H := HC44.out
              clear HC44
              by_cases c45 : t252 = true
              ·
               subst c45
               rw [if_pos rfl] at H
               have H' := Fa.mk H
               clear H
               go_wp2
               go_meet
               case rel => exact ⟨_, (t250), (t251), (by first | rfl | (simp; done) | (simp [*]; done)), (by first | rfl | (simp; done) | (simp [*]; done)), H', ⟨by have := HK1.out; have := HJ27.out; have := HJ34.out; have := HJ37.out; first | omega | exact Nat.le_refl _⟩, ⟨by (with_reducible repeat (first | apply Kd.R_alloc | apply Kd.R_drewN | apply Kd.R_drew)); exact HO_244002.out⟩, ⟨fa⟩, ⟨fa⟩, ⟨fa⟩⟩
              ·
               replace c45 := Bool.eq_false_iff.mpr c45
               subst c45
               rw [if_neg (show ¬ (false = true) by decide)] at H
               have H' := Fa.mk H
               clear H
               go_wp2
               go_meet
               case rel => exact ⟨_, ((⟨#[49]⟩ : ByteArray)), (t249), (by first | rfl | (simp; done) | (simp [*]; done)), (by first | rfl | (simp; done) | (simp [*]; done)), H', ⟨by have := HK1.out; have := HJ27.out; have := HJ34.out; have := HJ37.out; first | omega | exact Nat.le_refl _⟩, ⟨by (with_reducible repeat (first | apply Kd.R_alloc | apply Kd.R_drewN | apply Kd.R_drew)); exact HO_244002.out⟩, ⟨fa⟩, ⟨fa⟩, ⟨fa⟩⟩
             case rest =>
              clear HC44
              (try clear c1);(try clear c2);(try clear p2);(try clear c3);(try clear c4);(try clear c6);(try clear c6b0);(try clear c6b1);(try clear p6);(try clear c8);(try clear c8b0);(try clear c8b1);(try clear c9);(try clear c9b0);(try clear c9b1);(try clear c10);(try clear c16);(try clear c21);(try clear c26);(try clear c26b0);(try clear c26b1);(try clear c30);(try clear c30b0);(try clear c30b1);(try clear c31);(try clear c31b0);(try clear c31b1);(try clear c32);(try clear c32b0);(try clear c32b1);(try clear c33);(try clear c33b0);(try clear c34);(try clear c34b0);(try clear c37);(try clear c39);(try clear c40);(try clear c40b0);(try clear c40b1);(try clear c45);(try clear hcz11_0);(try clear hcz11_1);(try clear hcz11_2);(try clear hcz14_0);(try clear hcz14_1);(try clear hcz14_2);(try clear hcz15_0);(try clear hcz15_1);(try clear hcz15_2);(try clear hcz17_0);(try clear hcz17_1);(try clear hcz17_2);(try clear hcz20_0);(try clear hcz20_1);(try clear hcz20_2);(try clear hcz22_0);(try clear hcz22_1);(try clear hcz22_2);(try clear hcz25_0);(try clear hcz25_1);(try clear hcz25_2);(try clear hcz5_0);(try clear hcz5_1);(try clear hcz5_2);(try clear hfz11_0);(try clear hfz11_1);(try clear hfz11_2);(try clear hfz14_0);(try clear hfz14_1);(try clear hfz14_2);(try clear hfz15_0);(try clear hfz15_1);(try clear hfz15_2);(try clear hfz17_0);(try clear hfz17_1);(try clear hfz17_2);(try clear hfz20_0);(try clear hfz20_1);(try clear hfz20_2);(try clear hfz22_0);(try clear hfz22_1);(try clear hfz22_2);(try clear hfz25_0);(try clear hfz25_1);(try clear hfz25_2);(try clear hfz5_0);(try clear hfz5_1);(try clear hfz5_2);(try clear p2);(try clear p6)
              obtain ⟨kq, x11_43, x12_43, rfl, rfl, HA, HJ43, HO_244002, BK242, BK243, HB⟩ := hcut
              cases kq with
              | zero => exact absurd HA.out (by simp [linear_Parse.j4])
              | succ kj43 =>
               have H := HA.out
               clear HA
               simp only [linear_Parse.j4] at H
               have HC46 := Fa.mk H
               clear H
               go_upto_region 18 with (fail)
               go_cut [72] (fun v72 wc => ∃ (kq : Nat) (x72_45 : Bool), v72 = .bool x72_45 ∧ Fa (linear_Parse.j5 kq a0 (x5_1.extract (x7_27 : Int).toNat x5_1.size) x6_1 t248 t249 x11_43 x12_43 x72_45 x244000_1 x244001_1 x244002_1 = some (r1, r2, r3, r4)) ∧ Fa (kq ≤ kj43) ∧ Fa (Kd.R k47 47 wc w.heap.size (fun _ => True) u244002 x244002_1) ∧ Fa (wc.heap[gb242]? = some (.cells #[.int .i64 x243000_1, .int .i64 x243001_1, (.slice none 0 0)] 26 (0, 0))) ∧ Fa (wc.heap[gb243]? = some (.cells #[.int .i64 x244000_1, .int .i64 x244001_1, u244002] 26 (0, 0))) ∧ Fa (Below w.heap.size w wc))
               case first =>
                have H := HC46.out
                clear HC46
                by_cases c47 : x12_43.toList = ([] : List UInt8)
                ·
                 rw [if_pos c47] at H
                 have c47b0 : (x12_43.toList == ([] : List UInt8)) = true := beq_iff_eq.mpr c47
                 have c47b1 : (x12_43.toList != ([] : List UInt8)) = false := bne_eq_false_iff_eq.mpr c47
                 clear c47
                 (first | rw [c47b0] | (simp only [i64_w, i32_w]; rw [c47b0]) | skip)
                 have H' := Fa.mk H
                 clear H
                 go_wp2
                 go_meet
                 case rel => exact ⟨_, (true), (by first | rfl | (simp; done) | (simp [*]; done)), H', ⟨by have := HK1.out; have := HJ27.out; have := HJ34.out; have := HJ37.out; have := HJ43.out; first | omega | exact Nat.le_refl _⟩, ⟨by (with_reducible repeat (first | apply Kd.R_alloc | apply Kd.R_drewN | apply Kd.R_drew)); exact HO_244002.out⟩, ⟨fa⟩, ⟨fa⟩, ⟨fa⟩⟩
                ·
                 rw [if_neg c47] at H
                 have c47b0 : (x12_43.toList == ([] : List UInt8)) = false := beq_eq_false_iff_ne.mpr c47
                 have c47b1 : (x12_43.toList != ([] : List UInt8)) = true := bne_iff_ne.mpr c47
                 (first | rw [c47b0] | (simp only [i64_w, i32_w]; rw [c47b0]) | skip)
                 by_cases c48 : 0 < (x12_43.size : Int)
                 ·
                  rw [if_pos c48] at H
                  have c48b0 : decide (0 < (x12_43.size : Int)) = true := decide_eq_true c48
                  have c48b1 : decide (0 < x12_43.size) = true := decide_eq_true (by omega)
                  clear c48
                  by_cases c50 : (bt x12_43 0) ≥ 48
                  ·
                   rw [if_pos c50] at H
                   have c50b0 : decide (48 ≤ (bt x12_43 0)) = true := decide_eq_true c50
                   clear c50
                   have H' := Fa.mk H
                   clear H
                   have p49 : 0 ≤ (0 : Int) := (by omega)
                   have q49 : 0 < x12_43.size := (by have : (0 : Int) < (x12_43.size : Int) := of_decide_eq_true (by first | (with_reducible assumption) | assumption); omega)
                   have hx49 : ∀ h : 0 < x12_43.size, ((x12_43[0]'h).toNat : Int) = bt x12_43 0 := bt_at x12_43 0
                   clear p49
                   have qi49 : (0 < (x12_43.size : Int)) = True := eq_true (of_decide_eq_true (by first | (with_reducible assumption) | assumption))
                   replace q49 := eq_true q49
                   have p51 : 0 ≤ (0 : Int) := (by omega)
                   have q51 : 0 < x12_43.size := (by have : (0 : Int) < (x12_43.size : Int) := of_decide_eq_true (by first | (with_reducible assumption) | assumption); omega)
                   have hx51 : ∀ h : 0 < x12_43.size, ((x12_43[0]'h).toNat : Int) = bt x12_43 0 := bt_at x12_43 0
                   clear p51
                   have qi51 : (0 < (x12_43.size : Int)) = True := eq_true (of_decide_eq_true (by first | (with_reducible assumption) | assumption))
                   replace q51 := eq_true q51
                   go_wp2
                   go_meet
                   case rel => exact ⟨_, (decide ((bt x12_43 0) ≤ 57)), (by first | rfl | (simp; done) | (simp [*]; done)), H', ⟨by have := HK1.out; have := HJ27.out; have := HJ34.out; have := HJ37.out; have := HJ43.out; first | omega | exact Nat.le_refl _⟩, ⟨by (with_reducible repeat (first | apply Kd.R_alloc | apply Kd.R_drewN | apply Kd.R_drew)); exact HO_244002.out⟩, ⟨fa⟩, ⟨fa⟩, ⟨fa⟩⟩
                  ·
                   rw [if_neg c50] at H
                   have c50b0 : decide (48 ≤ (bt x12_43 0)) = false := decide_eq_false c50
                   clear c50
                   have H' := Fa.mk H
                   clear H
                   have p49 : 0 ≤ (0 : Int) := (by omega)
                   have q49 : 0 < x12_43.size := (by have : (0 : Int) < (x12_43.size : Int) := of_decide_eq_true (by first | (with_reducible assumption) | assumption); omega)
                   have hx49 : ∀ h : 0 < x12_43.size, ((x12_43[0]'h).toNat : Int) = bt x12_43 0 := bt_at x12_43 0
                   clear p49
                   have qi49 : (0 < (x12_43.size : Int)) = True := eq_true (of_decide_eq_true (by first | (with_reducible assumption) | assumption))
                   replace q49 := eq_true q49
                   go_wp2
                   go_meet
                   case rel => exact ⟨_, (false), (by first | rfl | (simp; done) | (simp [*]; done)), H', ⟨by have := HK1.out; have := HJ27.out; have := HJ34.out; have := HJ37.out; have := HJ43.out; first | omega | exact Nat.le_refl _⟩, ⟨by (with_reducible repeat (first | apply Kd.R_alloc | apply Kd.R_drewN | apply Kd.R_drew)); exact HO_244002.out⟩, ⟨fa⟩, ⟨fa⟩, ⟨fa⟩⟩
                 ·
                  rw [if_neg c48] at H
                  exact absurd H (by simp)
               case rest =>
                clear HC46
                (try clear c1);(try clear c2);(try clear p2);(try clear c3);(try clear c4);(try clear p4);(try clear q4);(try clear hx4);(try clear qi4);(try clear c5);(try clear p5);(try clear q5);(try clear hx5);(try clear qi5);(try clear c6);(try clear c6b0);(try clear c6b1);(try clear p6);(try clear c8);(try clear c8b0);(try clear c8b1);(try clear c9);(try clear c9b0);(try clear c9b1);(try clear c10);(try clear c16);(try clear c21);(try clear c26);(try clear c26b0);(try clear c26b1);(try clear c30);(try clear c30b0);(try clear c30b1);(try clear c31);(try clear c31b0);(try clear c31b1);(try clear c32);(try clear c32b0);(try clear c32b1);(try clear c33);(try clear c33b0);(try clear c34);(try clear c34b0);(try clear c37);(try clear c39);(try clear c40);(try clear c40b0);(try clear c40b1);(try clear c45);(try clear c47);(try clear c47b0);(try clear c47b1);(try clear c48);(try clear c48b0);(try clear c48b1);(try clear p49);(try clear q49);(try clear hx49);(try clear qi49);(try clear c50);(try clear c50b0);(try clear p51);(try clear q51);(try clear hx51);(try clear qi51);(try clear hcz11_0);(try clear hcz11_1);(try clear hcz11_2);(try clear hcz14_0);(try clear hcz14_1);(try clear hcz14_2);(try clear hcz15_0);(try clear hcz15_1);(try clear hcz15_2);(try clear hcz17_0);(try clear hcz17_1);(try clear hcz17_2);(try clear hcz20_0);(try clear hcz20_1);(try clear hcz20_2);(try clear hcz22_0);(try clear hcz22_1);(try clear hcz22_2);(try clear hcz25_0);(try clear hcz25_1);(try clear hcz25_2);(try clear hcz5_0);(try clear hcz5_1);(try clear hcz5_2);(try clear hfz11_0);(try clear hfz11_1);(try clear hfz11_2);(try clear hfz14_0);(try clear hfz14_1);(try clear hfz14_2);(try clear hfz15_0);(try clear hfz15_1);(try clear hfz15_2);(try clear hfz17_0);(try clear hfz17_1);(try clear hfz17_2);(try clear hfz20_0);(try clear hfz20_1);(try clear hfz20_2);(try clear hfz22_0);(try clear hfz22_1);(try clear hfz22_2);(try clear hfz25_0);(try clear hfz25_1);(try clear hfz25_2);(try clear hfz5_0);(try clear hfz5_1);(try clear hfz5_2);(try clear p2);(try clear p49);(try clear p51);(try clear p6);(try clear q49);(try clear q51)
                obtain ⟨kq, x72_45, rfl, HA, HJ45, HO_244002, BK242, BK243, HB⟩ := hcut
                cases kq with
                | zero => exact absurd HA.out (by simp [linear_Parse.j5])
                | succ kj45 =>
                 have H := HA.out
                 clear HA
                 simp only [linear_Parse.j5] at H
                 have HC52 := Fa.mk H
                 clear H
                 go_upto_if 72 with (fail)
                 go_cut [11, 12] (fun v11 v12 wc => ∃ (kq : Nat) (x11_51 : ByteArray) (x12_51 : ByteArray), v11 = .string x11_51 ∧ v12 = .string x12_51 ∧ Fa (linear_Parse.j6 kq a0 (x5_1.extract (x7_27 : Int).toNat x5_1.size) x6_1 t248 x11_51 x12_51 x244000_1 x244001_1 x244002_1 = some (r1, r2, r3, r4)) ∧ Fa (kq ≤ kj45) ∧ Fa (Kd.R k47 47 wc w.heap.size (fun _ => True) u244002 x244002_1) ∧ Fa (wc.heap[gb242]? = some (.cells #[.int .i64 x243000_1, .int .i64 x243001_1, (.slice none 0 0)] 26 (0, 0))) ∧ Fa (wc.heap[gb243]? = some (.cells #[.int .i64 x244000_1, .int .i64 x244001_1, u244002] 26 (0, 0))) ∧ Fa (Below w.heap.size w wc))
                 case first =>
                  have H := HC52.out
                  clear HC52
                  by_cases c53 : x72_45 = true
                  ·
                   subst c53
                   rw [if_pos rfl] at H
                   have H' := Fa.mk H
                   clear H
                   go_wp2
                   go_meet
                   case rel => exact ⟨_, (t249), ((⟨#[]⟩ : ByteArray)), (by first | rfl | (simp; done) | (simp [*]; done)), (by first | rfl | (simp; done) | (simp [*]; done)), H', ⟨by have := HK1.out; have := HJ27.out; have := HJ34.out; have := HJ37.out; have := HJ43.out; have := HJ45.out; first | omega | exact Nat.le_refl _⟩, ⟨by (with_reducible repeat (first | apply Kd.R_alloc | apply Kd.R_drewN | apply Kd.R_drew)); exact HO_244002.out⟩, ⟨fa⟩, ⟨fa⟩, ⟨fa⟩⟩
                  ·
                   replace c53 := Bool.eq_false_iff.mpr c53
                   subst c53
                   rw [if_neg (show ¬ (false = true) by decide)] at H
                   have H' := Fa.mk H
                   clear H
                   go_wp2
                   go_meet
                   case rel => exact ⟨_, (x11_43), (x12_43), (by first | rfl | (simp; done) | (simp [*]; done)), (by first | rfl | (simp; done) | (simp [*]; done)), H', ⟨by have := HK1.out; have := HJ27.out; have := HJ34.out; have := HJ37.out; have := HJ43.out; have := HJ45.out; first | omega | exact Nat.le_refl _⟩, ⟨by (with_reducible repeat (first | apply Kd.R_alloc | apply Kd.R_drewN | apply Kd.R_drew)); exact HO_244002.out⟩, ⟨fa⟩, ⟨fa⟩, ⟨fa⟩⟩
                 case rest =>
                  clear HC52
                  (try clear c1);(try clear c2);(try clear p2);(try clear c3);(try clear c4);(try clear p4);(try clear q4);(try clear hx4);(try clear qi4);(try clear c5);(try clear p5);(try clear q5);(try clear hx5);(try clear qi5);(try clear c6);(try clear c6b0);(try clear c6b1);(try clear p6);(try clear c8);(try clear c8b0);(try clear c8b1);(try clear c9);(try clear c9b0);(try clear c9b1);(try clear c10);(try clear c16);(try clear c21);(try clear c26);(try clear c26b0);(try clear c26b1);(try clear c30);(try clear c30b0);(try clear c30b1);(try clear c31);(try clear c31b0);(try clear c31b1);(try clear c32);(try clear c32b0);(try clear c32b1);(try clear c33);(try clear c33b0);(try clear c34);(try clear c34b0);(try clear c37);(try clear c39);(try clear c40);(try clear c40b0);(try clear c40b1);(try clear c45);(try clear c47);(try clear c47b0);(try clear c47b1);(try clear c48);(try clear c48b0);(try clear c48b1);(try clear p49);(try clear q49);(try clear hx49);(try clear qi49);(try clear c50);(try clear c50b0);(try clear p51);(try clear q51);(try clear hx51);(try clear qi51);(try clear c53);(try clear hcz11_0);(try clear hcz11_1);(try clear hcz11_2);(try clear hcz14_0);(try clear hcz14_1);(try clear hcz14_2);(try clear hcz15_0);(try clear hcz15_1);(try clear hcz15_2);(try clear hcz17_0);(try clear hcz17_1);(try clear hcz17_2);(try clear hcz20_0);(try clear hcz20_1);(try clear hcz20_2);(try clear hcz22_0);(try clear hcz22_1);(try clear hcz22_2);(try clear hcz25_0);(try clear hcz25_1);(try clear hcz25_2);(try clear hcz5_0);(try clear hcz5_1);(try clear hcz5_2);(try clear hfz11_0);(try clear hfz11_1);(try clear hfz11_2);(try clear hfz14_0);(try clear hfz14_1);(try clear hfz14_2);(try clear hfz15_0);(try clear hfz15_1);(try clear hfz15_2);(try clear hfz17_0);(try clear hfz17_1);(try clear hfz17_2);(try clear hfz20_0);(try clear hfz20_1);(try clear hfz20_2);(try clear hfz22_0);(try clear hfz22_1);(try clear hfz22_2);(try clear hfz25_0);(try clear hfz25_1);(try clear hfz25_2);(try clear hfz5_0);(try clear hfz5_1);(try clear hfz5_2);(try clear p2);(try clear p4);(try clear p49);(try clear p5);(try clear p51);(try clear p6);(try clear q4);(try clear q49);(try clear q5);(try clear q51)
                  obtain ⟨kq, x11_51, x12_51, rfl, rfl, HA, HJ51, HO_244002, BK242, BK243, HB⟩ := hcut
                  cases kq with
                  | zero => exact absurd HA.out (by simp [linear_Parse.j6])
                  | succ kj51 =>
                   have H := HA.out
                   clear HA
                   simp only [linear_Parse.j6] at H
                   replace H := Option.bind_eq_some_iff.mp H
                   obtain ⟨⟨t253, t254, t255⟩, A540, H⟩ := H
                   (try dsimp only at H)
                   have A54 := Fa.mk A540
                   clear A540
                   by_cases c55 : t255 = 0
                   ·
                    rw [if_pos c55] at H
                    have c55b0 : (t255 == 0) = true := beq_iff_eq.mpr c55
                    have c55b1 : (t255 != 0) = false := bne_eq_false_iff_eq.mpr c55
                    clear c55
                    have HC56 := Fa.mk H
                    clear H
                    go_upto_if 82 with (first | ((with_reducible refine gate_callee (f := 68) rfl ?_); refine goesA (some 76) rfl rfl Tryz.func68 (by kernel_rfl) rfl #[.string x11_51] rfl ?_; (with_reducible refine (num_Parse.calls kj51 x11_51 t253 t254 t255 _ A54.out (HG.out.below fa)).mono ?_); rintro e w57 ⟨rfl, hb⟩; refine ⟨_, rfl, ?_⟩; have n0_ := Fa.mk (Kd.R_below (by (with_reducible repeat (first | apply Kd.R_alloc | apply Kd.R_drewN | apply Kd.R_drew)); exact HO_244002.out) hb); have n1_ := Fa.mk (blk_below (g := gb242) (o := .cells #[.int .i64 x243000_1, .int .i64 x243001_1, .slice none 0 0] 26 (0, 0)) fa hb); have n2_ := Fa.mk (blk_below (g := gb243) (o := .cells #[.int .i64 x244000_1, .int .i64 x244001_1, u244002] 26 (0, 0)) fa hb); have n3_ := Fa.mk (bst w hb); clear HO_244002; clear BK242; clear BK243; clear HB; have HO_244002 := n0_; have BK242 := n1_; have BK243 := n2_; have HB := n3_; clear n0_ n1_ n2_ n3_; (try clear hb); (try clear hb2); (try clear hk); (try clear hi)) | ((with_reducible refine gate_dst (N := 14) rfl ?_); refine boxF (N := 14) (cs := #[.int .i64 0, .int .i64 0]) (t := 23) ?_; intro gb256 hg w58 hbox hb; have n0_ := Fa.mk (Kd.R_below (by (with_reducible repeat (first | apply Kd.R_alloc | apply Kd.R_drewN | apply Kd.R_drew)); exact HO_244002.out) hb); have n1_ := Fa.mk (blk_below (g := gb242) (o := .cells #[.int .i64 x243000_1, .int .i64 x243001_1, .slice none 0 0] 26 (0, 0)) fa hb); have n2_ := Fa.mk (blk_below (g := gb243) (o := .cells #[.int .i64 x244000_1, .int .i64 x244001_1, u244002] 26 (0, 0)) fa hb); have n3_ := Fa.mk (bst w hb); have n4_ := Fa.mk (hbox); have n5_ := Fa.mk (gle hg : w.heap.size ≤ gb256); have n6_ := n5_; have n7_ := Fa.mk (gne (o := .cells #[.int .i64 x243000_1, .int .i64 x243001_1, .slice none 0 0] 26 (0, 0)) hg : gb242 ≠ gb256); have n8_ := Fa.mk n7_.out.symm; have n9_ := Fa.mk (gne (o := .cells #[.int .i64 x244000_1, .int .i64 x244001_1, u244002] 26 (0, 0)) hg : gb243 ≠ gb256); have n10_ := Fa.mk n9_.out.symm; clear HO_244002; clear BK242; clear BK243; clear HB; have HO_244002 := n0_; have BK242 := n1_; have BK243 := n2_; have HB := n3_; have BK256 := n4_; have GW256 := n5_; have GE256 := n6_; have NB242_256 := n7_; have NB256_242 := n8_; have NB243_256 := n9_; have NB256_243 := n10_; clear n0_ n1_ n2_ n3_ n4_ n5_ n6_ n7_ n8_ n9_ n10_; clear hb hbox hg; have hnb59 := NB256_242.out; have hnc59 := NB242_256.out; have hnb60 := NB256_243.out; have hnc60 := NB243_256.out; have hcz61_0 := jcell BK256.out (i := 0) rfl; have hcz61_1 := jcell BK256.out (i := 1) rfl; have hfz61_0 := blk_frozen BK256.out 0; have hfz61_1 := blk_frozen BK256.out 1))
                    (try simp only [Act.put, List.setIfInBounds_toArray, List.set_cons_zero, List.set_cons_succ])
                    go_cut [] (fun wc => ∃ (kq : Nat) (x257000_55 : Int), Fa (linear_Parse.j7 kq a0 (x5_1.extract (x7_27 : Int).toNat x5_1.size) x6_1 x12_51 x244000_1 x244001_1 x244002_1 x257000_55 t254 = some (r1, r2, r3, r4)) ∧ Fa (kq ≤ kj51) ∧ Fa (Kd.R k47 47 wc w.heap.size (fun _ => True) u244002 x244002_1) ∧ Fa (wc.heap[gb242]? = some (.cells #[.int .i64 x243000_1, .int .i64 x243001_1, (.slice none 0 0)] 26 (0, 0))) ∧ Fa (wc.heap[gb243]? = some (.cells #[.int .i64 x244000_1, .int .i64 x244001_1, u244002] 26 (0, 0))) ∧ Fa (wc.heap[gb256]? = some (.cells #[.int .i64 x257000_55, .int .i64 t254] 23 (0, 0))) ∧ Fa (Below w.heap.size w wc))
                    case first =>
                     have H := HC56.out
                     clear HC56
                     by_cases c62 : t248 = true
                     ·
                      subst c62
                      rw [if_pos rfl] at H
                      have H' := Fa.mk H
                      clear H
                      have hnb63 := NB256_242.out
                      have hnc63 := NB242_256.out
                      have hnb64 := NB256_243.out
                      have hnc64 := NB243_256.out
                      have hcz65_0 := jcell BK256.out (i := 0) rfl
                      have hcz65_1 := jcell BK256.out (i := 1) rfl
                      have hfz65_0 := blk_frozen BK256.out 0
                      have hfz65_1 := blk_frozen BK256.out 1
                      go_wp2
                      go_meet
                      case rel => exact ⟨_, (wrap64 (-t253)), H', ⟨by have := HK1.out; have := HJ27.out; have := HJ34.out; have := HJ37.out; have := HJ43.out; have := HJ45.out; have := HJ51.out; first | omega | exact Nat.le_refl _⟩, ⟨by (with_reducible repeat (first | apply Kd.R_alloc | apply Kd.R_drewN | apply Kd.R_drew)); exact Kd.R_mono (Kd.R_far (p := ⟨gb256, 0, none⟩) (Kd.R_far (p := ⟨gb256, 1, none⟩) (Kd.R_far (p := ⟨gb256, 0, none⟩) (Kd.R_types HO_244002.out BK256.out (by decide)) (fun _ hk => hk.2) (.int .i64 t253)) (fun _ hk => hk.2) (.int .i64 t254)) (fun _ hk => hk.2) (.int .i64 (wrap64 (-t253)))) (fun _ hk => trivial)⟩, ⟨by (with_reducible repeat (first | refine blk_drewN ?_ _ | refine blk_drew ?_ | refine blk_alloc ?_ _)); refine blk_far ?_ NB242_256.out _; (with_reducible repeat (first | refine blk_drewN ?_ _ | refine blk_drew ?_ | refine blk_alloc ?_ _)); refine blk_far ?_ NB242_256.out _; (with_reducible repeat (first | refine blk_drewN ?_ _ | refine blk_drew ?_ | refine blk_alloc ?_ _)); refine blk_far ?_ NB242_256.out _; (with_reducible repeat (first | refine blk_drewN ?_ _ | refine blk_drew ?_ | refine blk_alloc ?_ _)); exact fa⟩, ⟨by (with_reducible repeat (first | refine blk_drewN ?_ _ | refine blk_drew ?_ | refine blk_alloc ?_ _)); refine blk_far ?_ NB243_256.out _; (with_reducible repeat (first | refine blk_drewN ?_ _ | refine blk_drew ?_ | refine blk_alloc ?_ _)); refine blk_far ?_ NB243_256.out _; (with_reducible repeat (first | refine blk_drewN ?_ _ | refine blk_drew ?_ | refine blk_alloc ?_ _)); refine blk_far ?_ NB243_256.out _; (with_reducible repeat (first | refine blk_drewN ?_ _ | refine blk_drew ?_ | refine blk_alloc ?_ _)); exact fa⟩, ⟨by (with_reducible repeat (first | refine blk_drewN ?_ _ | refine blk_drew ?_ | refine blk_alloc ?_ _)); refine blk_put (cs := #[.int .i64 t253, .int .i64 t254]) ?_ 0 _ rfl; (with_reducible repeat (first | refine blk_drewN ?_ _ | refine blk_drew ?_ | refine blk_alloc ?_ _)); refine blk_put (cs := #[.int .i64 t253, .int .i64 0]) ?_ 1 _ rfl; (with_reducible repeat (first | refine blk_drewN ?_ _ | refine blk_drew ?_ | refine blk_alloc ?_ _)); refine blk_put (cs := #[.int .i64 0, .int .i64 0]) ?_ 0 _ rfl; (with_reducible repeat (first | refine blk_drewN ?_ _ | refine blk_drew ?_ | refine blk_alloc ?_ _)); exact fa⟩, ⟨fa⟩⟩
                     ·
                      replace c62 := Bool.eq_false_iff.mpr c62
                      subst c62
                      rw [if_neg (show ¬ (false = true) by decide)] at H
                      have H' := Fa.mk H
                      clear H
                      go_wp2
                      go_meet
                      case rel => exact ⟨_, (t253), H', ⟨by have := HK1.out; have := HJ27.out; have := HJ34.out; have := HJ37.out; have := HJ43.out; have := HJ45.out; have := HJ51.out; first | omega | exact Nat.le_refl _⟩, ⟨by (with_reducible repeat (first | apply Kd.R_alloc | apply Kd.R_drewN | apply Kd.R_drew)); exact Kd.R_mono (Kd.R_far (p := ⟨gb256, 1, none⟩) (Kd.R_far (p := ⟨gb256, 0, none⟩) (Kd.R_types HO_244002.out BK256.out (by decide)) (fun _ hk => hk.2) (.int .i64 t253)) (fun _ hk => hk.2) (.int .i64 t254)) (fun _ hk => trivial)⟩, ⟨by (with_reducible repeat (first | refine blk_drewN ?_ _ | refine blk_drew ?_ | refine blk_alloc ?_ _)); refine blk_far ?_ NB242_256.out _; (with_reducible repeat (first | refine blk_drewN ?_ _ | refine blk_drew ?_ | refine blk_alloc ?_ _)); refine blk_far ?_ NB242_256.out _; (with_reducible repeat (first | refine blk_drewN ?_ _ | refine blk_drew ?_ | refine blk_alloc ?_ _)); exact fa⟩, ⟨by (with_reducible repeat (first | refine blk_drewN ?_ _ | refine blk_drew ?_ | refine blk_alloc ?_ _)); refine blk_far ?_ NB243_256.out _; (with_reducible repeat (first | refine blk_drewN ?_ _ | refine blk_drew ?_ | refine blk_alloc ?_ _)); refine blk_far ?_ NB243_256.out _; (with_reducible repeat (first | refine blk_drewN ?_ _ | refine blk_drew ?_ | refine blk_alloc ?_ _)); exact fa⟩, ⟨by (with_reducible repeat (first | refine blk_drewN ?_ _ | refine blk_drew ?_ | refine blk_alloc ?_ _)); refine blk_put (cs := #[.int .i64 t253, .int .i64 0]) ?_ 1 _ rfl; (with_reducible repeat (first | refine blk_drewN ?_ _ | refine blk_drew ?_ | refine blk_alloc ?_ _)); refine blk_put (cs := #[.int .i64 0, .int .i64 0]) ?_ 0 _ rfl; (with_reducible repeat (first | refine blk_drewN ?_ _ | refine blk_drew ?_ | refine blk_alloc ?_ _)); exact fa⟩, ⟨fa⟩⟩
                    case rest =>
                     clear HC56
                     (try clear c1);(try clear c2);(try clear p2);(try clear c3);(try clear c4);(try clear p4);(try clear q4);(try clear hx4);(try clear qi4);(try clear c5);(try clear p5);(try clear q5);(try clear hx5);(try clear qi5);(try clear c6);(try clear c6b0);(try clear c6b1);(try clear p6);(try clear c8);(try clear c8b0);(try clear c8b1);(try clear c9);(try clear c9b0);(try clear c9b1);(try clear c10);(try clear c16);(try clear c21);(try clear c26);(try clear c26b0);(try clear c26b1);(try clear c30);(try clear c30b0);(try clear c30b1);(try clear c31);(try clear c31b0);(try clear c31b1);(try clear c32);(try clear c32b0);(try clear c32b1);(try clear c33);(try clear c33b0);(try clear c34);(try clear c34b0);(try clear c37);(try clear c39);(try clear c40);(try clear c40b0);(try clear c40b1);(try clear c45);(try clear c47);(try clear c47b0);(try clear c47b1);(try clear c48);(try clear c48b0);(try clear c48b1);(try clear p49);(try clear q49);(try clear hx49);(try clear qi49);(try clear c50);(try clear c50b0);(try clear p51);(try clear q51);(try clear hx51);(try clear qi51);(try clear c53);(try clear c55);(try clear c55b0);(try clear c55b1);(try clear c59);(try clear c60);(try clear c62);(try clear c63);(try clear c64);(try clear p64);(try clear c65);(try clear hcz11_0);(try clear hcz11_1);(try clear hcz11_2);(try clear hcz14_0);(try clear hcz14_1);(try clear hcz14_2);(try clear hcz15_0);(try clear hcz15_1);(try clear hcz15_2);(try clear hcz17_0);(try clear hcz17_1);(try clear hcz17_2);(try clear hcz20_0);(try clear hcz20_1);(try clear hcz20_2);(try clear hcz22_0);(try clear hcz22_1);(try clear hcz22_2);(try clear hcz25_0);(try clear hcz25_1);(try clear hcz25_2);(try clear hcz5_0);(try clear hcz5_1);(try clear hcz5_2);(try clear hcz61_0);(try clear hcz61_1);(try clear hcz65_0);(try clear hcz65_1);(try clear hfz11_0);(try clear hfz11_1);(try clear hfz11_2);(try clear hfz14_0);(try clear hfz14_1);(try clear hfz14_2);(try clear hfz15_0);(try clear hfz15_1);(try clear hfz15_2);(try clear hfz17_0);(try clear hfz17_1);(try clear hfz17_2);(try clear hfz20_0);(try clear hfz20_1);(try clear hfz20_2);(try clear hfz22_0);(try clear hfz22_1);(try clear hfz22_2);(try clear hfz25_0);(try clear hfz25_1);(try clear hfz25_2);(try clear hfz5_0);(try clear hfz5_1);(try clear hfz5_2);(try clear hfz61_0);(try clear hfz61_1);(try clear hfz65_0);(try clear hfz65_1);(try clear p2);(try clear p4);(try clear p49);(try clear p5);(try clear p51);(try clear p6);(try clear q4);(try clear q49);(try clear q5);(try clear q51)
                     obtain ⟨kq, x257000_55, HA, HJ55, HO_244002, BK242, BK243, BK256, HB⟩ := hcut
                     cases kq with
                     | zero => exact absurd HA.out (by simp [linear_Parse.j7])
                     | succ kj55 =>
                      have H := HA.out
                      clear HA
                      simp only [linear_Parse.j7] at H
                      by_cases c66 : x12_51.toList = ([] : List UInt8)
                      ·
                       rw [if_pos c66] at H
                       have c66b0 : (x12_51.toList == ([] : List UInt8)) = true := beq_iff_eq.mpr c66
                       have c66b1 : (x12_51.toList != ([] : List UInt8)) = false := bne_eq_false_iff_eq.mpr c66
                       clear c66
                       have H' := Fa.mk H
                       clear H
                       have hnb67 := NB256_242.out
                       have hnc67 := NB242_256.out
                       have hnb68 := NB256_243.out
                       have hnc68 := NB243_256.out
                       have hcz69_0 := jcell BK256.out (i := 0) rfl
                       have hcz69_1 := jcell BK256.out (i := 1) rfl
                       have hfz69_0 := blk_frozen BK256.out 0
                       have hfz69_1 := blk_frozen BK256.out 1
                       have hnb70 := NB243_242.out
                       have hnc70 := NB242_243.out
                       have hcz71_0 := jcell BK243.out (i := 0) rfl
                       have hcz71_1 := jcell BK243.out (i := 1) rfl
                       have hcz71_2 := jcell BK243.out (i := 2) rfl
                       have hfz71_0 := blk_frozen BK243.out 0
                       have hfz71_1 := blk_frozen BK243.out 1
                       have hfz71_2 := blk_frozen BK243.out 2
                       go_wp2
                       go_roundg kj55
                       case measure => have := HK1.out; have := HJ27.out; have := HJ34.out; have := HJ37.out; have := HJ43.out; have := HJ45.out; have := HJ51.out; have := HJ55.out; omega
                       case rel => exact ⟨((x5_1.extract (x7_27 : Int).toNat x5_1.size)), (wrap64 (x6_1 + 1)), (x243000_1), (x243001_1), (x257000_55), (t254), (x244002_1), (u244002), (by first | rfl | (simp; done) | (simp [*]; done)), (by first | rfl | (simp; done) | (simp [*]; done)), H', ⟨by have := HK1.out; have := HJ27.out; have := HJ34.out; have := HJ37.out; have := HJ43.out; have := HJ45.out; have := HJ51.out; have := HJ55.out; omega⟩, ⟨by (with_reducible repeat (first | apply Kd.R_alloc | apply Kd.R_drewN | apply Kd.R_drew)); exact Kd.R_mono (Kd.R_far (p := ⟨gb243, 1, none⟩) (Kd.R_far (p := ⟨gb243, 0, none⟩) (Kd.R_types HO_244002.out BK243.out (by decide)) (fun _ hk => hk.2) (.int .i64 x257000_55)) (fun _ hk => hk.2) (.int .i64 t254)) (fun _ hk => trivial)⟩, ⟨by (with_reducible repeat (first | refine blk_drewN ?_ _ | refine blk_drew ?_ | refine blk_alloc ?_ _)); refine blk_far ?_ NB242_243.out _; (with_reducible repeat (first | refine blk_drewN ?_ _ | refine blk_drew ?_ | refine blk_alloc ?_ _)); refine blk_far ?_ NB242_243.out _; (with_reducible repeat (first | refine blk_drewN ?_ _ | refine blk_drew ?_ | refine blk_alloc ?_ _)); exact fa⟩, ⟨by (with_reducible repeat (first | refine blk_drewN ?_ _ | refine blk_drew ?_ | refine blk_alloc ?_ _)); refine blk_put (cs := #[.int .i64 x257000_55, .int .i64 x244001_1, u244002]) ?_ 1 _ rfl; (with_reducible repeat (first | refine blk_drewN ?_ _ | refine blk_drew ?_ | refine blk_alloc ?_ _)); refine blk_put (cs := #[.int .i64 x244000_1, .int .i64 x244001_1, u244002]) ?_ 0 _ rfl; (with_reducible repeat (first | refine blk_drewN ?_ _ | refine blk_drew ?_ | refine blk_alloc ?_ _)); exact fa⟩, ⟨fa⟩⟩
                      ·
                       rw [if_neg c66] at H
                       have c66b0 : (x12_51.toList == ([] : List UInt8)) = false := beq_eq_false_iff_ne.mpr c66
                       have c66b1 : (x12_51.toList != ([] : List UInt8)) = true := bne_iff_ne.mpr c66
                       replace H := Option.bind_eq_some_iff.mp H
                       obtain ⟨t257, A720, H⟩ := H
                       (try dsimp only at H)
                       have A72 := Fa.mk A720
                       clear A720
                       by_cases c73 : t257 = true
                       ·
                        subst c73
                        rw [if_pos rfl] at H
                        simp only [Option.some.injEq, Prod.mk.injEq] at H
                        obtain ⟨rfl, rfl, rfl, rfl⟩ := H
                        go_wp2_with (first | ((with_reducible refine gate_callee (f := 69) rfl ?_); refine goesA (some 92) rfl rfl Tryz.func69 (by kernel_rfl) rfl #[.string x12_51, .string (⟨#[43, 45, 42, 47]⟩ : ByteArray)] rfl ?_; (with_reducible refine (strings_ContainsAny.calls x12_51 (⟨#[43, 45, 42, 47]⟩ : ByteArray) true _ A72.out).mono ?_); rintro e w74 ⟨rfl, hb⟩; refine ⟨_, rfl, ?_⟩; have hS := Stp.mk hb; have HO_244002 := Fa.mk (Kd.R_below (by (with_reducible repeat (first | apply Kd.R_alloc | apply Kd.R_drewN | apply Kd.R_drew)); exact HO_244002.out) hb); have BK242 := (⟨fa⟩ : Fa (w74.heap[gb242]? = some (.cells #[.int .i64 x243000_1, .int .i64 x243001_1, .slice none 0 0] 26 (0, 0)))); clear hb; have hnb75 := NB242_243.out; have hnc75 := NB243_242.out; have hnb76 := NB242_256.out; have hnc76 := NB256_242.out; have hcz77_0 := jcell BK242.out (i := 0) rfl; have hcz77_1 := jcell BK242.out (i := 1) rfl; have hcz77_2 := jcell BK242.out (i := 2) rfl; have hfz77_0 := blk_frozen BK242.out 0; have hfz77_1 := blk_frozen BK242.out 1; have hfz77_2 := blk_frozen BK242.out 2))
                        refine bodyPost_ret (results_ct rfl _ _ gb242 26 #[.int .i64 0, .int .i64 0, .slice none 0 0] (0, 0) _ rfl (by (with_reducible repeat (first | refine blk_drewN ?_ _ | refine blk_drew ?_ | refine blk_alloc ?_ _)); refine blk_put (cs := #[.int .i64 0, .int .i64 0, .slice none 0 0]) ?_ 2 _ rfl; (with_reducible repeat (first | refine blk_drewN ?_ _ | refine blk_drew ?_ | refine blk_alloc ?_ _)); refine blk_put (cs := #[.int .i64 0, .int .i64 x243001_1, .slice none 0 0]) ?_ 1 _ rfl; (with_reducible repeat (first | refine blk_drewN ?_ _ | refine blk_drew ?_ | refine blk_alloc ?_ _)); refine blk_put (cs := #[.int .i64 x243000_1, .int .i64 x243001_1, .slice none 0 0]) ?_ 0 _ rfl; (with_reducible repeat (first | refine blk_drewN ?_ _ | refine blk_drew ?_ | refine blk_alloc ?_ _)); exact fa) Tryz.underlying26 rfl (by kernel_rfl)) rfl ?_
                        exact ⟨_, rfl, Kd.R_nil _ _ _ _ _, fa⟩
                       ·
                        replace c73 := Bool.eq_false_iff.mpr c73
                        subst c73
                        rw [if_neg (show ¬ (false = true) by decide)] at H
                        by_cases c78 : x244002_1.length < 4398046511104
                        ·
                         rw [if_pos c78] at H
                         have LMc78 := Fa.mk c78
                         clear c78
                         obtain ⟨y258, hy258⟩ : ∃ y_ : List (S47), y_ = (x244002_1 ++ [(⟨x12_51, (⟨x257000_55, t254⟩ : S23)⟩ : S47)]) := ⟨_, rfl⟩
                         replace H : (linear_Parse.l0 kj55 a0 (x5_1.extract (x7_27 : Int).toNat x5_1.size) (wrap64 (x6_1 + 1)) x244000_1 x244001_1 y258) = some (r1, r2, r3, r4) := by first | (rw [hy258]; with_reducible exact H) | (have H2_ := (Option.bind_some _ _).symm.trans H; rw [hy258]; with_reducible exact H2_) | (have H2_ := (Option.bind_some _ _).symm.trans H; with_reducible exact H2_) | with_reducible exact H | (rw [hy258]; exact H) | exact H
                         have Ny258 := Fa.mk hy258
                         clear hy258
                         have H' := Fa.mk H
                         clear H
                         go_wp2_with (first | ((with_reducible refine gate_callee (f := 69) rfl ?_); refine goesA (some 92) rfl rfl Tryz.func69 (by kernel_rfl) rfl #[.string x12_51, .string (⟨#[43, 45, 42, 47]⟩ : ByteArray)] rfl ?_; (with_reducible refine (strings_ContainsAny.calls x12_51 (⟨#[43, 45, 42, 47]⟩ : ByteArray) false _ A72.out).mono ?_); rintro e w79 ⟨rfl, hb⟩; refine ⟨_, rfl, ?_⟩; have hS := Stp.mk hb; have HO_244002 := Fa.mk (Kd.R_below (by (with_reducible repeat (first | apply Kd.R_alloc | apply Kd.R_drewN | apply Kd.R_drew)); exact HO_244002.out) hb); have BK243 := (⟨fa⟩ : Fa (w79.heap[gb243]? = some (.cells #[.int .i64 x244000_1, .int .i64 x244001_1, u244002] 26 (0, 0)))); have BK256 := (⟨fa⟩ : Fa (w79.heap[gb256]? = some (.cells #[.int .i64 x257000_55, .int .i64 t254] 23 (0, 0)))); clear hb; have hnb80 := NB243_242.out; have hnc80 := NB242_243.out; have hnb81 := NB243_256.out; have hnc81 := NB256_243.out; have hcz82_0 := jcell BK243.out (i := 0) rfl; have hcz82_1 := jcell BK243.out (i := 1) rfl; have hcz82_2 := jcell BK243.out (i := 2) rfl; have hfz82_0 := blk_frozen BK243.out 0; have hfz82_1 := blk_frozen BK243.out 1; have hfz82_2 := blk_frozen BK243.out 2; have hnb83 := NB256_242.out; have hnc83 := NB242_256.out; have hcz84_0 := jcell BK256.out (i := 0) rfl; have hcz84_1 := jcell BK256.out (i := 1) rfl; have hfz84_0 := blk_frozen BK256.out 0; have hfz84_1 := blk_frozen BK256.out 1) | ((with_reducible refine gate_builtin (b := .append) (xs := #[.tmp 95, .tmp 99]) rfl ?_); have BK242 := (⟨fa⟩ : Fa (w79.heap[gb242]? = some (.cells #[.int .i64 x243000_1, .int .i64 x243001_1, .slice none 0 0] 26 (0, 0)))); at_builtin; refine Kd.R_append k47 (w0 := w) w.heap.size rfl (.tmp 95) (.tmp 99) 24 47 (.agg #[(.string ⟨#[]⟩), (.int .i64 0), (.int .i64 0)]) 32 rfl Tryz.underlying24 info47 rfl (by decide) (by omega) u244002 x244002_1 (⟨x12_51, (⟨x257000_55, t254⟩ : S23)⟩ : S47) [.string x12_51, .int .i64 x257000_55, .int .i64 t254] (fun _ => True) (fun _ => False) rfl rfl ?aP (fun _ hk => hk.elim) ?aF ?aO ?aB ?aS ?aL ?_; (case aP => exact k47_mkM _ _ _ (⟨x12_51, (⟨x257000_55, t254⟩ : S23)⟩ : S47)); (case aB => exact fa); (case aF => exact (fun _ _ => trivial)); (case aO => exact (by (with_reducible repeat (first | apply Kd.R_alloc | apply Kd.R_drewN | apply Kd.R_drew)); exact HO_244002.out)); (case aS => exact (bsz w)); (case aL => have := LMc78.out; omega); intro v259 w85 ho hb hg hat; rw [← Ny258.out] at ho; have n0_ := Fa.mk (blk_grown (g := gb242) (o := .cells #[.int .i64 x243000_1, .int .i64 x243001_1, .slice none 0 0] 26 (0, 0)) fa hg (Kd.R_ne HO_244002.out BK242.out (by decide))); have n1_ := Fa.mk (blk_grown (g := gb243) (o := .cells #[.int .i64 x244000_1, .int .i64 x244001_1, u244002] 26 (0, 0)) fa hg (Kd.R_ne HO_244002.out BK243.out (by decide))); have n2_ := Fa.mk (blk_grown (g := gb256) (o := .cells #[.int .i64 x257000_55, .int .i64 t254] 23 (0, 0)) fa hg (Kd.R_ne HO_244002.out BK256.out (by decide))); have n3_ := Fa.mk (hb); have n4_ := Fa.mk (ho); clear BK242; clear BK243; clear BK256; clear HB; clear HO_244002; have BK242 := n0_; have BK243 := n1_; have BK256 := n2_; have HB := n3_; have HO260 := n4_; clear n0_ n1_ n2_ n3_ n4_; clear ho hb hg hat; obtain ⟨Ao86, co86, eo86⟩ := Kd.R_slice HO260.out; subst eo86; have hcz87_0 := jcell BK243.out (i := 0) rfl; have hcz87_1 := jcell BK243.out (i := 1) rfl; have hcz87_2 := jcell BK243.out (i := 2) rfl; have hfz87_0 := blk_frozen BK243.out 0; have hfz87_1 := blk_frozen BK243.out 1; have hfz87_2 := blk_frozen BK243.out 2))
                         go_roundg kj55
                         case measure => have := HK1.out; have := HJ27.out; have := HJ34.out; have := HJ37.out; have := HJ43.out; have := HJ45.out; have := HJ51.out; have := HJ55.out; omega
                         case rel => exact ⟨((x5_1.extract (x7_27 : Int).toNat x5_1.size)), (wrap64 (x6_1 + 1)), (x243000_1), (x243001_1), (x244000_1), (x244001_1), (y258), (.slice Ao86 y258.length co86), (by first | rfl | (simp; done) | (simp [*]; done)), (by first | rfl | (simp; done) | (simp [*]; done)), H', ⟨by have := HK1.out; have := HJ27.out; have := HJ34.out; have := HJ37.out; have := HJ43.out; have := HJ45.out; have := HJ51.out; have := HJ55.out; omega⟩, ⟨by (with_reducible repeat (first | apply Kd.R_alloc | apply Kd.R_drewN | apply Kd.R_drew)); exact Kd.R_mono (Kd.R_far (p := ⟨gb243, 2, none⟩) (Kd.R_types HO260.out BK243.out (by decide)) (fun _ hk => hk.2) (.slice Ao86 y258.length co86)) (fun _ hk => trivial)⟩, ⟨by (with_reducible repeat (first | refine blk_drewN ?_ _ | refine blk_drew ?_ | refine blk_alloc ?_ _)); refine blk_far ?_ NB242_243.out _; (with_reducible repeat (first | refine blk_drewN ?_ _ | refine blk_drew ?_ | refine blk_alloc ?_ _)); exact fa⟩, ⟨by (with_reducible repeat (first | refine blk_drewN ?_ _ | refine blk_drew ?_ | refine blk_alloc ?_ _)); refine blk_put (cs := #[.int .i64 x244000_1, .int .i64 x244001_1, u244002]) ?_ 2 _ rfl; (with_reducible repeat (first | refine blk_drewN ?_ _ | refine blk_drew ?_ | refine blk_alloc ?_ _)); exact fa⟩, ⟨fa⟩⟩
                        ·
                         rw [if_neg c78] at H
                         exact absurd H (by simp)
                   ·
                    rw [if_neg c55] at H
                    have c55b0 : (t255 == 0) = false := beq_eq_false_iff_ne.mpr c55
                    have c55b1 : (t255 != 0) = true := bne_iff_ne.mpr c55
                    simp only [Option.some.injEq, Prod.mk.injEq] at H
                    obtain ⟨rfl, rfl, rfl, rfl⟩ := H
                    go_wp2_with (first | ((with_reducible refine gate_callee (f := 68) rfl ?_); refine goesA (some 76) rfl rfl Tryz.func68 (by kernel_rfl) rfl #[.string x11_51] rfl ?_; (with_reducible refine (num_Parse.calls kj51 x11_51 t253 t254 t255 _ A54.out (HG.out.below fa)).mono ?_); rintro e w88 ⟨rfl, hb⟩; refine ⟨_, rfl, ?_⟩; have hS := Stp.mk hb; have HO_244002 := Fa.mk (Kd.R_below (by (with_reducible repeat (first | apply Kd.R_alloc | apply Kd.R_drewN | apply Kd.R_drew)); exact HO_244002.out) hb); clear hb) | ((with_reducible refine gate_dst (N := 14) rfl ?_); refine boxF (N := 14) (cs := #[.int .i64 0, .int .i64 0]) (t := 23) ?_; intro gb256 hg w89 hbox hb; have hS := Stp.mk hb; have HO_244002 := Fa.mk (Kd.R_below (by (with_reducible repeat (first | apply Kd.R_alloc | apply Kd.R_drewN | apply Kd.R_drew)); exact HO_244002.out) hb); have BK242 := (⟨fa⟩ : Fa (w89.heap[gb242]? = some (.cells #[.int .i64 x243000_1, .int .i64 x243001_1, .slice none 0 0] 26 (0, 0)))); have BK256 := Fa.mk (hbox); have GW256 := Fa.mk (gle hg : w.heap.size ≤ gb256); have GE256 := GW256; have NB242_256 := Fa.mk (gne (o := .cells #[.int .i64 x243000_1, .int .i64 x243001_1, .slice none 0 0] 26 (0, 0)) hg : gb242 ≠ gb256); have NB256_242 := Fa.mk NB242_256.out.symm; have NB243_256 := Fa.mk (gne (o := .cells #[.int .i64 x244000_1, .int .i64 x244001_1, u244002] 26 (0, 0)) hg : gb243 ≠ gb256); have NB256_243 := Fa.mk NB243_256.out.symm; clear hb hbox hg; have hnb90 := NB256_242.out; have hnc90 := NB242_256.out; have hnb91 := NB256_243.out; have hnc91 := NB243_256.out; have hcz92_0 := jcell BK256.out (i := 0) rfl; have hcz92_1 := jcell BK256.out (i := 1) rfl; have hfz92_0 := blk_frozen BK256.out 0; have hfz92_1 := blk_frozen BK256.out 1; have hnb93 := NB242_243.out; have hnc93 := NB243_242.out; have hcz94_0 := jcell BK242.out (i := 0) rfl; have hcz94_1 := jcell BK242.out (i := 1) rfl; have hcz94_2 := jcell BK242.out (i := 2) rfl; have hfz94_0 := blk_frozen BK242.out 0; have hfz94_1 := blk_frozen BK242.out 1; have hfz94_2 := blk_frozen BK242.out 2))
                    refine bodyPost_ret (results_ct rfl _ _ gb242 26 #[.int .i64 0, .int .i64 0, .slice none 0 0] (0, 0) _ rfl (by (with_reducible repeat (first | refine blk_drewN ?_ _ | refine blk_drew ?_ | refine blk_alloc ?_ _)); refine blk_put (cs := #[.int .i64 0, .int .i64 0, .slice none 0 0]) ?_ 2 _ rfl; (with_reducible repeat (first | refine blk_drewN ?_ _ | refine blk_drew ?_ | refine blk_alloc ?_ _)); refine blk_put (cs := #[.int .i64 0, .int .i64 x243001_1, .slice none 0 0]) ?_ 1 _ rfl; (with_reducible repeat (first | refine blk_drewN ?_ _ | refine blk_drew ?_ | refine blk_alloc ?_ _)); refine blk_put (cs := #[.int .i64 x243000_1, .int .i64 x243001_1, .slice none 0 0]) ?_ 0 _ rfl; (with_reducible repeat (first | refine blk_drewN ?_ _ | refine blk_drew ?_ | refine blk_alloc ?_ _)); refine blk_far ?_ NB242_256.out _; (with_reducible repeat (first | refine blk_drewN ?_ _ | refine blk_drew ?_ | refine blk_alloc ?_ _)); refine blk_far ?_ NB242_256.out _; (with_reducible repeat (first | refine blk_drewN ?_ _ | refine blk_drew ?_ | refine blk_alloc ?_ _)); exact fa) Tryz.underlying26 rfl (by kernel_rfl)) rfl ?_
                    exact ⟨_, rfl, Kd.R_nil _ _ _ _ _, fa⟩
        ·
         rw [if_neg c32] at H
         exact absurd H (by simp)
       ·
        rw [if_neg c31] at H
        exact absurd H (by simp)
    ·
     rw [if_neg c26] at H
     exact absurd H (by simp)
end Go.Proofs.YtilamkcpbibnmaaGreatDoor.P
