-- PRINTED by print.py (a twelfth state) out of the translation. Not trusted: Lean checks it.
import Derived.Test.YtndbdnkpnjibkaaDoorPx0
import Derived.Test.YtndbdnkpnjibkaaDoorPxEq1
import Derived.Test.YtndbdnkpnjibkaaDoorPxnumdo
import Derived.Test.YtndbdnkpnjibkaaDoorPxnumDecimal
import Derived.Test.YtndbdnkpnjibkaaDoorPxfleuronlaw01awake
import Derived.Test.YtndbdnkpnjibkaaDoorPxfleuronref01lowest
import Derived.Test.YtndbdnkpnjibkaaDoorPxfleuronref01digits
import Derived.Test.YtndbdnkpnjibkaaDoorPxnumParse
namespace Go.Proofs.YtndbdnkpnjibkaaDoor.P
open Go.RowKit Go.Proofs.YtndbdnkpnjibkaaDoorW.PrintWords Go.Proofs.YtndbdnkpnjibkaaDoorW.PrintLast Go.Proofs.YtndbdnkpnjibkaaDoorW.PrintMore
attribute [local go_sem] max2_int min2_int max_two min_two max_three min_three max_four min_four   -- for this text's walks alone
set_option linter.unusedVariables false
set_option linter.unusedSimpArgs false

attribute [local go_sem high] eqA23
/-! ### fleuronref01_Decimal: function 37 -/
mutual
def fleuronref01_Decimal.j0 : Nat → ByteArray → ByteArray → Bool → Int → Int → Bool → Option (Int × Int × Int)
  | 0, _, _, _, _, _, _ => none
  | k + 1, x4, x5, x6, x7, x8, x22 => if x22 = true then ((fleuronref01_whole.f k x4 9).bind fun t497 => (fleuronref01_Decimal.j1 k x5 x6 t497 x8)) else (fleuronref01_Decimal.j1 k x5 x6 x7 x8)
def fleuronref01_Decimal.j1 : Nat → ByteArray → Bool → Int → Int → Option (Int × Int × Int)
  | 0, _, _, _, _ => none
  | k + 1, x5, x6, x7, x8 => if x7 < 0 then (some (0, 0, 30)) else (if x6 = true then ((fleuronref01_whole.f k x5 5).bind fun t498 => (if t498 < 0 then (some (0, 0, 30)) else (fleuronref01_Decimal.l0 k x5 x7 x8 t498 0))) else ((fleuronref01_Make.f k x7 x8).bind fun bt502 => (some (bt502.1, bt502.2.1, bt502.2.2))))
def fleuronref01_Decimal.l0 : Nat → ByteArray → Int → Int → Int → Int → Option (Int × Int × Int)
  | 0, _, _, _, _, _ => none
  | k + 1, x5, x7, x8, x9, x10 => if x10 < (x5.size : Int) then (fleuronref01_Decimal.l0 k x5 x7 (wrap64 (x8 * 10)) x9 (wrap64 (x10 + 1))) else ((fleuronref01_Make.f k (wrap64 ((wrap64 (x7 * x8)) + x9)) x8).bind fun bt499 => (some (bt499.1, bt499.2.1, bt499.2.2)))
end
def fleuronref01_Decimal.f (k : Nat) (a0 : ByteArray) : Option (Int × Int × Int) := (fleuronref01_cut.f k a0 46).bind fun bt494 => (if bt494.1.toList = ([] : List UInt8) then (fleuronref01_Decimal.j0 k bt494.1 bt494.2.1 bt494.2.2 0 1 (!bt494.2.2)) else (fleuronref01_Decimal.j0 k bt494.1 bt494.2.1 bt494.2.2 0 1 true))
theorem fleuronref01_Decimal.mono_l : ∀ k, (∀ y0 y1 y2 y3 y4 y5, LeO (fleuronref01_Decimal.j0 k y0 y1 y2 y3 y4 y5) (fleuronref01_Decimal.j0 (k + 1) y0 y1 y2 y3 y4 y5)) ∧ (∀ y0 y1 y2 y3, LeO (fleuronref01_Decimal.j1 k y0 y1 y2 y3) (fleuronref01_Decimal.j1 (k + 1) y0 y1 y2 y3)) ∧ (∀ y0 y1 y2 y3 y4, LeO (fleuronref01_Decimal.l0 k y0 y1 y2 y3 y4) (fleuronref01_Decimal.l0 (k + 1) y0 y1 y2 y3 y4))
  | 0 => ⟨fun _ _ _ _ _ _ r h => by simp [fleuronref01_Decimal.j0] at h, fun _ _ _ _ r h => by simp [fleuronref01_Decimal.j1] at h, fun _ _ _ _ _ r h => by simp [fleuronref01_Decimal.l0] at h⟩
  | k + 1 => by
    obtain ⟨ih0, ih1, ih2⟩ := fleuronref01_Decimal.mono_l k
    refine ⟨?_, ?_, ?_⟩
    · intro y0 y1 y2 y3 y4 y5
      unfold fleuronref01_Decimal.j0
      repeat' first
      | (with_reducible exact ih0 _ _ _ _ _ _)
      | (with_reducible exact ih1 _ _ _ _)
      | (with_reducible exact ih2 _ _ _ _ _)
      | (with_reducible exact fleuronref01_Make.mono _ _ _)
      | (with_reducible exact fleuronref01_cut.mono _ _ _)
      | (with_reducible exact fleuronref01_whole.mono _ _ _)
      | (with_reducible exact LeO.refl _)
      | (with_reducible exact LeO.none _)
      | (with_reducible refine LeO.ite ?_ ?_)
      | (with_reducible refine LeO.bind ?_ (fun _ => ?_))
      | exact ih0 _ _ _ _ _ _
      | exact ih1 _ _ _ _
      | exact ih2 _ _ _ _ _
      | exact fleuronref01_Make.mono _ _ _
      | exact fleuronref01_cut.mono _ _ _
      | exact fleuronref01_whole.mono _ _ _
      | exact LeO.none _
      | refine LeO.ite ?_ ?_
      | refine LeO.bind ?_ (fun _ => ?_)
    · intro y0 y1 y2 y3
      unfold fleuronref01_Decimal.j1
      repeat' first
      | (with_reducible exact ih0 _ _ _ _ _ _)
      | (with_reducible exact ih1 _ _ _ _)
      | (with_reducible exact ih2 _ _ _ _ _)
      | (with_reducible exact fleuronref01_Make.mono _ _ _)
      | (with_reducible exact fleuronref01_cut.mono _ _ _)
      | (with_reducible exact fleuronref01_whole.mono _ _ _)
      | (with_reducible exact LeO.refl _)
      | (with_reducible exact LeO.none _)
      | (with_reducible refine LeO.ite ?_ ?_)
      | (with_reducible refine LeO.bind ?_ (fun _ => ?_))
      | exact ih0 _ _ _ _ _ _
      | exact ih1 _ _ _ _
      | exact ih2 _ _ _ _ _
      | exact fleuronref01_Make.mono _ _ _
      | exact fleuronref01_cut.mono _ _ _
      | exact fleuronref01_whole.mono _ _ _
      | exact LeO.none _
      | refine LeO.ite ?_ ?_
      | refine LeO.bind ?_ (fun _ => ?_)
    · intro y0 y1 y2 y3 y4
      unfold fleuronref01_Decimal.l0
      repeat' first
      | (with_reducible exact ih0 _ _ _ _ _ _)
      | (with_reducible exact ih1 _ _ _ _)
      | (with_reducible exact ih2 _ _ _ _ _)
      | (with_reducible exact fleuronref01_Make.mono _ _ _)
      | (with_reducible exact fleuronref01_cut.mono _ _ _)
      | (with_reducible exact fleuronref01_whole.mono _ _ _)
      | (with_reducible exact LeO.refl _)
      | (with_reducible exact LeO.none _)
      | (with_reducible refine LeO.ite ?_ ?_)
      | (with_reducible refine LeO.bind ?_ (fun _ => ?_))
      | exact ih0 _ _ _ _ _ _
      | exact ih1 _ _ _ _
      | exact ih2 _ _ _ _ _
      | exact fleuronref01_Make.mono _ _ _
      | exact fleuronref01_cut.mono _ _ _
      | exact fleuronref01_whole.mono _ _ _
      | exact LeO.none _
      | refine LeO.ite ?_ ?_
      | refine LeO.bind ?_ (fun _ => ?_)
theorem fleuronref01_Decimal.mono : ∀ a0 k, LeO (fleuronref01_Decimal.f k a0) (fleuronref01_Decimal.f (k + 1) a0) := by
  intro a0 k
  obtain ⟨ih0, ih1, ih2⟩ := fleuronref01_Decimal.mono_l k
  unfold fleuronref01_Decimal.f
  repeat' first
      | (with_reducible exact ih0 _ _ _ _ _ _)
      | (with_reducible exact ih1 _ _ _ _)
      | (with_reducible exact ih2 _ _ _ _ _)
      | (with_reducible exact fleuronref01_Make.mono _ _ _)
      | (with_reducible exact fleuronref01_cut.mono _ _ _)
      | (with_reducible exact fleuronref01_whole.mono _ _ _)
      | (with_reducible exact LeO.refl _)
      | (with_reducible exact LeO.none _)
      | (with_reducible refine LeO.ite ?_ ?_)
      | (with_reducible refine LeO.bind ?_ (fun _ => ?_))
      | exact ih0 _ _ _ _ _ _
      | exact ih1 _ _ _ _
      | exact ih2 _ _ _ _ _
      | exact fleuronref01_Make.mono _ _ _
      | exact fleuronref01_cut.mono _ _ _
      | exact fleuronref01_whole.mono _ _ _
      | exact LeO.none _
      | refine LeO.ite ?_ ?_
      | refine LeO.bind ?_ (fun _ => ?_)
set_option maxHeartbeats 8000000 in
set_option maxRecDepth 100000 in
theorem fleuronref01_Decimal.calls (k : Nat) (a0 : ByteArray) (r1 : Int) (r2 : Int) (r3 : Int) (w : World) (h : fleuronref01_Decimal.f k a0 = some (r1, r2, r3)) :
    Calls Tryd.prog 37 #[.string a0] w fun e w' => e = .returned (.tuple #[.agg #[.int .i64 r1, .int .i64 r2], .int .i64 r3]) ∧ Below w.heap.size w w' := by
  have hu23 := Tryd.underlying23
  have HB := Fa.mk (Below.refl w.heap.size w)
  have H : ((fleuronref01_cut.f k a0 46).bind fun bt494 => (if bt494.1.toList = ([] : List UInt8) then (fleuronref01_Decimal.j0 k bt494.1 bt494.2.1 bt494.2.2 0 1 (!bt494.2.2)) else (fleuronref01_Decimal.j0 k bt494.1 bt494.2.1 bt494.2.2 0 1 true))) = some (r1, r2, r3) := h
  clear h
  replace H := Option.bind_eq_some_iff.mp H
  obtain ⟨⟨t494, t495, t496⟩, A20, H⟩ := H
  replace H : (if t494.toList = ([] : List UInt8) then (fleuronref01_Decimal.j0 k t494 t495 t496 0 1 (!t496)) else (fleuronref01_Decimal.j0 k t494 t495 t496 0 1 true)) = some (r1, r2, r3) := H
  have A2 := Fa.mk A20
  clear A20
  have HC3 := Fa.mk H
  clear H
  go_enter Tryd.func37, Tryd.ntmps37
  go_upto_region 3 with (first | ((with_reducible refine gate_dst (N := 2) rfl ?_); refine boxF (N := 2) (cs := #[.int .i64 0, .int .i64 0]) (t := 23) ?_; intro gb493 hg w4 hbox hb; have n0_ := Fa.mk (bst w hb); have n1_ := Fa.mk (hbox); have n2_ := Fa.mk (gle hg : w.heap.size ≤ gb493); have n3_ := n2_; clear HB; have HB := n0_; have BK493 := n1_; have GW493 := n2_; have GE493 := n3_; clear n0_ n1_ n2_ n3_; clear hb hbox hg) | ((with_reducible refine gate_callee (f := 61) rfl ?_); refine goesA (some 13) rfl rfl Tryd.func61 (by kernel_rfl) rfl #[.string a0, .int .u8 46] rfl ?_; (with_reducible refine (fleuronref01_cut.calls k a0 46 t494 t495 t496 _ A2.out).mono ?_); rintro e w' ⟨rfl, ⟨nd, rfl⟩⟩; refine ⟨_, rfl, ?_⟩))
  (try simp only [Act.put, List.setIfInBounds_toArray, List.set_cons_zero, List.set_cons_succ])
  go_cut [22] (fun v22 wc => ∃ (kq : Nat) (x22_2 : Bool), v22 = .bool x22_2 ∧ Fa (fleuronref01_Decimal.j0 kq t494 t495 t496 0 1 x22_2 = some (r1, r2, r3)) ∧ Fa (kq ≤ k) ∧ Fa (wc.heap[gb493]? = some (.cells #[.int .i64 0, .int .i64 0] 23 (0, 0))) ∧ Fa (Below w.heap.size w wc))
  case first =>
    have H := HC3.out
    clear HC3
    by_cases c5 : t494.toList = ([] : List UInt8)
    · rw [if_pos c5] at H
      have c5b0 : (t494.toList == ([] : List UInt8)) = true := beq_iff_eq.mpr c5
      have c5b1 : (t494.toList != ([] : List UInt8)) = false := bne_eq_false_iff_eq.mpr c5
      clear c5
      (first | rw [c5b0] | (simp only [i64_w, i32_w]; rw [c5b0]) | skip)
      have H' := Fa.mk H
      clear H
      go_wp2
      go_meet
      case rel => exact ⟨_, (!t496), (by first | rfl | (simp; done) | (simp [*]; done)), H', ⟨by first | omega | exact Nat.le_refl _⟩, ⟨by (with_reducible repeat (first | refine blk_drewN ?_ _ | refine blk_drew ?_ | refine blk_alloc ?_ _)); exact BK493.out⟩, ⟨fa⟩⟩
    · rw [if_neg c5] at H
      have c5b0 : (t494.toList == ([] : List UInt8)) = false := beq_eq_false_iff_ne.mpr c5
      have c5b1 : (t494.toList != ([] : List UInt8)) = true := bne_iff_ne.mpr c5
      (first | rw [c5b0] | (simp only [i64_w, i32_w]; rw [c5b0]) | skip)
      have H' := Fa.mk H
      clear H
      go_wp2
      go_meet
      case rel => exact ⟨_, (true), (by first | rfl | (simp; done) | (simp [*]; done)), H', ⟨by first | omega | exact Nat.le_refl _⟩, ⟨by (with_reducible repeat (first | refine blk_drewN ?_ _ | refine blk_drew ?_ | refine blk_alloc ?_ _)); exact BK493.out⟩, ⟨fa⟩⟩
  case rest =>
    clear HC3
    try clear p2
    try clear c3
    try clear c5
    try clear c5b0
    try clear c5b1
    obtain ⟨kq, x22_2, rfl, HA, HJ2, BK493, HB⟩ := hcut
    cases kq with
    | zero => exact absurd HA.out (by simp [fleuronref01_Decimal.j0])
    | succ kj2 =>
      have H := HA.out
      clear HA
      simp only [fleuronref01_Decimal.j0] at H
      have HC6 := Fa.mk H
      clear H
      go_upto_if 22 with (fail)
      go_cut [7] (fun v7 wc => ∃ (kq : Nat) (x7_5 : Int), v7 = .int .i64 x7_5 ∧ Fa (fleuronref01_Decimal.j1 kq t495 t496 x7_5 1 = some (r1, r2, r3)) ∧ Fa (kq ≤ kj2) ∧ Fa (wc.heap[gb493]? = some (.cells #[.int .i64 0, .int .i64 0] 23 (0, 0))) ∧ Fa (Below w.heap.size w wc))
      case first =>
        have H := HC6.out
        clear HC6
        by_cases c7 : x22_2 = true
        · subst c7
          have H1 : ((fleuronref01_whole.f kj2 t494 9).bind fun t497 => (fleuronref01_Decimal.j1 kj2 t495 t496 t497 1)) = some (r1, r2, r3) := by rw [if_pos rfl] at H; exact H
          clear H
          have H := H1
          clear H1
          replace H := Option.bind_eq_some_iff.mp H
          obtain ⟨t497, A80, H⟩ := H
          replace H : (fleuronref01_Decimal.j1 kj2 t495 t496 t497 1) = some (r1, r2, r3) := H
          have A8 := Fa.mk A80
          clear A80
          have H' := Fa.mk H
          clear H
          go_wp2_with (first | ((with_reducible refine gate_callee (f := 62) rfl ?_); refine goesA (some 24) rfl rfl Tryd.func62 (by kernel_rfl) rfl #[.string t494, .int .i64 9] rfl ?_; (with_reducible refine (fleuronref01_whole.calls kj2 t494 9 t497 _ A8.out).mono ?_); rintro e w' ⟨rfl, ⟨nd, rfl⟩⟩; refine ⟨_, rfl, ?_⟩))
          go_meet
          case rel => exact ⟨_, (t497), (by first | rfl | (simp; done) | (simp [*]; done)), H', ⟨by have := HJ2.out; first | omega | exact Nat.le_refl _⟩, ⟨by (with_reducible repeat (first | refine blk_drewN ?_ _ | refine blk_drew ?_ | refine blk_alloc ?_ _)); exact BK493.out⟩, ⟨fa⟩⟩
        · replace c7 := Bool.eq_false_iff.mpr c7
          subst c7
          have H1 : (fleuronref01_Decimal.j1 kj2 t495 t496 0 1) = some (r1, r2, r3) := by rw [if_neg (show ¬ (false = true) by decide)] at H; exact H
          clear H
          have H := H1
          clear H1
          have H' := Fa.mk H
          clear H
          go_wp2
          go_meet
          case rel => exact ⟨_, (0), (by first | rfl | (simp; done) | (simp [*]; done)), H', ⟨by have := HJ2.out; first | omega | exact Nat.le_refl _⟩, ⟨by (with_reducible repeat (first | refine blk_drewN ?_ _ | refine blk_drew ?_ | refine blk_alloc ?_ _)); exact BK493.out⟩, ⟨fa⟩⟩
      case rest =>
        clear HC6
        try clear p2
        try clear c3
        try clear c5
        try clear c5b0
        try clear c5b1
        try clear c6
        try clear c7
        try clear p2
        obtain ⟨kq, x7_5, rfl, HA, HJ5, BK493, HB⟩ := hcut
        cases kq with
        | zero => exact absurd HA.out (by simp [fleuronref01_Decimal.j1])
        | succ kj5 =>
          have H := HA.out
          clear HA
          simp only [fleuronref01_Decimal.j1] at H
          by_cases c9 : x7_5 < 0
          · rw [if_pos c9] at H
            have c9b0 : decide (x7_5 < 0) = true := decide_eq_true c9
            clear c9
            simp only [Option.some.injEq, Prod.mk.injEq] at H
            obtain ⟨rfl, rfl, rfl⟩ := H
            have hcz10_0 : wc.cell? ⟨gb493, 0, none⟩ = some (.int .i64 0) := (blk_cell BK493.out 0).trans rfl
            have hcz10_1 : wc.cell? ⟨gb493, 1, none⟩ = some (.int .i64 0) := (blk_cell BK493.out 1).trans rfl
            have hfz10_0 := blk_frozen BK493.out 0
            have hfz10_1 := blk_frozen BK493.out 1
            go_wp2
            refine bodyPost_ret (results_ct rfl _ _ gb493 23 #[.int .i64 0, .int .i64 0] (0, 0) _ rfl (by (with_reducible repeat (first | refine blk_drewN ?_ _ | refine blk_drew ?_ | refine blk_alloc ?_ _)); refine blk_put (cs := #[.int .i64 0, .int .i64 0]) ?_ 1 _ rfl; (with_reducible repeat (first | refine blk_drewN ?_ _ | refine blk_drew ?_ | refine blk_alloc ?_ _)); refine blk_put (cs := #[.int .i64 0, .int .i64 0]) ?_ 0 _ rfl; (with_reducible repeat (first | refine blk_drewN ?_ _ | refine blk_drew ?_ | refine blk_alloc ?_ _)); exact BK493.out) Tryd.underlying23 rfl (by kernel_rfl)) rfl ?_
            exact ⟨by first | rfl | (simp [errW_none, errW_some] <;> rfl) | (simp [*, errW_none, errW_some] <;> rfl), fa⟩
          · rw [if_neg c9] at H
            have c9b0 : decide (x7_5 < 0) = false := decide_eq_false c9
            clear c9
            by_cases c11 : t496 = true
            · subst c11
              have H1 : ((fleuronref01_whole.f kj5 t495 5).bind fun t498 => (if t498 < 0 then (some (0, 0, 30)) else (fleuronref01_Decimal.l0 kj5 t495 x7_5 1 t498 0))) = some (r1, r2, r3) := by rw [if_pos rfl] at H; exact H
              clear H
              have H := H1
              clear H1
              replace H := Option.bind_eq_some_iff.mp H
              obtain ⟨t498, A120, H⟩ := H
              replace H : (if t498 < 0 then (some (0, 0, 30)) else (fleuronref01_Decimal.l0 kj5 t495 x7_5 1 t498 0)) = some (r1, r2, r3) := H
              have A12 := Fa.mk A120
              clear A120
              by_cases c13 : t498 < 0
              · rw [if_pos c13] at H
                have c13b0 : decide (t498 < 0) = true := decide_eq_true c13
                clear c13
                simp only [Option.some.injEq, Prod.mk.injEq] at H
                obtain ⟨rfl, rfl, rfl⟩ := H
                go_wp2_with (first | ((with_reducible refine gate_callee (f := 62) rfl ?_); refine goesA (some 30) rfl rfl Tryd.func62 (by kernel_rfl) rfl #[.string t495, .int .i64 5] rfl ?_; (with_reducible refine (fleuronref01_whole.calls kj5 t495 5 t498 _ A12.out).mono ?_); rintro e w' ⟨rfl, ⟨nd, rfl⟩⟩; refine ⟨_, rfl, ?_⟩; (try (rw [drewN_self wc]; generalize hq_ : World.drewN wc _ = wc; have n0_ : Fa (wc.heap[gb493]? = some (.cells #[.int .i64 0, .int .i64 0] 23 (0, 0))) := ⟨by rw [← hq_]; exact fa⟩; have n1_ : Fa (Below w.heap.size w wc) := ⟨by rw [← hq_]; exact fa⟩; clear BK493 HB hq_; have BK493 := n0_; have HB := n1_; clear n0_ n1_)); have hcz14_0 : wc.cell? ⟨gb493, 0, none⟩ = some (.int .i64 0) := (blk_cell BK493.out 0).trans rfl; have hcz14_1 : wc.cell? ⟨gb493, 1, none⟩ = some (.int .i64 0) := (blk_cell BK493.out 1).trans rfl; have hfz14_0 := blk_frozen BK493.out 0; have hfz14_1 := blk_frozen BK493.out 1))
                refine bodyPost_ret (results_ct rfl _ _ gb493 23 #[.int .i64 0, .int .i64 0] (0, 0) _ rfl (by (with_reducible repeat (first | refine blk_drewN ?_ _ | refine blk_drew ?_ | refine blk_alloc ?_ _)); refine blk_put (cs := #[.int .i64 0, .int .i64 0]) ?_ 1 _ rfl; (with_reducible repeat (first | refine blk_drewN ?_ _ | refine blk_drew ?_ | refine blk_alloc ?_ _)); refine blk_put (cs := #[.int .i64 0, .int .i64 0]) ?_ 0 _ rfl; (with_reducible repeat (first | refine blk_drewN ?_ _ | refine blk_drew ?_ | refine blk_alloc ?_ _)); exact BK493.out) Tryd.underlying23 rfl (by kernel_rfl)) rfl ?_
                exact ⟨by first | rfl | (simp [errW_none, errW_some] <;> rfl) | (simp [*, errW_none, errW_some] <;> rfl), fa⟩
              · rw [if_neg c13] at H
                have c13b0 : decide (t498 < 0) = false := decide_eq_false c13
                clear c13
                have H' := Fa.mk H
                clear H
                go_wp2_with (first | ((with_reducible refine gate_callee (f := 62) rfl ?_); refine goesA (some 30) rfl rfl Tryd.func62 (by kernel_rfl) rfl #[.string t495, .int .i64 5] rfl ?_; (with_reducible refine (fleuronref01_whole.calls kj5 t495 5 t498 _ A12.out).mono ?_); rintro e w' ⟨rfl, ⟨nd, rfl⟩⟩; refine ⟨_, rfl, ?_⟩))
                go_loopg [8, 10] kj5 (fun kq v8 v10 w' => ∃ (x8_3 : Int) (x10_3 : Int), v8 = .int .i64 x8_3 ∧ v10 = .int .i64 x10_3 ∧ Fa (fleuronref01_Decimal.l0 kq t495 x7_5 x8_3 t498 x10_3 = some (r1, r2, r3)) ∧ Fa (kq ≤ kj5) ∧ Fa (w'.heap[gb493]? = some (.cells #[.int .i64 0, .int .i64 0] 23 (0, 0))) ∧ Fa (Below w.heap.size w w'))
                case atStart => exact ⟨(1), (0), (by first | rfl | (simp; done) | (simp [*]; done)), (by first | rfl | (simp; done) | (simp [*]; done)), H', ⟨Nat.le_refl _⟩, ⟨by (with_reducible repeat (first | refine blk_drewN ?_ _ | refine blk_drew ?_ | refine blk_alloc ?_ _)); exact BK493.out⟩, ⟨fa⟩⟩
                case round =>
                  clear H'
                  try clear c1
                  try clear p2
                  try clear c3
                  try clear c5
                  try clear c5b0
                  try clear c5b1
                  try clear c6
                  try clear c7
                  try clear c9
                  try clear c9b0
                  try clear c11
                  try clear c13
                  try clear c13b0
                  try clear hcz10_0
                  try clear hcz10_1
                  try clear hcz14_0
                  try clear hcz14_1
                  try clear hfz10_0
                  try clear hfz10_1
                  try clear hfz14_0
                  try clear hfz14_1
                  try clear p2
                  obtain ⟨x8_3, x10_3, rfl, rfl, HA, HK3, BK493, HB⟩ := hrel
                  cases gk with
                  | zero => exact absurd HA.out (by simp [fleuronref01_Decimal.l0])
                  | succ k3 =>
                    have H := HA.out
                    clear HA
                    simp only [fleuronref01_Decimal.l0] at H
                    by_cases c15 : x10_3 < (t495.size : Int)
                    · rw [if_pos c15] at H
                      have c15b0 : decide (x10_3 < (t495.size : Int)) = true := decide_eq_true c15
                      clear c15
                      have H' := Fa.mk H
                      clear H
                      go_wp2
                      go_roundg k3
                      case measure => have := HJ2.out; have := HJ5.out; have := HK3.out; omega
                      case rel => exact ⟨(wrap64 (x8_3 * 10)), (wrap64 (x10_3 + 1)), (by first | rfl | (simp; done) | (simp [*]; done)), (by first | rfl | (simp; done) | (simp [*]; done)), H', ⟨by have := HJ2.out; have := HJ5.out; have := HK3.out; omega⟩, ⟨by (with_reducible repeat (first | refine blk_drewN ?_ _ | refine blk_drew ?_ | refine blk_alloc ?_ _)); exact BK493.out⟩, ⟨fa⟩⟩
                    · rw [if_neg c15] at H
                      have c15b0 : decide (x10_3 < (t495.size : Int)) = false := decide_eq_false c15
                      clear c15
                      replace H := Option.bind_eq_some_iff.mp H
                      obtain ⟨⟨t499, t500, t501⟩, A160, H⟩ := H
                      replace H : (some (t499, t500, t501)) = some (r1, r2, r3) := H
                      have A16 := Fa.mk A160
                      clear A160
                      simp only [Option.some.injEq, Prod.mk.injEq] at H
                      obtain ⟨rfl, rfl, rfl⟩ := H
                      go_wp2_with (first | ((with_reducible refine gate_callee (f := 14) rfl ?_); refine goesA (some 49) rfl rfl Tryd.func14 (by kernel_rfl) rfl #[.int .i64 (wrap64 ((wrap64 (x7_5 * x8_3)) + t498)), .int .i64 x8_3] rfl ?_; (with_reducible refine (fleuronref01_Make.calls k3 (wrap64 ((wrap64 (x7_5 * x8_3)) + t498)) x8_3 t499 t500 t501 _ A16.out).mono ?_); rintro e w17 ⟨rfl, hb⟩; refine ⟨_, rfl, ?_⟩; have n0_ := Fa.mk (blk_below (g := gb493) (o := .cells #[.int .i64 0, .int .i64 0] 23 (0, 0)) fa hb); have n1_ := Fa.mk (bst w hb); clear BK493; clear HB; have BK493 := n0_; have HB := n1_; clear n0_ n1_; (try clear hb); (try clear hb2); (try clear hk); (try clear hi); have hcz18_0 : w17.cell? ⟨gb493, 0, none⟩ = some (.int .i64 0) := (blk_cell BK493.out 0).trans rfl; have hcz18_1 : w17.cell? ⟨gb493, 1, none⟩ = some (.int .i64 0) := (blk_cell BK493.out 1).trans rfl; have hfz18_0 := blk_frozen BK493.out 0; have hfz18_1 := blk_frozen BK493.out 1))
                      refine bodyPost_ret (results_ct rfl _ _ gb493 23 #[.int .i64 t499, .int .i64 t500] (0, 0) _ rfl (by (with_reducible repeat (first | refine blk_drewN ?_ _ | refine blk_drew ?_ | refine blk_alloc ?_ _)); refine blk_put (cs := #[.int .i64 t499, .int .i64 0]) ?_ 1 _ rfl; (with_reducible repeat (first | refine blk_drewN ?_ _ | refine blk_drew ?_ | refine blk_alloc ?_ _)); refine blk_put (cs := #[.int .i64 0, .int .i64 0]) ?_ 0 _ rfl; (with_reducible repeat (first | refine blk_drewN ?_ _ | refine blk_drew ?_ | refine blk_alloc ?_ _)); exact BK493.out) Tryd.underlying23 rfl (by kernel_rfl)) rfl ?_
                      exact ⟨by first | rfl | (simp [errW_none, errW_some] <;> rfl) | (simp [*, errW_none, errW_some] <;> rfl), fa⟩
            · replace c11 := Bool.eq_false_iff.mpr c11
              subst c11
              have H1 : ((fleuronref01_Make.f kj5 x7_5 1).bind fun bt502 => (some (bt502.1, bt502.2.1, bt502.2.2))) = some (r1, r2, r3) := by rw [if_neg (show ¬ (false = true) by decide)] at H; exact H
              clear H
              have H := H1
              clear H1
              replace H := Option.bind_eq_some_iff.mp H
              obtain ⟨⟨t502, t503, t504⟩, A190, H⟩ := H
              replace H : (some (t502, t503, t504)) = some (r1, r2, r3) := H
              have A19 := Fa.mk A190
              clear A190
              simp only [Option.some.injEq, Prod.mk.injEq] at H
              obtain ⟨rfl, rfl, rfl⟩ := H
              go_wp2_with (first | ((with_reducible refine gate_callee (f := 14) rfl ?_); refine goesA (some 49) rfl rfl Tryd.func14 (by kernel_rfl) rfl #[.int .i64 x7_5, .int .i64 1] rfl ?_; (with_reducible refine (fleuronref01_Make.calls kj5 x7_5 1 t502 t503 t504 _ A19.out).mono ?_); rintro e w20 ⟨rfl, hb⟩; refine ⟨_, rfl, ?_⟩; have n0_ := Fa.mk (blk_below (g := gb493) (o := .cells #[.int .i64 0, .int .i64 0] 23 (0, 0)) fa hb); have n1_ := Fa.mk (bst w hb); clear BK493; clear HB; have BK493 := n0_; have HB := n1_; clear n0_ n1_; (try clear hb); (try clear hb2); (try clear hk); (try clear hi); have hcz21_0 : w20.cell? ⟨gb493, 0, none⟩ = some (.int .i64 0) := (blk_cell BK493.out 0).trans rfl; have hcz21_1 : w20.cell? ⟨gb493, 1, none⟩ = some (.int .i64 0) := (blk_cell BK493.out 1).trans rfl; have hfz21_0 := blk_frozen BK493.out 0; have hfz21_1 := blk_frozen BK493.out 1))
              refine bodyPost_ret (results_ct rfl _ _ gb493 23 #[.int .i64 t502, .int .i64 t503] (0, 0) _ rfl (by (with_reducible repeat (first | refine blk_drewN ?_ _ | refine blk_drew ?_ | refine blk_alloc ?_ _)); refine blk_put (cs := #[.int .i64 t502, .int .i64 0]) ?_ 1 _ rfl; (with_reducible repeat (first | refine blk_drewN ?_ _ | refine blk_drew ?_ | refine blk_alloc ?_ _)); refine blk_put (cs := #[.int .i64 0, .int .i64 0]) ?_ 0 _ rfl; (with_reducible repeat (first | refine blk_drewN ?_ _ | refine blk_drew ?_ | refine blk_alloc ?_ _)); exact BK493.out) Tryd.underlying23 rfl (by kernel_rfl)) rfl ?_
              exact ⟨by first | rfl | (simp [errW_none, errW_some] <;> rfl) | (simp [*, errW_none, errW_some] <;> rfl), fa⟩

/-! ### fleuronlaw01_NumTexts: function 8 -/
def fleuronlaw01_NumTexts.f (k : Nat) (a0_0 : Int) (a0_1 : Int) (a1 : ByteArray) : Option (Bool) := if (a1.size : Int) > 10000 then ((fleuronlaw01_awake.f k).bind fun t506 => (some t506)) else ((num_Text.f k a0_0 a0_1).bind fun bt507 => ((fleuronref01_Text.f k a0_0 a0_1).bind fun bt509 => ((num_Parse.f k a1).bind fun bt511 => ((fleuronref01_Parse.f k a1).bind fun bt515 => ((num_Decimal.f k a1).bind fun bt519 => ((fleuronref01_Decimal.f k a1).bind fun bt523 => (if bt507.1.toList = bt509.1.toList then (if bt507.2 = bt509.2 then (if (bt511.1 == bt515.1 && (bt511.2.1 == bt515.2.1)) = true then (if bt511.2.2 = bt515.2.2 then (if (bt519.1 == bt523.1 && (bt519.2.1 == bt523.2.1)) = true then (if bt519.2.2 = bt523.2.2 then ((fleuronlaw01_awake.f k).bind fun t527 => (some t527)) else (none)) else (none)) else (none)) else (none)) else (none)) else (none))))))))
theorem fleuronlaw01_NumTexts.mono : ∀ a0 a1 a2 k, LeO (fleuronlaw01_NumTexts.f k a0 a1 a2) (fleuronlaw01_NumTexts.f (k + 1) a0 a1 a2) := by
  intro a0 a1 a2 k
  unfold fleuronlaw01_NumTexts.f
  repeat' first
      | (with_reducible exact fleuronlaw01_awake.mono _)
      | (with_reducible exact fleuronref01_Decimal.mono _ _)
      | (with_reducible exact fleuronref01_Parse.mono _ _)
      | (with_reducible exact fleuronref01_Text.mono _ _ _)
      | (with_reducible exact num_Decimal.mono _ _)
      | (with_reducible exact num_Parse.mono _ _)
      | (with_reducible exact num_Text.mono _ _ _)
      | (with_reducible exact LeO.refl _)
      | (with_reducible exact LeO.none _)
      | (with_reducible refine LeO.ite ?_ ?_)
      | (with_reducible refine LeO.bind ?_ (fun _ => ?_))
      | exact fleuronlaw01_awake.mono _
      | exact fleuronref01_Decimal.mono _ _
      | exact fleuronref01_Parse.mono _ _
      | exact fleuronref01_Text.mono _ _ _
      | exact num_Decimal.mono _ _
      | exact num_Parse.mono _ _
      | exact num_Text.mono _ _ _
      | exact LeO.none _
      | refine LeO.ite ?_ ?_
      | refine LeO.bind ?_ (fun _ => ?_)
set_option maxHeartbeats 8000000 in
set_option maxRecDepth 100000 in
theorem fleuronlaw01_NumTexts.calls (k : Nat) (a0_0 : Int) (a0_1 : Int) (a1 : ByteArray) (r : Bool) (w : World) (h : fleuronlaw01_NumTexts.f k a0_0 a0_1 a1 = some r) (hG : Glob w) :
    Calls Tryd.prog 8 #[.agg #[.int .i64 a0_0, .int .i64 a0_1], .string a1] w fun e w' => e = .returned (.bool r) ∧ Below w.heap.size w w' := by
  have HG := Fa.mk hG
  clear hG
  have hu23 := Tryd.underlying23
  have HB := Fa.mk (Below.refl w.heap.size w)
  have H : (if (a1.size : Int) > 10000 then ((fleuronlaw01_awake.f k).bind fun t506 => (some t506)) else ((num_Text.f k a0_0 a0_1).bind fun bt507 => ((fleuronref01_Text.f k a0_0 a0_1).bind fun bt509 => ((num_Parse.f k a1).bind fun bt511 => ((fleuronref01_Parse.f k a1).bind fun bt515 => ((num_Decimal.f k a1).bind fun bt519 => ((fleuronref01_Decimal.f k a1).bind fun bt523 => (if bt507.1.toList = bt509.1.toList then (if bt507.2 = bt509.2 then (if (bt511.1 == bt515.1 && (bt511.2.1 == bt515.2.1)) = true then (if bt511.2.2 = bt515.2.2 then (if (bt519.1 == bt523.1 && (bt519.2.1 == bt523.2.1)) = true then (if bt519.2.2 = bt523.2.2 then ((fleuronlaw01_awake.f k).bind fun t527 => (some t527)) else (none)) else (none)) else (none)) else (none)) else (none)) else (none))))))))) = some r := h
  clear h
  by_cases c3 : (a1.size : Int) > 10000
  · rw [if_pos c3] at H
    have c3b0 : decide (10000 < (a1.size : Int)) = true := decide_eq_true c3
    have c3b1 : decide (10000 < a1.size) = true := decide_eq_true (by omega)
    clear c3
    replace H := Option.bind_eq_some_iff.mp H
    obtain ⟨t506, A40, H⟩ := H
    replace H : (some t506) = some r := H
    have A4 := Fa.mk A40
    clear A40
    obtain rfl := Option.some.inj H
    go_enter Tryd.func8, Tryd.ntmps8
    go_wp2_with (first | ((with_reducible refine gate_dst (N := 2) rfl ?_); refine boxF (N := 2) (cs := #[.int .i64 a0_0, .int .i64 a0_1]) (t := 23) ?_; intro gb505 hg w5 hbox hb; have n0_ := Fa.mk (bst w hb); have n1_ := Fa.mk (hbox); have n2_ := Fa.mk (gle hg : w.heap.size ≤ gb505); have n3_ := n2_; clear HB; have HB := n0_; have BK505 := n1_; have GW505 := n2_; have GE505 := n3_; clear n0_ n1_ n2_ n3_; clear hb hbox hg) | ((with_reducible refine gate_callee (f := 17) rfl ?_); refine goesA (some 20) rfl rfl Tryd.func17 (by kernel_rfl) rfl #[] rfl ?_; (with_reducible refine (fleuronlaw01_awake.calls k  t506 _ A4.out (HG.out.below fa)).mono ?_); rintro e w6 ⟨rfl, hb⟩; refine ⟨_, rfl, ?_⟩; have n0_ := Fa.mk (blk_below (g := gb505) (o := .cells #[.int .i64 a0_0, .int .i64 a0_1] 23 (0, 0)) fa hb); have n1_ := Fa.mk (bst w hb); clear BK505; clear HB; have BK505 := n0_; have HB := n1_; clear n0_ n1_; (try clear hb); (try clear hb2); (try clear hk); (try clear hi)))
    go_ret
    exact ⟨by first | rfl | (simp [errW_none, errW_some] <;> rfl) | (simp [*, errW_none, errW_some] <;> rfl), fa⟩
  · rw [if_neg c3] at H
    have c3b0 : decide (10000 < (a1.size : Int)) = false := decide_eq_false c3
    have c3b1 : decide (10000 < a1.size) = false := decide_eq_false (by omega)
    clear c3
    replace H := Option.bind_eq_some_iff.mp H
    obtain ⟨⟨t507, t508⟩, A70, H⟩ := H
    replace H : ((fleuronref01_Text.f k a0_0 a0_1).bind fun bt509 => ((num_Parse.f k a1).bind fun bt511 => ((fleuronref01_Parse.f k a1).bind fun bt515 => ((num_Decimal.f k a1).bind fun bt519 => ((fleuronref01_Decimal.f k a1).bind fun bt523 => (if t507.toList = bt509.1.toList then (if t508 = bt509.2 then (if (bt511.1 == bt515.1 && (bt511.2.1 == bt515.2.1)) = true then (if bt511.2.2 = bt515.2.2 then (if (bt519.1 == bt523.1 && (bt519.2.1 == bt523.2.1)) = true then (if bt519.2.2 = bt523.2.2 then ((fleuronlaw01_awake.f k).bind fun t527 => (some t527)) else (none)) else (none)) else (none)) else (none)) else (none)) else (none))))))) = some r := H
    have A7 := Fa.mk A70
    clear A70
    replace H := Option.bind_eq_some_iff.mp H
    obtain ⟨⟨t509, t510⟩, A80, H⟩ := H
    replace H : ((num_Parse.f k a1).bind fun bt511 => ((fleuronref01_Parse.f k a1).bind fun bt515 => ((num_Decimal.f k a1).bind fun bt519 => ((fleuronref01_Decimal.f k a1).bind fun bt523 => (if t507.toList = t509.toList then (if t508 = t510 then (if (bt511.1 == bt515.1 && (bt511.2.1 == bt515.2.1)) = true then (if bt511.2.2 = bt515.2.2 then (if (bt519.1 == bt523.1 && (bt519.2.1 == bt523.2.1)) = true then (if bt519.2.2 = bt523.2.2 then ((fleuronlaw01_awake.f k).bind fun t527 => (some t527)) else (none)) else (none)) else (none)) else (none)) else (none)) else (none)))))) = some r := H
    have A8 := Fa.mk A80
    clear A80
    replace H := Option.bind_eq_some_iff.mp H
    obtain ⟨⟨t511, t512, t513⟩, A90, H⟩ := H
    replace H : ((fleuronref01_Parse.f k a1).bind fun bt515 => ((num_Decimal.f k a1).bind fun bt519 => ((fleuronref01_Decimal.f k a1).bind fun bt523 => (if t507.toList = t509.toList then (if t508 = t510 then (if (t511 == bt515.1 && (t512 == bt515.2.1)) = true then (if t513 = bt515.2.2 then (if (bt519.1 == bt523.1 && (bt519.2.1 == bt523.2.1)) = true then (if bt519.2.2 = bt523.2.2 then ((fleuronlaw01_awake.f k).bind fun t527 => (some t527)) else (none)) else (none)) else (none)) else (none)) else (none)) else (none))))) = some r := H
    have A9 := Fa.mk A90
    clear A90
    replace H := Option.bind_eq_some_iff.mp H
    obtain ⟨⟨t515, t516, t517⟩, A100, H⟩ := H
    replace H : ((num_Decimal.f k a1).bind fun bt519 => ((fleuronref01_Decimal.f k a1).bind fun bt523 => (if t507.toList = t509.toList then (if t508 = t510 then (if (t511 == t515 && (t512 == t516)) = true then (if t513 = t517 then (if (bt519.1 == bt523.1 && (bt519.2.1 == bt523.2.1)) = true then (if bt519.2.2 = bt523.2.2 then ((fleuronlaw01_awake.f k).bind fun t527 => (some t527)) else (none)) else (none)) else (none)) else (none)) else (none)) else (none)))) = some r := H
    have A10 := Fa.mk A100
    clear A100
    replace H := Option.bind_eq_some_iff.mp H
    obtain ⟨⟨t519, t520, t521⟩, A110, H⟩ := H
    replace H : ((fleuronref01_Decimal.f k a1).bind fun bt523 => (if t507.toList = t509.toList then (if t508 = t510 then (if (t511 == t515 && (t512 == t516)) = true then (if t513 = t517 then (if (t519 == bt523.1 && (t520 == bt523.2.1)) = true then (if t521 = bt523.2.2 then ((fleuronlaw01_awake.f k).bind fun t527 => (some t527)) else (none)) else (none)) else (none)) else (none)) else (none)) else (none))) = some r := H
    have A11 := Fa.mk A110
    clear A110
    replace H := Option.bind_eq_some_iff.mp H
    obtain ⟨⟨t523, t524, t525⟩, A120, H⟩ := H
    replace H : (if t507.toList = t509.toList then (if t508 = t510 then (if (t511 == t515 && (t512 == t516)) = true then (if t513 = t517 then (if (t519 == t523 && (t520 == t524)) = true then (if t521 = t525 then ((fleuronlaw01_awake.f k).bind fun t527 => (some t527)) else (none)) else (none)) else (none)) else (none)) else (none)) else (none)) = some r := H
    have A12 := Fa.mk A120
    clear A120
    by_cases c13 : t507.toList = t509.toList
    · rw [if_pos c13] at H
      have c13b0 : (t507.toList == t509.toList) = true := beq_iff_eq.mpr c13
      have c13b1 : (t507.toList != t509.toList) = false := bne_eq_false_iff_eq.mpr c13
      clear c13
      by_cases c14 : t508 = t510
      · rw [if_pos c14] at H
        have c14b0 : (t508 == t510) = true := beq_iff_eq.mpr c14
        have c14b1 : (t508 != t510) = false := bne_eq_false_iff_eq.mpr c14
        clear c14
        by_cases c15 : (t511 == t515 && (t512 == t516)) = true
        · rw [if_pos c15] at H
          have c15b0 : (t511 == t515 && (t512 == t516)) = true := c15
          (try (have c15b1 : decide (t511 = t515 && (t512 == t516)) = true := by simpa using c15))
          (try (have c15b2 : (t511 == t515 && (t512 == t516)) = true := by simpa using c15))
          clear c15
          by_cases c16 : t513 = t517
          · rw [if_pos c16] at H
            have c16b0 : (t513 == t517) = true := beq_iff_eq.mpr c16
            have c16b1 : (t513 != t517) = false := bne_eq_false_iff_eq.mpr c16
            clear c16
            by_cases c17 : (t519 == t523 && (t520 == t524)) = true
            · rw [if_pos c17] at H
              have c17b0 : (t519 == t523 && (t520 == t524)) = true := c17
              (try (have c17b1 : decide (t519 = t523 && (t520 == t524)) = true := by simpa using c17))
              (try (have c17b2 : (t519 == t523 && (t520 == t524)) = true := by simpa using c17))
              clear c17
              by_cases c18 : t521 = t525
              · rw [if_pos c18] at H
                have c18b0 : (t521 == t525) = true := beq_iff_eq.mpr c18
                have c18b1 : (t521 != t525) = false := bne_eq_false_iff_eq.mpr c18
                clear c18
                replace H := Option.bind_eq_some_iff.mp H
                obtain ⟨t527, A190, H⟩ := H
                replace H : (some t527) = some r := H
                have A19 := Fa.mk A190
                clear A190
                obtain rfl := Option.some.inj H
                go_enter Tryd.func8, Tryd.ntmps8
                go_wp2_with (first | ((with_reducible refine gate_dst (N := 2) rfl ?_); refine boxF (N := 2) (cs := #[.int .i64 a0_0, .int .i64 a0_1]) (t := 23) ?_; intro gb505 hg w20 hbox hb; have n0_ := Fa.mk (bst w hb); have n1_ := Fa.mk (hbox); have n2_ := Fa.mk (gle hg : w.heap.size ≤ gb505); have n3_ := n2_; clear HB; have HB := n0_; have BK505 := n1_; have GW505 := n2_; have GE505 := n3_; clear n0_ n1_ n2_ n3_; clear hb hbox hg; have hcz21_0 : w20.cell? ⟨gb505, 0, none⟩ = some (.int .i64 a0_0) := (blk_cell BK505.out 0).trans rfl; have hcz21_1 : w20.cell? ⟨gb505, 1, none⟩ = some (.int .i64 a0_1) := (blk_cell BK505.out 1).trans rfl; have hfz21_0 := blk_frozen BK505.out 0; have hfz21_1 := blk_frozen BK505.out 1) | ((with_reducible refine gate_callee (f := 32) rfl ?_); refine goesA (some 23) rfl rfl Tryd.func32 (by kernel_rfl) rfl #[.agg #[.int .i64 a0_0, .int .i64 a0_1]] rfl ?_; (with_reducible refine (num_Text.calls k a0_0 a0_1 t507 t508 _ A7.out (HG.out.below fa)).mono ?_); rintro e w22 ⟨rfl, hb⟩; refine ⟨_, rfl, ?_⟩; have n0_ := Fa.mk (blk_below (g := gb505) (o := .cells #[.int .i64 a0_0, .int .i64 a0_1] 23 (0, 0)) fa hb); have n1_ := Fa.mk (bst w hb); clear BK505; clear HB; have BK505 := n0_; have HB := n1_; clear n0_ n1_; (try clear hb); (try clear hb2); (try clear hk); (try clear hi); have hcz23_0 : w22.cell? ⟨gb505, 0, none⟩ = some (.int .i64 a0_0) := (blk_cell BK505.out 0).trans rfl; have hcz23_1 : w22.cell? ⟨gb505, 1, none⟩ = some (.int .i64 a0_1) := (blk_cell BK505.out 1).trans rfl; have hfz23_0 := blk_frozen BK505.out 0; have hfz23_1 := blk_frozen BK505.out 1) | ((with_reducible refine gate_callee (f := 33) rfl ?_); refine goesA (some 28) rfl rfl Tryd.func33 (by kernel_rfl) rfl #[.agg #[.int .i64 a0_0, .int .i64 a0_1]] rfl ?_; (with_reducible refine (fleuronref01_Text.calls k a0_0 a0_1 t509 t510 _ A8.out).mono ?_); rintro e w24 ⟨rfl, hb⟩; refine ⟨_, rfl, ?_⟩; have n0_ := Fa.mk (blk_below (g := gb505) (o := .cells #[.int .i64 a0_0, .int .i64 a0_1] 23 (0, 0)) fa hb); have n1_ := Fa.mk (bst w hb); clear BK505; clear HB; have BK505 := n0_; have HB := n1_; clear n0_ n1_; (try clear hb); (try clear hb2); (try clear hk); (try clear hi)) | ((with_reducible refine gate_callee (f := 34) rfl ?_); refine goesA (some 33) rfl rfl Tryd.func34 (by kernel_rfl) rfl #[.string a1] rfl ?_; (with_reducible refine (num_Parse.calls k a1 t511 t512 t513 _ A9.out (HG.out.below fa)).mono ?_); rintro e w25 ⟨rfl, hb⟩; refine ⟨_, rfl, ?_⟩; have n0_ := Fa.mk (blk_below (g := gb505) (o := .cells #[.int .i64 a0_0, .int .i64 a0_1] 23 (0, 0)) fa hb); have n1_ := Fa.mk (bst w hb); clear BK505; clear HB; have BK505 := n0_; have HB := n1_; clear n0_ n1_; (try clear hb); (try clear hb2); (try clear hk); (try clear hi)) | ((with_reducible refine gate_dst (N := 9) rfl ?_); refine boxF (N := 9) (cs := #[.int .i64 0, .int .i64 0]) (t := 23) ?_; intro gb514 hg w26 hbox hb; have n0_ := Fa.mk (blk_below (g := gb505) (o := .cells #[.int .i64 a0_0, .int .i64 a0_1] 23 (0, 0)) fa hb); have n1_ := Fa.mk (bst w hb); have n2_ := Fa.mk (hbox); have n3_ := Fa.mk (gle hg : w.heap.size ≤ gb514); have n4_ := n3_; have n5_ := Fa.mk (gne (o := .cells #[.int .i64 a0_0, .int .i64 a0_1] 23 (0, 0)) hg : gb505 ≠ gb514); have n6_ := Fa.mk n5_.out.symm; clear BK505; clear HB; have BK505 := n0_; have HB := n1_; have BK514 := n2_; have GW514 := n3_; have GE514 := n4_; have NB505_514 := n5_; have NB514_505 := n6_; clear n0_ n1_ n2_ n3_ n4_ n5_ n6_; clear hb hbox hg; have hnb27 := NB514_505.out; have hnc27 := NB505_514.out; have hcz28_0 : w26.cell? ⟨gb514, 0, none⟩ = some (.int .i64 0) := (blk_cell BK514.out 0).trans rfl; have hcz28_1 : w26.cell? ⟨gb514, 1, none⟩ = some (.int .i64 0) := (blk_cell BK514.out 1).trans rfl; have hfz28_0 := blk_frozen BK514.out 0; have hfz28_1 := blk_frozen BK514.out 1) | ((with_reducible refine gate_callee (f := 35) rfl ?_); refine goesA (some 38) rfl rfl Tryd.func35 (by kernel_rfl) rfl #[.string a1] rfl ?_; (with_reducible refine (fleuronref01_Parse.calls k a1 t515 t516 t517 _ A10.out).mono ?_); rintro e w29 ⟨rfl, hb⟩; refine ⟨_, rfl, ?_⟩; have n0_ := Fa.mk (blk_below (g := gb505) (o := .cells #[.int .i64 a0_0, .int .i64 a0_1] 23 (0, 0)) (by (with_reducible repeat (first | refine blk_drewN ?_ _ | refine blk_drew ?_ | refine blk_alloc ?_ _)); refine blk_far ?_ NB505_514.out _; (with_reducible repeat (first | refine blk_drewN ?_ _ | refine blk_drew ?_ | refine blk_alloc ?_ _)); refine blk_far ?_ NB505_514.out _; (with_reducible repeat (first | refine blk_drewN ?_ _ | refine blk_drew ?_ | refine blk_alloc ?_ _)); exact BK505.out) hb); have n1_ := Fa.mk (blk_below (g := gb514) (o := .cells #[.int .i64 t511, .int .i64 t512] 23 (0, 0)) (by (with_reducible repeat (first | refine blk_drewN ?_ _ | refine blk_drew ?_ | refine blk_alloc ?_ _)); refine blk_put (cs := #[.int .i64 t511, .int .i64 0]) ?_ 1 _ rfl; (with_reducible repeat (first | refine blk_drewN ?_ _ | refine blk_drew ?_ | refine blk_alloc ?_ _)); refine blk_put (cs := #[.int .i64 0, .int .i64 0]) ?_ 0 _ rfl; (with_reducible repeat (first | refine blk_drewN ?_ _ | refine blk_drew ?_ | refine blk_alloc ?_ _)); exact BK514.out) hb); have n2_ := Fa.mk (bst w hb); clear BK505; clear BK514; clear HB; have BK505 := n0_; have BK514 := n1_; have HB := n2_; clear n0_ n1_ n2_; (try clear hb); (try clear hb2); (try clear hk); (try clear hi)) | ((with_reducible refine gate_dst (N := 11) rfl ?_); refine boxF (N := 11) (cs := #[.int .i64 0, .int .i64 0]) (t := 23) ?_; intro gb518 hg w30 hbox hb; have n0_ := Fa.mk (blk_below (g := gb505) (o := .cells #[.int .i64 a0_0, .int .i64 a0_1] 23 (0, 0)) fa hb); have n1_ := Fa.mk (blk_below (g := gb514) (o := .cells #[.int .i64 t511, .int .i64 t512] 23 (0, 0)) fa hb); have n2_ := Fa.mk (bst w hb); have n3_ := Fa.mk (hbox); have n4_ := Fa.mk (gle hg : w.heap.size ≤ gb518); have n5_ := n4_; have n6_ := Fa.mk (gne (o := .cells #[.int .i64 a0_0, .int .i64 a0_1] 23 (0, 0)) hg : gb505 ≠ gb518); have n7_ := Fa.mk n6_.out.symm; have n8_ := Fa.mk (gne (o := .cells #[.int .i64 t511, .int .i64 t512] 23 (0, 0)) hg : gb514 ≠ gb518); have n9_ := Fa.mk n8_.out.symm; clear BK505; clear BK514; clear HB; have BK505 := n0_; have BK514 := n1_; have HB := n2_; have BK518 := n3_; have GW518 := n4_; have GE518 := n5_; have NB505_518 := n6_; have NB518_505 := n7_; have NB514_518 := n8_; have NB518_514 := n9_; clear n0_ n1_ n2_ n3_ n4_ n5_ n6_ n7_ n8_ n9_; clear hb hbox hg; have hnb31 := NB518_505.out; have hnc31 := NB505_518.out; have hnb32 := NB518_514.out; have hnc32 := NB514_518.out; have hcz33_0 : w30.cell? ⟨gb518, 0, none⟩ = some (.int .i64 0) := (blk_cell BK518.out 0).trans rfl; have hcz33_1 : w30.cell? ⟨gb518, 1, none⟩ = some (.int .i64 0) := (blk_cell BK518.out 1).trans rfl; have hfz33_0 := blk_frozen BK518.out 0; have hfz33_1 := blk_frozen BK518.out 1) | ((with_reducible refine gate_callee (f := 36) rfl ?_); refine goesA (some 43) rfl rfl Tryd.func36 (by kernel_rfl) rfl #[.string a1] rfl ?_; (with_reducible refine (num_Decimal.calls k a1 t519 t520 t521 _ A11.out (HG.out.below fa)).mono ?_); rintro e w34 ⟨rfl, hb⟩; refine ⟨_, rfl, ?_⟩; have n0_ := Fa.mk (blk_below (g := gb505) (o := .cells #[.int .i64 a0_0, .int .i64 a0_1] 23 (0, 0)) (by (with_reducible repeat (first | refine blk_drewN ?_ _ | refine blk_drew ?_ | refine blk_alloc ?_ _)); refine blk_far ?_ NB505_518.out _; (with_reducible repeat (first | refine blk_drewN ?_ _ | refine blk_drew ?_ | refine blk_alloc ?_ _)); refine blk_far ?_ NB505_518.out _; (with_reducible repeat (first | refine blk_drewN ?_ _ | refine blk_drew ?_ | refine blk_alloc ?_ _)); exact BK505.out) hb); have n1_ := Fa.mk (blk_below (g := gb514) (o := .cells #[.int .i64 t511, .int .i64 t512] 23 (0, 0)) (by (with_reducible repeat (first | refine blk_drewN ?_ _ | refine blk_drew ?_ | refine blk_alloc ?_ _)); refine blk_far ?_ NB514_518.out _; (with_reducible repeat (first | refine blk_drewN ?_ _ | refine blk_drew ?_ | refine blk_alloc ?_ _)); refine blk_far ?_ NB514_518.out _; (with_reducible repeat (first | refine blk_drewN ?_ _ | refine blk_drew ?_ | refine blk_alloc ?_ _)); exact BK514.out) hb); have n2_ := Fa.mk (blk_below (g := gb518) (o := .cells #[.int .i64 t515, .int .i64 t516] 23 (0, 0)) (by (with_reducible repeat (first | refine blk_drewN ?_ _ | refine blk_drew ?_ | refine blk_alloc ?_ _)); refine blk_put (cs := #[.int .i64 t515, .int .i64 0]) ?_ 1 _ rfl; (with_reducible repeat (first | refine blk_drewN ?_ _ | refine blk_drew ?_ | refine blk_alloc ?_ _)); refine blk_put (cs := #[.int .i64 0, .int .i64 0]) ?_ 0 _ rfl; (with_reducible repeat (first | refine blk_drewN ?_ _ | refine blk_drew ?_ | refine blk_alloc ?_ _)); exact BK518.out) hb); have n3_ := Fa.mk (bst w hb); clear BK505; clear BK514; clear BK518; clear HB; have BK505 := n0_; have BK514 := n1_; have BK518 := n2_; have HB := n3_; clear n0_ n1_ n2_ n3_; (try clear hb); (try clear hb2); (try clear hk); (try clear hi)) | ((with_reducible refine gate_dst (N := 13) rfl ?_); refine boxF (N := 13) (cs := #[.int .i64 0, .int .i64 0]) (t := 23) ?_; intro gb522 hg w35 hbox hb; have n0_ := Fa.mk (blk_below (g := gb505) (o := .cells #[.int .i64 a0_0, .int .i64 a0_1] 23 (0, 0)) fa hb); have n1_ := Fa.mk (blk_below (g := gb514) (o := .cells #[.int .i64 t511, .int .i64 t512] 23 (0, 0)) fa hb); have n2_ := Fa.mk (blk_below (g := gb518) (o := .cells #[.int .i64 t515, .int .i64 t516] 23 (0, 0)) fa hb); have n3_ := Fa.mk (bst w hb); have n4_ := Fa.mk (hbox); have n5_ := Fa.mk (gle hg : w.heap.size ≤ gb522); have n6_ := n5_; have n7_ := Fa.mk (gne (o := .cells #[.int .i64 a0_0, .int .i64 a0_1] 23 (0, 0)) hg : gb505 ≠ gb522); have n8_ := Fa.mk n7_.out.symm; have n9_ := Fa.mk (gne (o := .cells #[.int .i64 t511, .int .i64 t512] 23 (0, 0)) hg : gb514 ≠ gb522); have n10_ := Fa.mk n9_.out.symm; have n11_ := Fa.mk (gne (o := .cells #[.int .i64 t515, .int .i64 t516] 23 (0, 0)) hg : gb518 ≠ gb522); have n12_ := Fa.mk n11_.out.symm; clear BK505; clear BK514; clear BK518; clear HB; have BK505 := n0_; have BK514 := n1_; have BK518 := n2_; have HB := n3_; have BK522 := n4_; have GW522 := n5_; have GE522 := n6_; have NB505_522 := n7_; have NB522_505 := n8_; have NB514_522 := n9_; have NB522_514 := n10_; have NB518_522 := n11_; have NB522_518 := n12_; clear n0_ n1_ n2_ n3_ n4_ n5_ n6_ n7_ n8_ n9_ n10_ n11_ n12_; clear hb hbox hg; have hnb36 := NB522_505.out; have hnc36 := NB505_522.out; have hnb37 := NB522_514.out; have hnc37 := NB514_522.out; have hnb38 := NB522_518.out; have hnc38 := NB518_522.out; have hcz39_0 : w35.cell? ⟨gb522, 0, none⟩ = some (.int .i64 0) := (blk_cell BK522.out 0).trans rfl; have hcz39_1 : w35.cell? ⟨gb522, 1, none⟩ = some (.int .i64 0) := (blk_cell BK522.out 1).trans rfl; have hfz39_0 := blk_frozen BK522.out 0; have hfz39_1 := blk_frozen BK522.out 1) | ((with_reducible refine gate_callee (f := 37) rfl ?_); refine goesA (some 48) rfl rfl Tryd.func37 (by kernel_rfl) rfl #[.string a1] rfl ?_; (with_reducible refine (fleuronref01_Decimal.calls k a1 t523 t524 t525 _ A12.out).mono ?_); rintro e w40 ⟨rfl, hb⟩; refine ⟨_, rfl, ?_⟩; have n0_ := Fa.mk (blk_below (g := gb505) (o := .cells #[.int .i64 a0_0, .int .i64 a0_1] 23 (0, 0)) (by (with_reducible repeat (first | refine blk_drewN ?_ _ | refine blk_drew ?_ | refine blk_alloc ?_ _)); refine blk_far ?_ NB505_522.out _; (with_reducible repeat (first | refine blk_drewN ?_ _ | refine blk_drew ?_ | refine blk_alloc ?_ _)); refine blk_far ?_ NB505_522.out _; (with_reducible repeat (first | refine blk_drewN ?_ _ | refine blk_drew ?_ | refine blk_alloc ?_ _)); exact BK505.out) hb); have n1_ := Fa.mk (blk_below (g := gb514) (o := .cells #[.int .i64 t511, .int .i64 t512] 23 (0, 0)) (by (with_reducible repeat (first | refine blk_drewN ?_ _ | refine blk_drew ?_ | refine blk_alloc ?_ _)); refine blk_far ?_ NB514_522.out _; (with_reducible repeat (first | refine blk_drewN ?_ _ | refine blk_drew ?_ | refine blk_alloc ?_ _)); refine blk_far ?_ NB514_522.out _; (with_reducible repeat (first | refine blk_drewN ?_ _ | refine blk_drew ?_ | refine blk_alloc ?_ _)); exact BK514.out) hb); have n2_ := Fa.mk (blk_below (g := gb518) (o := .cells #[.int .i64 t515, .int .i64 t516] 23 (0, 0)) (by (with_reducible repeat (first | refine blk_drewN ?_ _ | refine blk_drew ?_ | refine blk_alloc ?_ _)); refine blk_far ?_ NB518_522.out _; (with_reducible repeat (first | refine blk_drewN ?_ _ | refine blk_drew ?_ | refine blk_alloc ?_ _)); refine blk_far ?_ NB518_522.out _; (with_reducible repeat (first | refine blk_drewN ?_ _ | refine blk_drew ?_ | refine blk_alloc ?_ _)); exact BK518.out) hb); have n3_ := Fa.mk (blk_below (g := gb522) (o := .cells #[.int .i64 t519, .int .i64 t520] 23 (0, 0)) (by (with_reducible repeat (first | refine blk_drewN ?_ _ | refine blk_drew ?_ | refine blk_alloc ?_ _)); refine blk_put (cs := #[.int .i64 t519, .int .i64 0]) ?_ 1 _ rfl; (with_reducible repeat (first | refine blk_drewN ?_ _ | refine blk_drew ?_ | refine blk_alloc ?_ _)); refine blk_put (cs := #[.int .i64 0, .int .i64 0]) ?_ 0 _ rfl; (with_reducible repeat (first | refine blk_drewN ?_ _ | refine blk_drew ?_ | refine blk_alloc ?_ _)); exact BK522.out) hb); have n4_ := Fa.mk (bst w hb); clear BK505; clear BK514; clear BK518; clear BK522; clear HB; have BK505 := n0_; have BK514 := n1_; have BK518 := n2_; have BK522 := n3_; have HB := n4_; clear n0_ n1_ n2_ n3_ n4_; (try clear hb); (try clear hb2); (try clear hk); (try clear hi)) | ((with_reducible refine gate_dst (N := 15) rfl ?_); refine boxF (N := 15) (cs := #[.int .i64 0, .int .i64 0]) (t := 23) ?_; intro gb526 hg w41 hbox hb; have n0_ := Fa.mk (blk_below (g := gb505) (o := .cells #[.int .i64 a0_0, .int .i64 a0_1] 23 (0, 0)) fa hb); have n1_ := Fa.mk (blk_below (g := gb514) (o := .cells #[.int .i64 t511, .int .i64 t512] 23 (0, 0)) fa hb); have n2_ := Fa.mk (blk_below (g := gb518) (o := .cells #[.int .i64 t515, .int .i64 t516] 23 (0, 0)) fa hb); have n3_ := Fa.mk (blk_below (g := gb522) (o := .cells #[.int .i64 t519, .int .i64 t520] 23 (0, 0)) fa hb); have n4_ := Fa.mk (bst w hb); have n5_ := Fa.mk (hbox); have n6_ := Fa.mk (gle hg : w.heap.size ≤ gb526); have n7_ := n6_; have n8_ := Fa.mk (gne (o := .cells #[.int .i64 a0_0, .int .i64 a0_1] 23 (0, 0)) hg : gb505 ≠ gb526); have n9_ := Fa.mk n8_.out.symm; have n10_ := Fa.mk (gne (o := .cells #[.int .i64 t511, .int .i64 t512] 23 (0, 0)) hg : gb514 ≠ gb526); have n11_ := Fa.mk n10_.out.symm; have n12_ := Fa.mk (gne (o := .cells #[.int .i64 t515, .int .i64 t516] 23 (0, 0)) hg : gb518 ≠ gb526); have n13_ := Fa.mk n12_.out.symm; have n14_ := Fa.mk (gne (o := .cells #[.int .i64 t519, .int .i64 t520] 23 (0, 0)) hg : gb522 ≠ gb526); have n15_ := Fa.mk n14_.out.symm; clear BK505; clear BK514; clear BK518; clear BK522; clear HB; have BK505 := n0_; have BK514 := n1_; have BK518 := n2_; have BK522 := n3_; have HB := n4_; have BK526 := n5_; have GW526 := n6_; have GE526 := n7_; have NB505_526 := n8_; have NB526_505 := n9_; have NB514_526 := n10_; have NB526_514 := n11_; have NB518_526 := n12_; have NB526_518 := n13_; have NB522_526 := n14_; have NB526_522 := n15_; clear n0_ n1_ n2_ n3_ n4_ n5_ n6_ n7_ n8_ n9_ n10_ n11_ n12_ n13_ n14_ n15_; clear hb hbox hg; have hnb42 := NB526_505.out; have hnc42 := NB505_526.out; have hnb43 := NB526_514.out; have hnc43 := NB514_526.out; have hnb44 := NB526_518.out; have hnc44 := NB518_526.out; have hnb45 := NB526_522.out; have hnc45 := NB522_526.out; have hcz46_0 : w41.cell? ⟨gb526, 0, none⟩ = some (.int .i64 0) := (blk_cell BK526.out 0).trans rfl; have hcz46_1 : w41.cell? ⟨gb526, 1, none⟩ = some (.int .i64 0) := (blk_cell BK526.out 1).trans rfl; have hfz46_0 := blk_frozen BK526.out 0; have hfz46_1 := blk_frozen BK526.out 1; have hcz47_0 : w41.cell? ⟨gb514, 0, none⟩ = some (.int .i64 t511) := (blk_cell BK514.out 0).trans rfl; have hcz47_1 : w41.cell? ⟨gb514, 1, none⟩ = some (.int .i64 t512) := (blk_cell BK514.out 1).trans rfl; have hfz47_0 := blk_frozen BK514.out 0; have hfz47_1 := blk_frozen BK514.out 1; have hcz48_0 : w41.cell? ⟨gb518, 0, none⟩ = some (.int .i64 t515) := (blk_cell BK518.out 0).trans rfl; have hcz48_1 : w41.cell? ⟨gb518, 1, none⟩ = some (.int .i64 t516) := (blk_cell BK518.out 1).trans rfl; have hfz48_0 := blk_frozen BK518.out 0; have hfz48_1 := blk_frozen BK518.out 1; have hcz49_0 : w41.cell? ⟨gb522, 0, none⟩ = some (.int .i64 t519) := (blk_cell BK522.out 0).trans rfl; have hcz49_1 : w41.cell? ⟨gb522, 1, none⟩ = some (.int .i64 t520) := (blk_cell BK522.out 1).trans rfl; have hfz49_0 := blk_frozen BK522.out 0; have hfz49_1 := blk_frozen BK522.out 1) | (go_at_call 17; (with_reducible refine (fleuronlaw01_awake.calls k  t527 _ A19.out (HG.out.below fa)).mono ?_); rintro e w50 ⟨rfl, hb⟩; have n0_ := Fa.mk (blk_below (g := gb505) (o := .cells #[.int .i64 a0_0, .int .i64 a0_1] 23 (0, 0)) (by (with_reducible repeat (first | refine blk_drewN ?_ _ | refine blk_drew ?_ | refine blk_alloc ?_ _)); refine blk_far ?_ NB505_526.out _; (with_reducible repeat (first | refine blk_drewN ?_ _ | refine blk_drew ?_ | refine blk_alloc ?_ _)); refine blk_far ?_ NB505_526.out _; (with_reducible repeat (first | refine blk_drewN ?_ _ | refine blk_drew ?_ | refine blk_alloc ?_ _)); exact BK505.out) hb); have n1_ := Fa.mk (blk_below (g := gb514) (o := .cells #[.int .i64 t511, .int .i64 t512] 23 (0, 0)) (by (with_reducible repeat (first | refine blk_drewN ?_ _ | refine blk_drew ?_ | refine blk_alloc ?_ _)); refine blk_far ?_ NB514_526.out _; (with_reducible repeat (first | refine blk_drewN ?_ _ | refine blk_drew ?_ | refine blk_alloc ?_ _)); refine blk_far ?_ NB514_526.out _; (with_reducible repeat (first | refine blk_drewN ?_ _ | refine blk_drew ?_ | refine blk_alloc ?_ _)); exact BK514.out) hb); have n2_ := Fa.mk (blk_below (g := gb518) (o := .cells #[.int .i64 t515, .int .i64 t516] 23 (0, 0)) (by (with_reducible repeat (first | refine blk_drewN ?_ _ | refine blk_drew ?_ | refine blk_alloc ?_ _)); refine blk_far ?_ NB518_526.out _; (with_reducible repeat (first | refine blk_drewN ?_ _ | refine blk_drew ?_ | refine blk_alloc ?_ _)); refine blk_far ?_ NB518_526.out _; (with_reducible repeat (first | refine blk_drewN ?_ _ | refine blk_drew ?_ | refine blk_alloc ?_ _)); exact BK518.out) hb); have n3_ := Fa.mk (blk_below (g := gb522) (o := .cells #[.int .i64 t519, .int .i64 t520] 23 (0, 0)) (by (with_reducible repeat (first | refine blk_drewN ?_ _ | refine blk_drew ?_ | refine blk_alloc ?_ _)); refine blk_far ?_ NB522_526.out _; (with_reducible repeat (first | refine blk_drewN ?_ _ | refine blk_drew ?_ | refine blk_alloc ?_ _)); refine blk_far ?_ NB522_526.out _; (with_reducible repeat (first | refine blk_drewN ?_ _ | refine blk_drew ?_ | refine blk_alloc ?_ _)); exact BK522.out) hb); have n4_ := Fa.mk (blk_below (g := gb526) (o := .cells #[.int .i64 t523, .int .i64 t524] 23 (0, 0)) (by (with_reducible repeat (first | refine blk_drewN ?_ _ | refine blk_drew ?_ | refine blk_alloc ?_ _)); refine blk_put (cs := #[.int .i64 t523, .int .i64 0]) ?_ 1 _ rfl; (with_reducible repeat (first | refine blk_drewN ?_ _ | refine blk_drew ?_ | refine blk_alloc ?_ _)); refine blk_put (cs := #[.int .i64 0, .int .i64 0]) ?_ 0 _ rfl; (with_reducible repeat (first | refine blk_drewN ?_ _ | refine blk_drew ?_ | refine blk_alloc ?_ _)); exact BK526.out) hb); have n5_ := Fa.mk (bst w hb); clear BK505; clear BK514; clear BK518; clear BK522; clear BK526; clear HB; have BK505 := n0_; have BK514 := n1_; have BK518 := n2_; have BK522 := n3_; have BK526 := n4_; have HB := n5_; clear n0_ n1_ n2_ n3_ n4_ n5_; (try clear hb); (try clear hb2); (try clear hk); (try clear hi)))
                go_ret
                exact ⟨by first | rfl | (simp [errW_none, errW_some] <;> rfl) | (simp [*, errW_none, errW_some] <;> rfl), fa⟩
              · rw [if_neg c18] at H
                exact absurd H (by simp)
            · rw [if_neg c17] at H
              exact absurd H (by simp)
          · rw [if_neg c16] at H
            exact absurd H (by simp)
        · rw [if_neg c15] at H
          exact absurd H (by simp)
      · rw [if_neg c14] at H
        exact absurd H (by simp)
    · rw [if_neg c13] at H
      exact absurd H (by simp)

end Go.Proofs.YtndbdnkpnjibkaaDoor.P
