-- PRINTED by print.py (a twelfth state) out of the translation. Not trusted: Lean checks it.
import Derived.Test.YtndbdnkpnjibkaaDoorPx0
import Derived.Test.YtndbdnkpnjibkaaDoorPxfleuronref01down
namespace Go.Proofs.YtndbdnkpnjibkaaDoor.P
open Go.RowKit Go.Proofs.YtndbdnkpnjibkaaDoorW.PrintWords Go.Proofs.YtndbdnkpnjibkaaDoorW.PrintLast Go.Proofs.YtndbdnkpnjibkaaDoorW.PrintMore
attribute [local go_sem] max2_int min2_int max_two min_two max_three min_three max_four min_four   -- for this text's walks alone
set_option linter.unusedVariables false
set_option linter.unusedSimpArgs false

/-! ### fleuronref01_fixed: function 54 -/
mutual
def fleuronref01_fixed.j0 : Nat → Int → Int → Int → Bool → Option (Int × Bool)
  | 0, _, _, _, _ => none
  | k + 1, x1, x6, x7, x21 => if x21 = true then (some (0, false)) else (fleuronref01_fixed.l0 k x1 x6 (IntKind.u64.wrap (x7)) 0)
def fleuronref01_fixed.l0 : Nat → Int → Int → Int → Int → Option (Int × Bool)
  | 0, _, _, _, _ => none
  | k + 1, x1, x6, x8, x9 => if x9 < 16 then (if (IntKind.u64.wrap (x8 * 2)) ≥ (IntKind.u64.wrap (x1)) then (fleuronref01_fixed.l0 k x1 (wrap64 ((wrap64 (x6 * 2)) + 1)) (IntKind.u64.wrap ((IntKind.u64.wrap (x8 * 2)) - (IntKind.u64.wrap (x1)))) (wrap64 (x9 + 1))) else (fleuronref01_fixed.l0 k x1 (wrap64 (x6 * 2)) (IntKind.u64.wrap (x8 * 2)) (wrap64 (x9 + 1)))) else (if (IntKind.u64.wrap (2 * x8)) ≥ (IntKind.u64.wrap (x1)) then (some (wrap64 (x6 + 1), true)) else (some (x6, true)))
end
def fleuronref01_fixed.f (k : Nat) (a0 : Int) (a1 : Int) : Option (Int × Bool) := (fleuronref01_down.f a0 a1).bind fun bt267 => (if bt267.1 > 4294967294 then (fleuronref01_fixed.j0 k a1 bt267.1 bt267.2 true) else (fleuronref01_fixed.j0 k a1 bt267.1 bt267.2 (decide (bt267.1 < (-4294967294)))))
theorem fleuronref01_fixed.mono_l : ∀ k, (∀ y0 y1 y2 y3, LeO (fleuronref01_fixed.j0 k y0 y1 y2 y3) (fleuronref01_fixed.j0 (k + 1) y0 y1 y2 y3)) ∧ (∀ y0 y1 y2 y3, LeO (fleuronref01_fixed.l0 k y0 y1 y2 y3) (fleuronref01_fixed.l0 (k + 1) y0 y1 y2 y3))
  | 0 => ⟨fun _ _ _ _ r h => by simp [fleuronref01_fixed.j0] at h, fun _ _ _ _ r h => by simp [fleuronref01_fixed.l0] at h⟩
  | k + 1 => by
    obtain ⟨ih0, ih1⟩ := fleuronref01_fixed.mono_l k
    refine ⟨?_, ?_⟩
    · intro y0 y1 y2 y3
      unfold fleuronref01_fixed.j0
      repeat' first
      | (with_reducible exact ih0 _ _ _ _)
      | (with_reducible exact ih1 _ _ _ _)
      | (with_reducible exact LeO.refl _)
      | (with_reducible exact LeO.none _)
      | (with_reducible refine LeO.ite ?_ ?_)
      | (with_reducible refine LeO.bind ?_ (fun _ => ?_))
      | exact ih0 _ _ _ _
      | exact ih1 _ _ _ _
      | exact LeO.none _
      | refine LeO.ite ?_ ?_
      | refine LeO.bind ?_ (fun _ => ?_)
    · intro y0 y1 y2 y3
      unfold fleuronref01_fixed.l0
      repeat' first
      | (with_reducible exact ih0 _ _ _ _)
      | (with_reducible exact ih1 _ _ _ _)
      | (with_reducible exact LeO.refl _)
      | (with_reducible exact LeO.none _)
      | (with_reducible refine LeO.ite ?_ ?_)
      | (with_reducible refine LeO.bind ?_ (fun _ => ?_))
      | exact ih0 _ _ _ _
      | exact ih1 _ _ _ _
      | exact LeO.none _
      | refine LeO.ite ?_ ?_
      | refine LeO.bind ?_ (fun _ => ?_)
theorem fleuronref01_fixed.mono : ∀ a0 a1 k, LeO (fleuronref01_fixed.f k a0 a1) (fleuronref01_fixed.f (k + 1) a0 a1) := by
  intro a0 a1 k
  obtain ⟨ih0, ih1⟩ := fleuronref01_fixed.mono_l k
  unfold fleuronref01_fixed.f
  repeat' first
      | (with_reducible exact ih0 _ _ _ _)
      | (with_reducible exact ih1 _ _ _ _)
      | (with_reducible exact LeO.refl _)
      | (with_reducible exact LeO.none _)
      | (with_reducible refine LeO.ite ?_ ?_)
      | (with_reducible refine LeO.bind ?_ (fun _ => ?_))
      | exact ih0 _ _ _ _
      | exact ih1 _ _ _ _
      | exact LeO.none _
      | refine LeO.ite ?_ ?_
      | refine LeO.bind ?_ (fun _ => ?_)
set_option maxHeartbeats 8000000 in
set_option maxRecDepth 100000 in
theorem fleuronref01_fixed.calls (k : Nat) (a0 : Int) (a1 : Int) (r1 : Int) (r2 : Bool) (w : World) (h : fleuronref01_fixed.f k a0 a1 = some (r1, r2)) :
    Calls Tryd.prog 54 #[.int .i64 a0, .int .i64 a1] w fun e w' => e = .returned (.tuple #[.int .i64 r1, .bool r2]) ∧ Drawn0 w w' := by
  have H : ((fleuronref01_down.f a0 a1).bind fun bt267 => (if bt267.1 > 4294967294 then (fleuronref01_fixed.j0 k a1 bt267.1 bt267.2 true) else (fleuronref01_fixed.j0 k a1 bt267.1 bt267.2 (decide (bt267.1 < (-4294967294)))))) = some (r1, r2) := h
  clear h
  replace H := Option.bind_eq_some_iff.mp H
  obtain ⟨⟨t267, t268⟩, A30, H⟩ := H
  replace H : (if t267 > 4294967294 then (fleuronref01_fixed.j0 k a1 t267 t268 true) else (fleuronref01_fixed.j0 k a1 t267 t268 (decide (t267 < (-4294967294))))) = some (r1, r2) := H
  have A3 := Fa.mk A30
  clear A30
  have HC4 := Fa.mk H
  clear H
  go_enter Tryd.func54, Tryd.ntmps54
  go_upto_region 2 with (first | ((with_reducible refine gate_callee (f := 67) rfl ?_); refine goesA (some 13) rfl rfl Tryd.func67 (by kernel_rfl) rfl #[.int .i64 a0, .int .i64 a1] rfl ?_; (with_reducible refine (fleuronref01_down.calls a0 a1 t267 t268 _ A3.out).mono ?_); rintro e w' ⟨rfl, ⟨nd, rfl⟩⟩; refine ⟨_, rfl, ?_⟩))
  (try simp only [Act.put, List.setIfInBounds_toArray, List.set_cons_zero, List.set_cons_succ])
  go_cut [21] (fun v21 wc => ∃ (kq : Nat) (x21_3 : Bool), v21 = .bool x21_3 ∧ Fa (fleuronref01_fixed.j0 kq a1 t267 t268 x21_3 = some (r1, r2)) ∧ Fa (kq ≤ k) ∧ Drawn0 w wc)
  case first =>
    have H := HC4.out
    clear HC4
    by_cases c5 : t267 > 4294967294
    · rw [if_pos c5] at H
      have c5b0 : decide (4294967294 < t267) = true := decide_eq_true c5
      clear c5
      (first | rw [c5b0] | (simp only [i64_w, i32_w]; rw [c5b0]) | skip)
      have H' := Fa.mk H
      clear H
      go_wp2
      go_meet
      case rel => exact ⟨_, (true), (by first | rfl | (simp; done) | (simp [*]; done)), H', ⟨by first | omega | exact Nat.le_refl _⟩, by repeat (first | exact Drawn0.refl _ | apply Drawn0.step)⟩
    · rw [if_neg c5] at H
      have c5b0 : decide (4294967294 < t267) = false := decide_eq_false c5
      clear c5
      (first | rw [c5b0] | (simp only [i64_w, i32_w]; rw [c5b0]) | skip)
      have H' := Fa.mk H
      clear H
      go_wp2
      go_meet
      case rel => exact ⟨_, (decide (t267 < (-4294967294))), (by first | rfl | (simp; done) | (simp [*]; done)), H', ⟨by first | omega | exact Nat.le_refl _⟩, by repeat (first | exact Drawn0.refl _ | apply Drawn0.step)⟩
  case rest =>
    clear HC4
    try clear p2
    try clear c5
    try clear c5b0
    obtain ⟨kq, x21_3, rfl, HA, HJ3, ⟨mc3, rfl⟩⟩ := hcut
    cases kq with
    | zero => exact absurd HA.out (by simp [fleuronref01_fixed.j0])
    | succ kj3 =>
      have H := HA.out
      clear HA
      simp only [fleuronref01_fixed.j0] at H
      by_cases c6 : x21_3 = true
      · subst c6
        have H1 : (some (0, false)) = some (r1, r2) := by rw [if_pos rfl] at H; exact H
        clear H
        have H := H1
        clear H1
        simp only [Option.some.injEq, Prod.mk.injEq] at H
        obtain ⟨rfl, rfl⟩ := H
        go_wp2
        go_ret2
        exact ⟨by first | rfl | (simp; done) | (simp [*]; done), by repeat (first | exact Drawn0.refl _ | apply Drawn0.step)⟩
      · replace c6 := Bool.eq_false_iff.mpr c6
        subst c6
        have H1 : (fleuronref01_fixed.l0 kj3 a1 t267 (IntKind.u64.wrap (t268)) 0) = some (r1, r2) := by rw [if_neg (show ¬ (false = true) by decide)] at H; exact H
        clear H
        have H := H1
        clear H1
        have H' := Fa.mk H
        clear H
        go_wp2
        go_loopg [6, 8, 9] kj3 (fun kq v6 v8 v9 w' => ∃ (x6_2 : Int) (x8_2 : Int) (x9_2 : Int), v6 = .int .i64 x6_2 ∧ v8 = .int .u64 x8_2 ∧ v9 = .int .i64 x9_2 ∧ Fa (fleuronref01_fixed.l0 kq a1 x6_2 x8_2 x9_2 = some (r1, r2)) ∧ Fa (kq ≤ kj3) ∧ Drawn0 w w')
        case atStart => exact ⟨(t267), (IntKind.u64.wrap (t268)), (0), (by first | rfl | (simp; done) | (simp [*]; done)), (by first | rfl | (simp; done) | (simp [*]; done)), (by first | rfl | (simp; done) | (simp [*]; done)), H', ⟨Nat.le_refl _⟩, by repeat (first | exact Drawn0.refl _ | apply Drawn0.step)⟩
        case round =>
          clear H'
          try clear p2
          try clear c3
          try clear c5
          try clear c5b0
          try clear c6
          try clear p2
          obtain ⟨x6_2, x8_2, x9_2, rfl, rfl, rfl, HA, HK2, ⟨m2, rfl⟩⟩ := hrel
          cases gk with
          | zero => exact absurd HA.out (by simp [fleuronref01_fixed.l0])
          | succ k2 =>
            have H := HA.out
            clear HA
            simp only [fleuronref01_fixed.l0] at H
            by_cases c7 : x9_2 < 16
            · rw [if_pos c7] at H
              have c7b0 : decide (x9_2 < 16) = true := decide_eq_true c7
              clear c7
              by_cases c8 : (IntKind.u64.wrap (x8_2 * 2)) ≥ (IntKind.u64.wrap (a1))
              · rw [if_pos c8] at H
                have c8b0 : decide ((IntKind.u64.wrap (a1)) ≤ (IntKind.u64.wrap (x8_2 * 2))) = true := decide_eq_true c8
                clear c8
                have H' := Fa.mk H
                clear H
                go_wp2
                go_roundg k2
                case measure => have := HJ3.out; have := HK2.out; omega
                case rel => exact ⟨(wrap64 ((wrap64 (x6_2 * 2)) + 1)), (IntKind.u64.wrap ((IntKind.u64.wrap (x8_2 * 2)) - (IntKind.u64.wrap (a1)))), (wrap64 (x9_2 + 1)), (by first | rfl | (simp; done) | (simp [*]; done)), (by first | rfl | (simp; done) | (simp [*]; done)), (by first | rfl | (simp; done) | (simp [*]; done)), H', ⟨by have := HJ3.out; have := HK2.out; omega⟩, by repeat (first | exact Drawn0.refl _ | apply Drawn0.step)⟩
              · rw [if_neg c8] at H
                have c8b0 : decide ((IntKind.u64.wrap (a1)) ≤ (IntKind.u64.wrap (x8_2 * 2))) = false := decide_eq_false c8
                clear c8
                have H' := Fa.mk H
                clear H
                go_wp2
                go_roundg k2
                case measure => have := HJ3.out; have := HK2.out; omega
                case rel => exact ⟨(wrap64 (x6_2 * 2)), (IntKind.u64.wrap (x8_2 * 2)), (wrap64 (x9_2 + 1)), (by first | rfl | (simp; done) | (simp [*]; done)), (by first | rfl | (simp; done) | (simp [*]; done)), (by first | rfl | (simp; done) | (simp [*]; done)), H', ⟨by have := HJ3.out; have := HK2.out; omega⟩, by repeat (first | exact Drawn0.refl _ | apply Drawn0.step)⟩
            · rw [if_neg c7] at H
              have c7b0 : decide (x9_2 < 16) = false := decide_eq_false c7
              clear c7
              by_cases c9 : (IntKind.u64.wrap (2 * x8_2)) ≥ (IntKind.u64.wrap (a1))
              · rw [if_pos c9] at H
                have c9b0 : decide ((IntKind.u64.wrap (a1)) ≤ (IntKind.u64.wrap (2 * x8_2))) = true := decide_eq_true c9
                clear c9
                simp only [Option.some.injEq, Prod.mk.injEq] at H
                obtain ⟨rfl, rfl⟩ := H
                go_wp2
                go_ret2
                exact ⟨by first | rfl | (simp; done) | (simp [*]; done), by repeat (first | exact Drawn0.refl _ | apply Drawn0.step)⟩
              · rw [if_neg c9] at H
                have c9b0 : decide ((IntKind.u64.wrap (a1)) ≤ (IntKind.u64.wrap (2 * x8_2))) = false := decide_eq_false c9
                clear c9
                simp only [Option.some.injEq, Prod.mk.injEq] at H
                obtain ⟨rfl, rfl⟩ := H
                go_wp2
                go_ret2
                exact ⟨by first | rfl | (simp; done) | (simp [*]; done), by repeat (first | exact Drawn0.refl _ | apply Drawn0.step)⟩

end Go.Proofs.YtndbdnkpnjibkaaDoor.P
