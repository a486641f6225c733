import Derived.Test.YtilamkcpbibnmaaGreatDoorZPx0
import Derived.Test.YtilamkcpbibnmaaGreatDoorZPxfleuronlaw08few
import Derived.Test.YtilamkcpbibnmaaGreatDoorZPxlinearrising
import Derived.Test.YtilamkcpbibnmaaGreatDoorZPxrationalNear
import Derived.Test.YtilamkcpbibnmaaGreatDoorZPxlineareach
namespace Go.Proofs.YtilamkcpbibnmaaGreatDoor.P
open Go.RowKit Go.Proofs.YtilamkcpbibnmaaGreatDoorW.PrintWords Go.Proofs.YtilamkcpbibnmaaGreatDoorW.PrintLast Go.Proofs.YtilamkcpbibnmaaGreatDoorW.PrintMore
attribute [local go_sem] max2_int min2_int max_two min_two max_three min_three max_four min_four
set_option linter.unusedVariables false
set_option linter.unusedSimpArgs false
def linear_Over.f (k : Nat) (a0_0 : Int) (a0_1 : Int) (l0_2 : List (S47)) (a1_0 : Int) (a1_1 : Int) : Option (Int × Int × (List (S47)) × Int) := (linear_each.f k (⟨#[47]⟩ : ByteArray) a0_0 a0_1 l0_2 a1_0 a1_1).bind fun bt220 => (some (bt220.1, bt220.2.1, bt220.2.2.1, bt220.2.2.2))
theorem linear_Over.mono : ∀ a0 a1 a2 a3 a4 k, LeO (linear_Over.f k a0 a1 a2 a3 a4) (linear_Over.f (k + 1) a0 a1 a2 a3 a4) := by
  intro a0 a1 a2 a3 a4 k
  unfold linear_Over.f
  repeat' first
      | (with_reducible exact linear_each.mono _ _ _ _ _ _ _)
      | (with_reducible exact LeO.refl _)
      | (with_reducible exact LeO.none _)
      | (with_reducible refine LeO.ite ?_ ?_)
      | (with_reducible refine LeO.bind ?_ (fun _ => ?_))
      | exact linear_each.mono _ _ _ _ _ _ _
      | exact LeO.none _
      | refine LeO.ite ?_ ?_
      | refine LeO.bind ?_ (fun _ => ?_)
set_option maxHeartbeats 8000000 in
set_option maxRecDepth 100000 in
theorem linear_Over.calls (k : Nat) (a0_0 : Int) (a0_1 : Int) (A0_2 : Option Addr) (c0_2 : Nat) (l0_2 : List (S47)) (a1_0 : Int) (a1_1 : Int) (r1 : Int) (r2 : Int) (r3 : List (S47)) (r4 : Int) (w : World) (hr0_2 : Kd.C k47 w A0_2 l0_2.length l0_2) (hc0_2 : l0_2.length ≤ c0_2) (h : linear_Over.f k a0_0 a0_1 l0_2 a1_0 a1_1 = some (r1, r2, r3, r4)) :
  Calls Tryz.prog 22 #[.agg #[.int .i64 a0_0, .int .i64 a0_1, .slice A0_2 l0_2.length c0_2], .agg #[.int .i64 a1_0, .int .i64 a1_1]] w fun e w' => ∃ v2_ : Value, e = .returned (.tuple #[.agg #[.int .i64 r1, .int .i64 r2, v2_], .int .i64 r4]) ∧ Kd.R k47 47 w' w.heap.size (fun _ => True) v2_ r3 ∧ Below w.heap.size w w' := by
 have hu26 := Tryz.underlying26
 have hu23 := Tryz.underlying23
 have HR0_2 := Fa.mk hr0_2
 have HC0_2 := Fa.mk hc0_2
 clear hr0_2 hc0_2
 have HB := Fa.mk (Below.refl w.heap.size w)
 have H : ((linear_each.f k (⟨#[47]⟩ : ByteArray) a0_0 a0_1 l0_2 a1_0 a1_1).bind fun bt220 => (some (bt220.1, bt220.2.1, bt220.2.2.1, bt220.2.2.2))) = some (r1, r2, r3, r4) := h
 clear h
 replace H := Option.bind_eq_some_iff.mp H
 obtain ⟨⟨t220, t221, t222, t225⟩, A30, H⟩ := H
 (try dsimp only at H)
 have A3 := Fa.mk A30
 clear A30
 simp only [Option.some.injEq, Prod.mk.injEq] at H
 obtain ⟨rfl, rfl, rfl, rfl⟩ := H
 go_enter Tryz.func22, Tryz.ntmps22
 go_wp2_with (first | ((with_reducible refine gate_dst (N := 2) rfl ?_); refine boxF (N := 2) (cs := #[.int .i64 a0_0, .int .i64 a0_1, .slice A0_2 l0_2.length c0_2]) (t := 26) ?_; intro gb217 hg w4 hbox hb; have hS := Stp.mk hb; have BK217 := Fa.mk (hbox); have GW217 := Fa.mk (gle hg : w.heap.size ≤ gb217); have GE217 := GW217; clear hb hbox hg) | ((with_reducible refine gate_dst (N := 3) rfl ?_); refine boxF (N := 3) (cs := #[.int .i64 a1_0, .int .i64 a1_1]) (t := 23) ?_; intro gb218 hg w5 hbox hb; have hS := Stp.mk hb; have BK218 := Fa.mk (hbox); have GW218 := Fa.mk (gle hg : w.heap.size ≤ gb218); have GE218 := GW218; have NB217_218 := Fa.mk (gne (o := .cells #[.int .i64 a0_0, .int .i64 a0_1, .slice A0_2 l0_2.length c0_2] 26 (0, 0)) hg : gb217 ≠ gb218); have NB218_217 := Fa.mk NB217_218.out.symm; clear hb hbox hg) | ((with_reducible refine gate_dst (N := 4) rfl ?_); refine boxF (N := 4) (cs := #[.int .i64 0, .int .i64 0, .slice none 0 0]) (t := 26) ?_; intro gb219 hg w6 hbox hb; have hS := Stp.mk hb; have BK217 := (⟨fa⟩ : Fa (w6.heap[gb217]? = some (.cells #[.int .i64 a0_0, .int .i64 a0_1, .slice A0_2 l0_2.length c0_2] 26 (0, 0)))); have BK218 := (⟨fa⟩ : Fa (w6.heap[gb218]? = some (.cells #[.int .i64 a1_0, .int .i64 a1_1] 23 (0, 0)))); have BK219 := Fa.mk (hbox); have GW219 := Fa.mk (gle hg : w.heap.size ≤ gb219); have GE219 := GW219; have NB217_219 := Fa.mk (gne (o := .cells #[.int .i64 a0_0, .int .i64 a0_1, .slice A0_2 l0_2.length c0_2] 26 (0, 0)) hg : gb217 ≠ gb219); have NB219_217 := Fa.mk NB217_219.out.symm; have NB218_219 := Fa.mk (gne (o := .cells #[.int .i64 a1_0, .int .i64 a1_1] 23 (0, 0)) hg : gb218 ≠ gb219); have NB219_218 := Fa.mk NB218_219.out.symm; clear hb hbox hg; have hnb7 := NB217_218.out; have hnc7 := NB218_217.out; have hnb8 := NB217_219.out; have hnc8 := NB219_217.out; have hcz9_0 := jcell BK217.out (i := 0) rfl; have hcz9_1 := jcell BK217.out (i := 1) rfl; have hcz9_2 := jcell BK217.out (i := 2) rfl; have hfz9_0 := blk_frozen BK217.out 0; have hfz9_1 := blk_frozen BK217.out 1; have hfz9_2 := blk_frozen BK217.out 2; have hnb10 := NB218_219.out; have hnc10 := NB219_218.out; have hcz11_0 := jcell BK218.out (i := 0) rfl; have hcz11_1 := jcell BK218.out (i := 1) rfl; have hfz11_0 := blk_frozen BK218.out 0; have hfz11_1 := blk_frozen BK218.out 1) | ((with_reducible refine gate_callee (f := 49) rfl ?_); refine goesA (some 8) rfl rfl Tryz.func49 (by kernel_rfl) rfl #[.string (⟨#[47]⟩ : ByteArray), .agg #[.int .i64 a0_0, .int .i64 a0_1, .slice A0_2 l0_2.length c0_2], .agg #[.int .i64 a1_0, .int .i64 a1_1]] rfl ?_; (with_reducible refine (linear_each.calls k (⟨#[47]⟩ : ByteArray) a0_0 a0_1 _ _ l0_2 a1_0 a1_1 t220 t221 t222 t225 _ ?side1 ?side2 A3.out).mono ?_); (case side1 => repeat (first | exact (Kd.C_below HR0_2.out fa) | (with_reducible refine Kd.C_alloc ?_ _) | (with_reducible refine Kd.C_drewN ?_ _) | (with_reducible refine Kd.C_drew ?_))); (case side2 => exact HC0_2.out); rintro e w12 ⟨v223, rfl, ho0, hb⟩; refine ⟨_, rfl, ?_⟩; have n0_ := Fa.mk (Kd.R_lower ho0 (bsz w)); have n1_ := Fa.mk (blk_below (g := gb217) (o := .cells #[.int .i64 a0_0, .int .i64 a0_1, .slice A0_2 l0_2.length c0_2] 26 (0, 0)) fa hb); have n2_ := Fa.mk (blk_below (g := gb218) (o := .cells #[.int .i64 a1_0, .int .i64 a1_1] 23 (0, 0)) fa hb); have n3_ := Fa.mk (blk_below (g := gb219) (o := .cells #[.int .i64 0, .int .i64 0, .slice none 0 0] 26 (0, 0)) fa hb); have n4_ := Fa.mk (bst w hb); clear BK217; clear BK218; clear BK219; clear HB; have HO224 := n0_; have BK217 := n1_; have BK218 := n2_; have BK219 := n3_; have HB := n4_; clear n0_ n1_ n2_ n3_ n4_; (try clear hb); (try clear hb2); (try clear hk); (try clear hi); (try clear ho0); have hcz13_0 := jcell BK219.out (i := 0) rfl; have hcz13_1 := jcell BK219.out (i := 1) rfl; have hcz13_2 := jcell BK219.out (i := 2) rfl; have hfz13_0 := blk_frozen BK219.out 0; have hfz13_1 := blk_frozen BK219.out 1; have hfz13_2 := blk_frozen BK219.out 2; obtain ⟨Ao14, co14, eo14⟩ := Kd.R_slice HO224.out; subst eo14))
 refine bodyPost_ret (results_ct rfl _ _ gb219 26 #[.int .i64 t220, .int .i64 t221, .slice Ao14 t222.length co14] (0, 0) _ rfl (by (with_reducible repeat (first | refine blk_drewN ?_ _ | refine blk_drew ?_ | refine blk_alloc ?_ _)); refine blk_put (cs := #[.int .i64 t220, .int .i64 t221, .slice none 0 0]) ?_ 2 _ rfl; (with_reducible repeat (first | refine blk_drewN ?_ _ | refine blk_drew ?_ | refine blk_alloc ?_ _)); refine blk_put (cs := #[.int .i64 t220, .int .i64 0, .slice none 0 0]) ?_ 1 _ rfl; (with_reducible repeat (first | refine blk_drewN ?_ _ | refine blk_drew ?_ | refine blk_alloc ?_ _)); refine blk_put (cs := #[.int .i64 0, .int .i64 0, .slice none 0 0]) ?_ 0 _ rfl; (with_reducible repeat (first | refine blk_drewN ?_ _ | refine blk_drew ?_ | refine blk_alloc ?_ _)); exact fa) Tryz.underlying26 rfl (by kernel_rfl)) rfl ?_
 exact ⟨_, rfl, by (with_reducible repeat (first | apply Kd.R_alloc | apply Kd.R_drewN | apply Kd.R_drew)); exact Kd.R_mono (Kd.R_far (p := ⟨gb219, 2, none⟩) (Kd.R_far (p := ⟨gb219, 1, none⟩) (Kd.R_far (p := ⟨gb219, 0, none⟩) (Kd.R_types HO224.out BK219.out (by decide)) (fun _ hk => hk.2) (.int .i64 t220)) (fun _ hk => hk.2) (.int .i64 t221)) (fun _ hk => hk.2) (.slice Ao14 t222.length co14)) (fun _ hk => trivial), fa⟩
def linear_Of.f (k : Nat) (a0_0 : Int) (a0_1 : Int) : Option (Int × Int × (List (S47)) × Int) := (num_Valid.f k a0_0 a0_1).bind fun t228 => (if t228 = true then (some (a0_0, a0_1, ([] : List (S47)), 0)) else (some (0, 0, ([] : List (S47)), 2)))
theorem linear_Of.mono : ∀ a0 a1 k, LeO (linear_Of.f k a0 a1) (linear_Of.f (k + 1) a0 a1) := by
  intro a0 a1 k
  unfold linear_Of.f
  repeat' first
      | (with_reducible exact num_Valid.mono _ _ _)
      | (with_reducible exact LeO.refl _)
      | (with_reducible exact LeO.none _)
      | (with_reducible refine LeO.ite ?_ ?_)
      | (with_reducible refine LeO.bind ?_ (fun _ => ?_))
      | exact num_Valid.mono _ _ _
      | exact LeO.none _
      | refine LeO.ite ?_ ?_
      | refine LeO.bind ?_ (fun _ => ?_)
set_option maxHeartbeats 8000000 in
set_option maxRecDepth 100000 in
theorem linear_Of.calls (k : Nat) (a0_0 : Int) (a0_1 : Int) (r1 : Int) (r2 : Int) (r3 : List (S47)) (r4 : Int) (w : World) (h : linear_Of.f k a0_0 a0_1 = some (r1, r2, r3, r4)) :
  Calls Tryz.prog 24 #[.agg #[.int .i64 a0_0, .int .i64 a0_1]] w fun e w' => ∃ v2_ : Value, e = .returned (.tuple #[.agg #[.int .i64 r1, .int .i64 r2, v2_], .int .i64 r4]) ∧ Kd.R k47 47 w' w.heap.size (fun _ => True) v2_ r3 ∧ Below w.heap.size w w' := by
 have hu23 := Tryz.underlying23
 have hu26 := Tryz.underlying26
 have HB := Fa.mk (Below.refl w.heap.size w)
 have H : ((num_Valid.f k a0_0 a0_1).bind fun t228 => (if t228 = true then (some (a0_0, a0_1, ([] : List (S47)), 0)) else (some (0, 0, ([] : List (S47)), 2)))) = some (r1, r2, r3, r4) := h
 clear h
 replace H := Option.bind_eq_some_iff.mp H
 obtain ⟨t228, A20, H⟩ := H
 (try dsimp only at H)
 have A2 := Fa.mk A20
 clear A20
 by_cases c3 : t228 = true
 ·
  subst c3
  rw [if_pos rfl] at H
  simp only [Option.some.injEq, Prod.mk.injEq] at H
  obtain ⟨rfl, rfl, rfl, rfl⟩ := H
  go_enter Tryz.func24, Tryz.ntmps24
  go_wp2_with (first | ((with_reducible refine gate_dst (N := 1) rfl ?_); refine boxF (N := 1) (cs := #[.int .i64 a0_0, .int .i64 a0_1]) (t := 23) ?_; intro gb226 hg w4 hbox hb; have hS := Stp.mk hb; have BK226 := Fa.mk (hbox); have GW226 := Fa.mk (gle hg : w.heap.size ≤ gb226); have GE226 := GW226; clear hb hbox hg) | ((with_reducible refine gate_dst (N := 2) rfl ?_); refine boxF (N := 2) (cs := #[.int .i64 0, .int .i64 0, .slice none 0 0]) (t := 26) ?_; intro gb227 hg w5 hbox hb; have hS := Stp.mk hb; have BK226 := (⟨fa⟩ : Fa (w5.heap[gb226]? = some (.cells #[.int .i64 a0_0, .int .i64 a0_1] 23 (0, 0)))); have BK227 := Fa.mk (hbox); have GW227 := Fa.mk (gle hg : w.heap.size ≤ gb227); have GE227 := GW227; have NB226_227 := Fa.mk (gne (o := .cells #[.int .i64 a0_0, .int .i64 a0_1] 23 (0, 0)) hg : gb226 ≠ gb227); have NB227_226 := Fa.mk NB226_227.out.symm; clear hb hbox hg; have hnb6 := NB226_227.out; have hnc6 := NB227_226.out; have hcz7_0 := jcell BK226.out (i := 0) rfl; have hcz7_1 := jcell BK226.out (i := 1) rfl; have hfz7_0 := blk_frozen BK226.out 0; have hfz7_1 := blk_frozen BK226.out 1) | ((with_reducible refine gate_callee (f := 44) rfl ?_); refine goesA (some 5) rfl rfl Tryz.func44 (by kernel_rfl) rfl #[.agg #[.int .i64 a0_0, .int .i64 a0_1]] rfl ?_; (with_reducible refine (num_Valid.calls k a0_0 a0_1 true _ A2.out).mono ?_); rintro e w8 ⟨rfl, hb⟩; refine ⟨_, rfl, ?_⟩; have hS := Stp.mk hb; have BK226 := (⟨fa⟩ : Fa (w8.heap[gb226]? = some (.cells #[.int .i64 a0_0, .int .i64 a0_1] 23 (0, 0)))); have BK227 := (⟨fa⟩ : Fa (w8.heap[gb227]? = some (.cells #[.int .i64 0, .int .i64 0, .slice none 0 0] 26 (0, 0)))); clear hb; have hcz9_0 := jcell BK226.out (i := 0) rfl; have hcz9_1 := jcell BK226.out (i := 1) rfl; have hfz9_0 := blk_frozen BK226.out 0; have hfz9_1 := blk_frozen BK226.out 1; have hcz10_0 := jcell BK227.out (i := 0) rfl; have hcz10_1 := jcell BK227.out (i := 1) rfl; have hcz10_2 := jcell BK227.out (i := 2) rfl; have hfz10_0 := blk_frozen BK227.out 0; have hfz10_1 := blk_frozen BK227.out 1; have hfz10_2 := blk_frozen BK227.out 2))
  refine bodyPost_ret (results_ct rfl _ _ gb227 26 #[.int .i64 a0_0, .int .i64 a0_1, .slice none 0 0] (0, 0) _ rfl (by (with_reducible repeat (first | refine blk_drewN ?_ _ | refine blk_drew ?_ | refine blk_alloc ?_ _)); refine blk_put (cs := #[.int .i64 a0_0, .int .i64 a0_1, .slice none 0 0]) ?_ 2 _ rfl; (with_reducible repeat (first | refine blk_drewN ?_ _ | refine blk_drew ?_ | refine blk_alloc ?_ _)); refine blk_put (cs := #[.int .i64 a0_0, .int .i64 0, .slice none 0 0]) ?_ 1 _ rfl; (with_reducible repeat (first | refine blk_drewN ?_ _ | refine blk_drew ?_ | refine blk_alloc ?_ _)); refine blk_put (cs := #[.int .i64 0, .int .i64 0, .slice none 0 0]) ?_ 0 _ rfl; (with_reducible repeat (first | refine blk_drewN ?_ _ | refine blk_drew ?_ | refine blk_alloc ?_ _)); exact fa) Tryz.underlying26 rfl (by kernel_rfl)) rfl ?_
  exact ⟨_, rfl, Kd.R_nil _ _ _ _ _, fa⟩
 ·
  replace c3 := Bool.eq_false_iff.mpr c3
  subst c3
  rw [if_neg (show ¬ (false = true) by decide)] at H
  simp only [Option.some.injEq, Prod.mk.injEq] at H
  obtain ⟨rfl, rfl, rfl, rfl⟩ := H
  go_enter Tryz.func24, Tryz.ntmps24
  go_wp2_with (first | ((with_reducible refine gate_dst (N := 1) rfl ?_); refine boxF (N := 1) (cs := #[.int .i64 a0_0, .int .i64 a0_1]) (t := 23) ?_; intro gb226 hg w11 hbox hb; have hS := Stp.mk hb; have BK226 := Fa.mk (hbox); have GW226 := Fa.mk (gle hg : w.heap.size ≤ gb226); have GE226 := GW226; clear hb hbox hg) | ((with_reducible refine gate_dst (N := 2) rfl ?_); refine boxF (N := 2) (cs := #[.int .i64 0, .int .i64 0, .slice none 0 0]) (t := 26) ?_; intro gb227 hg w12 hbox hb; have hS := Stp.mk hb; have BK226 := (⟨fa⟩ : Fa (w12.heap[gb226]? = some (.cells #[.int .i64 a0_0, .int .i64 a0_1] 23 (0, 0)))); have BK227 := Fa.mk (hbox); have GW227 := Fa.mk (gle hg : w.heap.size ≤ gb227); have GE227 := GW227; have NB226_227 := Fa.mk (gne (o := .cells #[.int .i64 a0_0, .int .i64 a0_1] 23 (0, 0)) hg : gb226 ≠ gb227); have NB227_226 := Fa.mk NB226_227.out.symm; clear hb hbox hg; have hnb13 := NB226_227.out; have hnc13 := NB227_226.out; have hcz14_0 := jcell BK226.out (i := 0) rfl; have hcz14_1 := jcell BK226.out (i := 1) rfl; have hfz14_0 := blk_frozen BK226.out 0; have hfz14_1 := blk_frozen BK226.out 1) | ((with_reducible refine gate_callee (f := 44) rfl ?_); refine goesA (some 5) rfl rfl Tryz.func44 (by kernel_rfl) rfl #[.agg #[.int .i64 a0_0, .int .i64 a0_1]] rfl ?_; (with_reducible refine (num_Valid.calls k a0_0 a0_1 false _ A2.out).mono ?_); rintro e w15 ⟨rfl, hb⟩; refine ⟨_, rfl, ?_⟩; have hS := Stp.mk hb; have BK227 := (⟨fa⟩ : Fa (w15.heap[gb227]? = some (.cells #[.int .i64 0, .int .i64 0, .slice none 0 0] 26 (0, 0)))); clear hb; have hcz16_0 := jcell BK227.out (i := 0) rfl; have hcz16_1 := jcell BK227.out (i := 1) rfl; have hcz16_2 := jcell BK227.out (i := 2) rfl; have hfz16_0 := blk_frozen BK227.out 0; have hfz16_1 := blk_frozen BK227.out 1; have hfz16_2 := blk_frozen BK227.out 2))
  refine bodyPost_ret (results_ct rfl _ _ gb227 26 #[.int .i64 0, .int .i64 0, .slice none 0 0] (0, 0) _ rfl (by (with_reducible repeat (first | refine blk_drewN ?_ _ | refine blk_drew ?_ | refine blk_alloc ?_ _)); refine blk_put (cs := #[.int .i64 0, .int .i64 0, .slice none 0 0]) ?_ 2 _ rfl; (with_reducible repeat (first | refine blk_drewN ?_ _ | refine blk_drew ?_ | refine blk_alloc ?_ _)); refine blk_put (cs := #[.int .i64 0, .int .i64 0, .slice none 0 0]) ?_ 1 _ rfl; (with_reducible repeat (first | refine blk_drewN ?_ _ | refine blk_drew ?_ | refine blk_alloc ?_ _)); refine blk_put (cs := #[.int .i64 0, .int .i64 0, .slice none 0 0]) ?_ 0 _ rfl; (with_reducible repeat (first | refine blk_drewN ?_ _ | refine blk_drew ?_ | refine blk_alloc ?_ _)); exact fa) Tryz.underlying26 rfl (by kernel_rfl)) rfl ?_
  exact ⟨_, rfl, Kd.R_nil _ _ _ _ _, fa⟩
attribute [local go_sem] gl_zero0 gl_zero1 gl_one0 gl_one1
def linear_Var.f (a0 : ByteArray) : Option (Int × Int × (List (S47)) × Int) := (linear_Named.f a0).bind fun t230 => (if t230 = true then (some (0, 1, (([(⟨a0, (⟨1, 1⟩ : S23)⟩ : S47)] : List (S47))), 0)) else (some (0, 0, ([] : List (S47)), 2)))
set_option maxHeartbeats 8000000 in
set_option maxRecDepth 100000 in
theorem linear_Var.calls (a0 : ByteArray) (r1 : Int) (r2 : Int) (r3 : List (S47)) (r4 : Int) (w : World) (h : linear_Var.f a0 = some (r1, r2, r3, r4)) (hG : Glob w) :
  Calls Tryz.prog 26 #[.string a0] w fun e w' => ∃ v2_ : Value, e = .returned (.tuple #[.agg #[.int .i64 r1, .int .i64 r2, v2_], .int .i64 r4]) ∧ Kd.R k47 47 w' w.heap.size (fun _ => True) v2_ r3 ∧ Below w.heap.size w w' := by
 have HG := Fa.mk hG
 clear hG
 have hBs : Base w := Base.mk
 have hu26 := Tryz.underlying26
 have hu23 := Tryz.underlying23
 have hu47 := Tryz.underlying47
 have HB := Fa.mk (Below.refl w.heap.size w)
 have H : ((linear_Named.f a0).bind fun t230 => (if t230 = true then (some (0, 1, (([(⟨a0, (⟨1, 1⟩ : S23)⟩ : S47)] : List (S47))), 0)) else (some (0, 0, ([] : List (S47)), 2)))) = some (r1, r2, r3, r4) := h
 clear h
 replace H := Option.bind_eq_some_iff.mp H
 obtain ⟨t230, A20, H⟩ := H
 (try dsimp only at H)
 have A2 := Fa.mk A20
 clear A20
 by_cases c3 : t230 = true
 ·
  subst c3
  rw [if_pos rfl] at H
  obtain ⟨y231, hy231⟩ : ∃ y_ : List (S47), y_ = (([(⟨a0, (⟨1, 1⟩ : S23)⟩ : S47)] : List (S47))) := ⟨_, rfl⟩
  replace H : (some (0, 1, y231, 0)) = some (r1, r2, r3, r4) := by first | (rw [hy231]; with_reducible exact H) | (have H2_ := (Option.bind_some _ _).symm.trans H; rw [hy231]; with_reducible exact H2_) | (have H2_ := (Option.bind_some _ _).symm.trans H; with_reducible exact H2_) | with_reducible exact H | (rw [hy231]; exact H) | exact H
  have Ny231 := Fa.mk hy231
  clear hy231
  simp only [Option.some.injEq, Prod.mk.injEq] at H
  obtain ⟨rfl, rfl, rfl, rfl⟩ := H
  go_enter Tryz.func26, Tryz.ntmps26
  go_wp2_with (first | ((with_reducible refine gate_dst (N := 2) rfl ?_); refine boxF (N := 2) (cs := #[.int .i64 0, .int .i64 0, .slice none 0 0]) (t := 26) ?_; intro gb229 hg w4 hbox hb; have hS := Stp.mk hb; have BK229 := Fa.mk (hbox); have GW229 := Fa.mk (gle hg : w.heap.size ≤ gb229); have GE229 := GW229; clear hb hbox hg) | ((with_reducible refine gate_callee (f := 51) rfl ?_); refine goesA (some 5) rfl rfl Tryz.func51 (by kernel_rfl) rfl #[.string a0] rfl ?_; (with_reducible refine (linear_Named.calls a0 true _ A2.out).mono ?_); rintro e w5 ⟨rfl, hb⟩; refine ⟨_, rfl, ?_⟩; have hS := Stp.mk hb; clear hb) | ((with_reducible refine gate_dst (N := 12) rfl ?_); have BK229 := (⟨fa⟩ : Fa (w5.heap[gb229]? = some (.cells #[.int .i64 0, .int .i64 0, .slice none 0 0] 26 (0, 0)))); refine Kd.R_lit k47 _ 47 ?hg (N := 12) ?hd (xs := ([(⟨a0, (⟨1, 1⟩ : S23)⟩ : S47)] : List (S47))) (inner := [.string a0, .int .i64 1, .int .i64 1]) (ok := fun _ => True) (okp := fun _ => True) ?hr ?hp (fun _ hk => hk) trivial (Below.refl _ _) (Nat.le_refl _) (by simp) ?_; (case hd => rfl); (case hg => rfl); (case hr => first | (go_simp; done) | (go_simp; rfl)); (case hp => exact (Reps.c3 (show Kd.M k47 _ _ _ (⟨a0, (⟨1, 1⟩ : S23)⟩ : S47) [.string a0, .int .i64 1, .int .i64 1] from (k47_mkM _ _ _ (⟨a0, (⟨1, 1⟩ : S23)⟩ : S47) )) (Reps.none _ _))); intro v232 w6 ho7 hb hg_ hnew_; clear hg_ hnew_; (first | rw [← Ny231.out] at ho7 | (simp only [Int.reduceToNat] at ho7; rw [← Ny231.out] at ho7)); have n0_ := Fa.mk (Kd.R_lower ho7 (bsz w)); have n1_ := Fa.mk (blk_below (g := gb229) (o := .cells #[.int .i64 0, .int .i64 0, .slice none 0 0] 26 (0, 0)) fa hb); have n2_ := Fa.mk (bst w hb); clear BK229; clear HB; have HO233 := n0_; have BK229 := n1_; have HB := n2_; clear n0_ n1_ n2_; clear hb ho7; obtain ⟨Ao8, co8, eo8⟩ := Kd.R_slice HO233.out; subst eo8; have hcz9_0 := jcell BK229.out (i := 0) rfl; have hcz9_1 := jcell BK229.out (i := 1) rfl; have hcz9_2 := jcell BK229.out (i := 2) rfl; have hfz9_0 := blk_frozen BK229.out 0; have hfz9_1 := blk_frozen BK229.out 1; have hfz9_2 := blk_frozen BK229.out 2))
  refine bodyPost_ret (results_ct rfl _ _ gb229 26 #[.int .i64 0, .int .i64 1, .slice Ao8 y231.length co8] (0, 0) _ rfl (by (with_reducible repeat (first | refine blk_drewN ?_ _ | refine blk_drew ?_ | refine blk_alloc ?_ _)); refine blk_put (cs := #[.int .i64 0, .int .i64 1, .slice none 0 0]) ?_ 2 _ rfl; (with_reducible repeat (first | refine blk_drewN ?_ _ | refine blk_drew ?_ | refine blk_alloc ?_ _)); refine blk_put (cs := #[.int .i64 0, .int .i64 0, .slice none 0 0]) ?_ 1 _ rfl; (with_reducible repeat (first | refine blk_drewN ?_ _ | refine blk_drew ?_ | refine blk_alloc ?_ _)); refine blk_put (cs := #[.int .i64 0, .int .i64 0, .slice none 0 0]) ?_ 0 _ rfl; (with_reducible repeat (first | refine blk_drewN ?_ _ | refine blk_drew ?_ | refine blk_alloc ?_ _)); exact fa) Tryz.underlying26 rfl (by kernel_rfl)) rfl ?_
  exact ⟨_, rfl, by (with_reducible repeat (first | apply Kd.R_alloc | apply Kd.R_drewN | apply Kd.R_drew)); exact Kd.R_mono (Kd.R_far (p := ⟨gb229, 2, none⟩) (Kd.R_far (p := ⟨gb229, 1, none⟩) (Kd.R_far (p := ⟨gb229, 0, none⟩) (Kd.R_types HO233.out BK229.out (by decide)) (fun _ hk => hk.2) (.int .i64 0)) (fun _ hk => hk.2) (.int .i64 1)) (fun _ hk => hk.2) (.slice Ao8 y231.length co8)) (fun _ hk => trivial), fa⟩
 ·
  replace c3 := Bool.eq_false_iff.mpr c3
  subst c3
  rw [if_neg (show ¬ (false = true) by decide)] at H
  simp only [Option.some.injEq, Prod.mk.injEq] at H
  obtain ⟨rfl, rfl, rfl, rfl⟩ := H
  go_enter Tryz.func26, Tryz.ntmps26
  go_wp2_with (first | ((with_reducible refine gate_dst (N := 2) rfl ?_); refine boxF (N := 2) (cs := #[.int .i64 0, .int .i64 0, .slice none 0 0]) (t := 26) ?_; intro gb229 hg w10 hbox hb; have hS := Stp.mk hb; have BK229 := Fa.mk (hbox); have GW229 := Fa.mk (gle hg : w.heap.size ≤ gb229); have GE229 := GW229; clear hb hbox hg) | ((with_reducible refine gate_callee (f := 51) rfl ?_); refine goesA (some 5) rfl rfl Tryz.func51 (by kernel_rfl) rfl #[.string a0] rfl ?_; (with_reducible refine (linear_Named.calls a0 false _ A2.out).mono ?_); rintro e w11 ⟨rfl, hb⟩; refine ⟨_, rfl, ?_⟩; have hS := Stp.mk hb; have BK229 := (⟨fa⟩ : Fa (w11.heap[gb229]? = some (.cells #[.int .i64 0, .int .i64 0, .slice none 0 0] 26 (0, 0)))); clear hb; have hcz12_0 := jcell BK229.out (i := 0) rfl; have hcz12_1 := jcell BK229.out (i := 1) rfl; have hcz12_2 := jcell BK229.out (i := 2) rfl; have hfz12_0 := blk_frozen BK229.out 0; have hfz12_1 := blk_frozen BK229.out 1; have hfz12_2 := blk_frozen BK229.out 2))
  refine bodyPost_ret (results_ct rfl _ _ gb229 26 #[.int .i64 0, .int .i64 0, .slice none 0 0] (0, 0) _ rfl (by (with_reducible repeat (first | refine blk_drewN ?_ _ | refine blk_drew ?_ | refine blk_alloc ?_ _)); refine blk_put (cs := #[.int .i64 0, .int .i64 0, .slice none 0 0]) ?_ 2 _ rfl; (with_reducible repeat (first | refine blk_drewN ?_ _ | refine blk_drew ?_ | refine blk_alloc ?_ _)); refine blk_put (cs := #[.int .i64 0, .int .i64 0, .slice none 0 0]) ?_ 1 _ rfl; (with_reducible repeat (first | refine blk_drewN ?_ _ | refine blk_drew ?_ | refine blk_alloc ?_ _)); refine blk_put (cs := #[.int .i64 0, .int .i64 0, .slice none 0 0]) ?_ 0 _ rfl; (with_reducible repeat (first | refine blk_drewN ?_ _ | refine blk_drew ?_ | refine blk_alloc ?_ _)); exact fa) Tryz.underlying26 rfl (by kernel_rfl)) rfl ?_
  exact ⟨_, rfl, Kd.R_nil _ _ _ _ _, fa⟩
def strings_Compare.f (a0 a1 : ByteArray) : Option Int := some (Lib.compareBytes a0.data.toList a1.data.toList)
theorem strings_Compare.calls (a0 a1 : ByteArray) (r : Int) (w : World) (h : strings_Compare.f a0 a1 = some r) :
  Calls Tryz.prog 55 #[.string a0, .string a1] w fun e w' => e = .returned (.int .i64 r) ∧ Drawn0 w w' := by
 obtain rfl := Option.some.inj h
 refine (Tryz.strings_Compare a0 a1 w).mono ?_
 rintro e w' ⟨rfl, rfl⟩
 exact ⟨rfl, Drawn0.refl _⟩
def linear_At_1.f (a0_0 : ByteArray) (a0_1 : Int) (a0_2 : Int) (a1 : ByteArray) : Option (Int) := (strings_Compare.f a0_0 a1).bind fun t235 => (some t235)
set_option maxHeartbeats 8000000 in
set_option maxRecDepth 100000 in
theorem linear_At_1.calls (a0_0 : ByteArray) (a0_1 : Int) (a0_2 : Int) (a1 : ByteArray) (r : Int) (w : World) (h : linear_At_1.f a0_0 a0_1 a0_2 a1 = some r) :
  Calls Tryz.prog 54 #[.agg #[.string a0_0, .int .i64 a0_1, .int .i64 a0_2], .string a1] w fun e w' => e = .returned (.int .i64 r) ∧ Below w.heap.size w w' := by
 have hu47 := Tryz.underlying47
 have HB := Fa.mk (Below.refl w.heap.size w)
 have H : ((strings_Compare.f a0_0 a1).bind fun t235 => (some t235)) = some r := h
 clear h
 replace H := Option.bind_eq_some_iff.mp H
 obtain ⟨t235, A30, H⟩ := H
 (try dsimp only at H)
 have A3 := Fa.mk A30
 clear A30
 obtain rfl := Option.some.inj H
 go_enter Tryz.func54, Tryz.ntmps54
 go_wp2_with (first | ((with_reducible refine gate_dst (N := 2) rfl ?_); refine boxF (N := 2) (cs := #[.string a0_0, .int .i64 a0_1, .int .i64 a0_2]) (t := 47) ?_; intro gb234 hg w4 hbox hb; have hS := Stp.mk hb; have BK234 := Fa.mk (hbox); have GW234 := Fa.mk (gle hg : w.heap.size ≤ gb234); have GE234 := GW234; clear hb hbox hg; have hcz5_0 := jcell BK234.out (i := 0) rfl; have hcz5_1 := jcell BK234.out (i := 1) rfl; have hcz5_2 := jcell BK234.out (i := 2) rfl; have hfz5_0 := blk_frozen BK234.out 0; have hfz5_1 := blk_frozen BK234.out 1; have hfz5_2 := blk_frozen BK234.out 2) | ((with_reducible refine gate_callee (f := 55) rfl ?_); refine goesA (some 8) rfl rfl Tryz.func55 (by kernel_rfl) rfl #[.string a0_0, .string a1] rfl ?_; (with_reducible refine (strings_Compare.calls a0_0 a1 t235 _ A3.out).mono ?_); rintro e w' ⟨rfl, ⟨nd, rfl⟩⟩; refine ⟨_, rfl, ?_⟩))
 go_ret
 exact ⟨rfl, fa⟩
def slices_BinarySearchFunc_at_54.l0 : Nat → List (S47) → ByteArray → Int → Int → Int → Option (Int × Bool)
  | 0, _, _, _, _, _ => none
  | k + 1, x0, x1, x8, x9, x10 => if x9 < x10 then (if 0 ≤ (wrap64 ((IntKind.u64.wrap (wrap64 (x9 + x10))) / 2)) then (if (wrap64 ((IntKind.u64.wrap (wrap64 (x9 + x10))) / 2)) < (x0.length : Int) then ((linear_At_1.f ((rd_T47 x0 (wrap64 ((IntKind.u64.wrap (wrap64 (x9 + x10))) / 2))).f0) ((rd_T47 x0 (wrap64 ((IntKind.u64.wrap (wrap64 (x9 + x10))) / 2))).f1.f0) ((rd_T47 x0 (wrap64 ((IntKind.u64.wrap (wrap64 (x9 + x10))) / 2))).f1.f1) x1).bind fun t237 => (if t237 < 0 then (slices_BinarySearchFunc_at_54.l0 k x0 x1 x8 (wrap64 ((wrap64 ((IntKind.u64.wrap (wrap64 (x9 + x10))) / 2)) + 1)) x10) else (slices_BinarySearchFunc_at_54.l0 k x0 x1 x8 x9 (wrap64 ((IntKind.u64.wrap (wrap64 (x9 + x10))) / 2))))) else (none)) else (none)) else (if x9 < x8 then (if 0 ≤ x9 then (if x9 < (x0.length : Int) then ((linear_At_1.f ((rd_T47 x0 x9).f0) ((rd_T47 x0 x9).f1.f0) ((rd_T47 x0 x9).f1.f1) x1).bind fun t239 => (some (x9, (t239 == 0)))) else (none)) else (none)) else (some (x9, false)))
def slices_BinarySearchFunc_at_54.f (k : Nat) (l0 : List (S47)) (a1 : ByteArray) (a2 : Unit) : Option (Int × Bool) := slices_BinarySearchFunc_at_54.l0 k l0 a1 (l0.length : Int) 0 (l0.length : Int)
theorem slices_BinarySearchFunc_at_54.mono_l : ∀ k, (∀ y0 y1 y2 y3 y4, LeO (slices_BinarySearchFunc_at_54.l0 k y0 y1 y2 y3 y4) (slices_BinarySearchFunc_at_54.l0 (k + 1) y0 y1 y2 y3 y4))
  | 0 => fun _ _ _ _ _ r h => by simp [slices_BinarySearchFunc_at_54.l0] at h
  | k + 1 => by
    have ih0 := slices_BinarySearchFunc_at_54.mono_l k
    all_goals intros
    all_goals first | unfold slices_BinarySearchFunc_at_54.l0
    all_goals repeat' first | (with_reducible exact ih0 _ _ _ _ _) | (with_reducible exact LeO.refl _) | (with_reducible exact LeO.none _) | (with_reducible refine LeO.ite ?_ ?_) | (with_reducible refine LeO.bind ?_ (fun _ => ?_)) | exact ih0 _ _ _ _ _ | exact LeO.none _ | refine LeO.ite ?_ ?_ | refine LeO.bind ?_ (fun _ => ?_)
theorem slices_BinarySearchFunc_at_54.mono : ∀ a0 a1 a2 k, LeO (slices_BinarySearchFunc_at_54.f k a0 a1 a2) (slices_BinarySearchFunc_at_54.f (k + 1) a0 a1 a2) := by
  intro a0 a1 a2 k
  have ih0 := slices_BinarySearchFunc_at_54.mono_l k
  unfold slices_BinarySearchFunc_at_54.f
  repeat' first
      | (with_reducible exact ih0 _ _ _ _ _)
      | (with_reducible exact LeO.refl _)
      | (with_reducible exact LeO.none _)
      | (with_reducible refine LeO.ite ?_ ?_)
      | (with_reducible refine LeO.bind ?_ (fun _ => ?_))
      | exact ih0 _ _ _ _ _
      | exact LeO.none _
      | refine LeO.ite ?_ ?_
      | refine LeO.bind ?_ (fun _ => ?_)
set_option maxHeartbeats 8000000 in
set_option maxRecDepth 100000 in
theorem slices_BinarySearchFunc_at_54.calls (k : Nat) (A0 : Option Addr) (c0 : Nat) (l0 : List (S47)) (a1 : ByteArray) (a2 : Unit) (r1 : Int) (r2 : Bool) (w : World) (hr0 : Kd.C k47 w A0 l0.length l0) (hc0 : l0.length ≤ c0) (h : slices_BinarySearchFunc_at_54.f k l0 a1 a2 = some (r1, r2)) :
  Calls Tryz.prog 53 #[.slice A0 l0.length c0, .string a1, .func (.func 54) #[] #[]] w fun e w' => e = .returned (.tuple #[.int .i64 r1, .bool r2]) ∧ Below w.heap.size w w' := by
 have hu47 := Tryz.underlying47
 have HR0 := Fa.mk hr0
 have HC0 := Fa.mk hc0
 clear hr0 hc0
 have HB := Fa.mk (Below.refl w.heap.size w)
 have H : (slices_BinarySearchFunc_at_54.l0 k l0 a1 (l0.length : Int) 0 (l0.length : Int)) = some (r1, r2) := h
 clear h
 have H' := Fa.mk H
 clear H
 go_enter Tryz.func53, Tryz.ntmps53
 go_wp2
 go_loopg [9, 10] k (fun kq v9 v10 w' => ∃ (x9_1 : Int) (x10_1 : Int), v9 = .int .i64 x9_1 ∧ v10 = .int .i64 x10_1 ∧ Fa (slices_BinarySearchFunc_at_54.l0 kq l0 a1 (l0.length : Int) x9_1 x10_1 = some (r1, r2)) ∧ Fa (kq ≤ k) ∧ Fa (Below w.heap.size w w'))
 case atStart => exact ⟨(0), ((l0.length : Int)), (by first | rfl | (simp; done) | (simp [*]; done)), (by first | rfl | (simp; done) | (simp [*]; done)), H', ⟨Nat.le_refl _⟩, ⟨fa⟩⟩
 case round =>
  clear H'
  try clear p2
  obtain ⟨x9_1, x10_1, rfl, rfl, HA, HK1, HB⟩ := hrel
  cases gk with
  | zero => exact absurd HA.out (by simp [slices_BinarySearchFunc_at_54.l0])
  | succ k1 =>
   have H := HA.out
   clear HA
   simp only [slices_BinarySearchFunc_at_54.l0] at H
   by_cases c4 : x9_1 < x10_1
   ·
    rw [if_pos c4] at H
    have c4b0 : decide (x9_1 < x10_1) = true := decide_eq_true c4
    clear c4
    obtain ⟨ji5, hji5⟩ : ∃ j_ : Int, (wrap64 ((IntKind.u64.wrap (wrap64 (x9_1 + x10_1))) / 2)) = j_ := ⟨_, rfl⟩
    replace H : (if 0 ≤ (ji5) then (if (ji5) < (l0.length : Int) then ((linear_At_1.f ((rd_T47 l0 (ji5)).f0) ((rd_T47 l0 (ji5)).f1.f0) ((rd_T47 l0 (ji5)).f1.f1) a1).bind fun t237 => (if t237 < 0 then (slices_BinarySearchFunc_at_54.l0 k1 l0 a1 (l0.length : Int) (wrap64 ((ji5) + 1)) x10_1) else (slices_BinarySearchFunc_at_54.l0 k1 l0 a1 (l0.length : Int) x9_1 ji5))) else (none)) else (none)) = some (r1, r2) := by first | (rw [hji5] at H; exact H) | (simp only [hji5] at H ⊢; exact H)
    have hji5w : (IntKind.i64.wrap ((IntKind.u64.wrap (wrap64 (x9_1 + x10_1))) / 2)) = ji5 := (i64_w _).trans hji5
    by_cases c6 : 0 ≤ (ji5)
    ·
     rw [if_pos c6] at H
     have c6b0 : decide (0 ≤ (ji5)) = true := decide_eq_true c6
     clear c6
     by_cases c7 : (ji5) < (l0.length : Int)
     ·
      rw [if_pos c7] at H
      have c7b0 : decide ((ji5) < (l0.length : Int)) = true := decide_eq_true c7
      clear c7
      replace H := Option.bind_eq_some_iff.mp H
      obtain ⟨t237, A80, H⟩ := H
      (try dsimp only at H)
      have A8 := Fa.mk A80
      clear A80
      by_cases c9 : t237 < 0
      ·
       rw [if_pos c9] at H
       have c9b0 : decide (t237 < 0) = true := decide_eq_true c9
       clear c9
       have H' := Fa.mk H
       clear H
       have p236 : 0 ≤ ((ji5) : Int) := of_decide_eq_true (by first | (with_reducible assumption) | assumption)
       have q236 : (ji5) < (l0.length : Int) := of_decide_eq_true (by first | (with_reducible assumption) | assumption)
       obtain ⟨ad236, e236, hx236_0, hx236_1, hx236_2⟩ := at_T47 HR0.out (ji5) p236 q236
       cases e236
       replace hx236_0 := (HB.out.cell (World.block_lt_of_cell? w _ hx236_0)).trans hx236_0
       replace hx236_1 := (HB.out.cell (World.block_lt_of_cell? w _ hx236_1)).trans hx236_1
       replace hx236_2 := (HB.out.cell (World.block_lt_of_cell? w _ hx236_2)).trans hx236_2
       replace p236 := eq_true p236
       replace q236 := eq_true q236
       go_wp2_with (first | (go_at_call 54; (with_reducible refine (linear_At_1.calls ((rd_T47 l0 (ji5)).f0) ((rd_T47 l0 (ji5)).f1.f0) ((rd_T47 l0 (ji5)).f1.f1) a1 t237 _ A8.out).mono ?_); rintro e w10 ⟨rfl, hb⟩; have n0_ := Fa.mk (bst w hb); clear HB; have HB := n0_; clear n0_; (try clear hb); (try clear hb2); (try clear hk); (try clear hi)))
       go_roundg k1
       case measure => have := HK1.out; omega
       case rel => exact ⟨(wrap64 ((ji5) + 1)), (x10_1), (by first | rfl | (simp; done) | (simp only [← hji5] <;> (first | rfl | simp)) | (simp [*]; done)), (by first | rfl | (simp; done) | (simp [*]; done)), H', ⟨by have := HK1.out; omega⟩, ⟨fa⟩⟩
      ·
       rw [if_neg c9] at H
       have c9b0 : decide (t237 < 0) = false := decide_eq_false c9
       clear c9
       have H' := Fa.mk H
       clear H
       have p236 : 0 ≤ ((ji5) : Int) := of_decide_eq_true (by first | (with_reducible assumption) | assumption)
       have q236 : (ji5) < (l0.length : Int) := of_decide_eq_true (by first | (with_reducible assumption) | assumption)
       obtain ⟨ad236, e236, hx236_0, hx236_1, hx236_2⟩ := at_T47 HR0.out (ji5) p236 q236
       cases e236
       replace hx236_0 := (HB.out.cell (World.block_lt_of_cell? w _ hx236_0)).trans hx236_0
       replace hx236_1 := (HB.out.cell (World.block_lt_of_cell? w _ hx236_1)).trans hx236_1
       replace hx236_2 := (HB.out.cell (World.block_lt_of_cell? w _ hx236_2)).trans hx236_2
       replace p236 := eq_true p236
       replace q236 := eq_true q236
       go_wp2_with (first | (go_at_call 54; (with_reducible refine (linear_At_1.calls ((rd_T47 l0 (ji5)).f0) ((rd_T47 l0 (ji5)).f1.f0) ((rd_T47 l0 (ji5)).f1.f1) a1 t237 _ A8.out).mono ?_); rintro e w11 ⟨rfl, hb⟩; have n0_ := Fa.mk (bst w hb); clear HB; have HB := n0_; clear n0_; (try clear hb); (try clear hb2); (try clear hk); (try clear hi)))
       go_roundg k1
       case measure => have := HK1.out; omega
       case rel => exact ⟨(x9_1), (ji5), (by first | rfl | (simp; done) | (simp [*]; done)), (by first | rfl | (simp; done) | (simp only [← hji5] <;> (first | rfl | simp)) | (simp [*]; done)), H', ⟨by have := HK1.out; omega⟩, ⟨fa⟩⟩
     ·
      rw [if_neg c7] at H
      exact absurd H (by simp)
    ·
     rw [if_neg c6] at H
     exact absurd H (by simp)
   ·
    rw [if_neg c4] at H
    have c4b0 : decide (x9_1 < x10_1) = false := decide_eq_false c4
    clear c4
    by_cases c12 : x9_1 < (l0.length : Int)
    ·
     rw [if_pos c12] at H
     have c12b0 : decide (x9_1 < (l0.length : Int)) = true := decide_eq_true c12
     clear c12
     by_cases c13 : 0 ≤ x9_1
     ·
      rw [if_pos c13] at H
      have c13b0 : decide (0 ≤ x9_1) = true := decide_eq_true c13
      clear c13
      by_cases c14 : x9_1 < (l0.length : Int)
      ·
       rw [if_pos c14] at H
       have c14b0 : decide (x9_1 < (l0.length : Int)) = true := decide_eq_true c14
       clear c14
       replace H := Option.bind_eq_some_iff.mp H
       obtain ⟨t239, A150, H⟩ := H
       (try dsimp only at H)
       have A15 := Fa.mk A150
       clear A150
       simp only [Option.some.injEq, Prod.mk.injEq] at H
       obtain ⟨rfl, rfl⟩ := H
       have p238 : 0 ≤ (x9_1 : Int) := of_decide_eq_true (by first | (with_reducible assumption) | assumption)
       have q238 : x9_1 < (l0.length : Int) := of_decide_eq_true (by first | (with_reducible assumption) | assumption)
       obtain ⟨ad238, e238, hx238_0, hx238_1, hx238_2⟩ := at_T47 HR0.out x9_1 p238 q238
       cases e238
       replace hx238_0 := (HB.out.cell (World.block_lt_of_cell? w _ hx238_0)).trans hx238_0
       replace hx238_1 := (HB.out.cell (World.block_lt_of_cell? w _ hx238_1)).trans hx238_1
       replace hx238_2 := (HB.out.cell (World.block_lt_of_cell? w _ hx238_2)).trans hx238_2
       replace p238 := eq_true p238
       replace q238 := eq_true q238
       go_wp2_with (first | (go_at_call 54; (with_reducible refine (linear_At_1.calls ((rd_T47 l0 x9_1).f0) ((rd_T47 l0 x9_1).f1.f0) ((rd_T47 l0 x9_1).f1.f1) a1 t239 _ A15.out).mono ?_); rintro e w16 ⟨rfl, hb⟩; have n0_ := Fa.mk (bst w hb); clear HB; have HB := n0_; clear n0_; (try clear hb); (try clear hb2); (try clear hk); (try clear hi)))
       go_ret2
       exact ⟨rfl, fa⟩
      ·
       rw [if_neg c14] at H
       exact absurd H (by simp)
     ·
      rw [if_neg c13] at H
      exact absurd H (by simp)
    ·
     rw [if_neg c12] at H
     have c12b0 : decide (x9_1 < (l0.length : Int)) = false := decide_eq_false c12
     clear c12
     simp only [Option.some.injEq, Prod.mk.injEq] at H
     obtain ⟨rfl, rfl⟩ := H
     go_wp2
     go_ret2
     exact ⟨rfl, fa⟩
def atgo (k : Nat) (l1 : List S47) : List S47 → Int → Int → List S47 → Option (Int × Int × List S47 × Int)
  | [], c0, c1, out => some (c0, c1, out, 0)
  | t :: ts, c0, c1, out => (slices_BinarySearchFunc_at_54.f k l1 t.f0 ()).bind fun b => if b.2 = true then (if 0 ≤ b.1 then if b.1 < (l1.length : Int) then (num_Near.f k (⟨#[42]⟩ : ByteArray) t.f1.f0 t.f1.f1 (rd_T47 l1 b.1).f1.f0 (rd_T47 l1 b.1).f1.f1).bind fun v =>
      if v.2.2 = 0 then (num_Near.f k (⟨#[43]⟩ : ByteArray) c0 c1 v.1 v.2.1).bind fun s => if s.2.2 = 0 then atgo k l1 ts s.1 s.2.1 out else some (0, 0, [], s.2.2) else some (0, 0, [], v.2.2) else none else none) else atgo k l1 ts c0 c1 (out ++ [t])
def linear_At.f (k : Nat) (a0_0 a0_1 : Int) (l0_2 l1 : List S47) : Option (Int × Int × List S47 × Int) :=
  if ¬ l0_2.length < 4398046511104 then none else (linear_Valid.f k a0_0 a0_1 l0_2).bind fun v => if v = true then (linear_rising.f k l1).bind fun r => if r = true then atgo k l1 l0_2 a0_0 a0_1 [] else some (0, 0, [], 2) else some (0, 0, [], 2)
theorem atgo_mono (k : Nat) (l1 : List S47) : ∀ (l : List S47) (c0 c1 : Int) (out : List S47), LeO (atgo k l1 l c0 c1 out) (atgo (k + 1) l1 l c0 c1 out)
  | [], _, _, _ => LeO.refl _
  | t :: ts, c0, c1, out => by
    unfold atgo
    exact LeO.bind (slices_BinarySearchFunc_at_54.mono _ _ _ _) (fun _ => LeO.ite (LeO.ite (LeO.ite (LeO.bind (num_Near.mono _ _ _ _ _ _) (fun _ => LeO.ite (LeO.bind (num_Near.mono _ _ _ _ _ _) (fun _ => LeO.ite (atgo_mono k l1 ts _ _ _) (LeO.refl _))) (LeO.refl _))) (LeO.refl _)) (LeO.refl _)) (atgo_mono k l1 ts _ _ _))
theorem linear_At.mono : ∀ a0 a1 a2 a3 k, LeO (linear_At.f k a0 a1 a2 a3) (linear_At.f (k + 1) a0 a1 a2 a3) := by
  intro a0 a1 a2 a3 k
  unfold linear_At.f
  exact LeO.ite (LeO.refl _) (LeO.bind (linear_Valid.mono _ _ _ _) (fun _ => LeO.ite (LeO.bind (linear_rising.mono _ _) (fun _ => LeO.ite (atgo_mono _ _ _ _ _ _) (LeO.refl _))) (LeO.refl _)))
theorem R_putA {w W : World} {g : Nat} {cs : Array Value} {v : Value} {l : List S47} {t : TypeId} (h : Kd.R k47 47 W w.heap.size (fun _ => True) v l) (hb : W.heap[g]? = some (.cells cs t (0, 0))) (ht : ∀ q : Nat, q ∈ 47 :: k47.E → q ≠ t) (i : Nat) (u : Value) : Kd.R k47 47 (W.setCell ⟨g, i, none⟩ u) w.heap.size (fun _ => True) v l :=
  Kd.R_mono (Kd.R_far (p := ⟨g, i, none⟩) (Kd.R_types h hb ht) (fun _ hk => hk.2) u) (fun _ _ => trivial)
structure TS (w : World) (gr go : Nat) (c0 c1 : Int) (ov : Value) (out : List S47) (W : World) : Prop where
  br : W.heap[gr]? = some (.cells #[.int .i64 0, .int .i64 0, .slice none 0 0] 26 (0, 0))
  bo : W.heap[go]? = some (.cells #[.int .i64 c0, .int .i64 c1, ov] 26 (0, 0))
  ro : Kd.R k47 47 W w.heap.size (fun _ => True) ov out
  hb : Below w.heap.size w W
  lr : w.heap.size ≤ gr
  lo : w.heap.size ≤ go
  nro : gr ≠ go
structure TB (w : World) (gr go gt : Nat) (c0 c1 : Int) (ov : Value) (out : List S47) (t : S47) (W : World) : Prop where
  s : TS w gr go c0 c1 ov out W
  bt : W.heap[gt]? = some (.cells #[.string t.f0, .int .i64 t.f1.f0, .int .i64 t.f1.f1] 47 (0, 0))
  lt : w.heap.size ≤ gt
structure TV (w : World) (gr go gt gv : Nat) (c0 c1 : Int) (ov : Value) (out : List S47) (t : S47) (p q : Int) (W : World) : Prop where
  s : TB w gr go gt c0 c1 ov out t W
  bv : W.heap[gv]? = some (.cells #[.int .i64 p, .int .i64 q] 23 (0, 0))
  lv : w.heap.size ≤ gv
structure AF (w : World) (gf gr : Nat) (fcs : Array Value) (W : World) : Prop where
  bf : W.heap[gf]? = some (.cells fcs 26 (0, 0))
  br : W.heap[gr]? = some (.cells #[.int .i64 0, .int .i64 0, .slice none 0 0] 26 (0, 0))
  hb : Below w.heap.size w W
  lr : w.heap.size ≤ gr
section
variable {w W W' W1 : World} {gr go gt gv gf g : Nat} {c0 c1 p q : Int} {ov ov' : Value} {out out' : List S47} {t : S47} {fcs cs : Array Value}
theorem AF.call (s : AF w gf gr fcs W) (hb : Below W.heap.size W W') : AF w gf gr fcs W' := ⟨blk_below s.bf hb, blk_below s.br hb, below_step s.hb hb, s.lr⟩
theorem AF.ret (s : AF w gf gr fcs W) (x y z : Value) : (((W.setCell ⟨gr, 0, none⟩ x).setCell ⟨gr, 1, none⟩ y).setCell ⟨gr, 2, none⟩ z).heap[gr]? = some (.cells #[x, y, z] 26 (0, 0)) ∧ Below w.heap.size w (((W.setCell ⟨gr, 0, none⟩ x).setCell ⟨gr, 1, none⟩ y).setCell ⟨gr, 2, none⟩ z) :=
  ⟨blk_put (blk_put (blk_put s.br 0 x rfl) 1 y rfl) 2 z rfl, below_set (below_set (below_set s.hb s.lr) s.lr) s.lr⟩
theorem TS.call (s : TS w gr go c0 c1 ov out W) (hb : Below W.heap.size W W') : TS w gr go c0 c1 ov out W' := ⟨blk_below s.br hb, blk_below s.bo hb, Kd.R_below s.ro hb, below_step s.hb hb, s.lr, s.lo, s.nro⟩
theorem TS.drew (s : TS w gr go c0 c1 ov out W) : TS w gr go c0 c1 ov out W.drew := ⟨blk_drew s.br, blk_drew s.bo, Kd.R_drew s.ro, below_drew1 s.hb, s.lr, s.lo, s.nro⟩
theorem TS.far (s : TS w gr go c0 c1 ov out W) (h : W.heap[g]? = some (.cells cs 23 (0, 0))) (hl : w.heap.size ≤ g) (i : Nat) (u : Value) : TS w gr go c0 c1 ov out (W.setCell ⟨g, i, none⟩ u) :=
  ⟨blk_far s.br (p := ⟨g, i, none⟩) (blk_ne s.br h (by decide)) u, blk_far s.bo (p := ⟨g, i, none⟩) (blk_ne s.bo h (by decide)) u, R_putA s.ro h (by decide) i u, below_set s.hb hl, s.lr, s.lo, s.nro⟩
theorem TS.setn (s : TS w gr go c0 c1 ov out W) (p q : Int) : TS w gr go p q ov out ((W.setCell ⟨go, 0, none⟩ (.int .i64 p)).setCell ⟨go, 1, none⟩ (.int .i64 q)) :=
  have b1 := blk_put s.bo 0 (.int .i64 p) rfl
  ⟨blk_far (blk_far s.br (p := ⟨go, 0, none⟩) s.nro _) (p := ⟨go, 1, none⟩) s.nro _, blk_put b1 1 _ rfl, R_putA (R_putA s.ro s.bo (by decide) 0 _) b1 (by decide) 1 _, below_set (below_set s.hb s.lo) s.lo, s.lr, s.lo, s.nro⟩
theorem TS.app (s : TS w gr go c0 c1 ov out W) (ro' : Kd.R k47 47 W' w.heap.size (fun _ => True) ov' out') (hb : Below w.heap.size w W') (hg : W.grownBy W' ov.ownBlock) : TS w gr go c0 c1 ov' out' (W'.setCell ⟨go, 2, none⟩ ov') :=
  have b1 := blk_grown s.br hg (Kd.R_ne s.ro s.br (by decide))
  have b3 := blk_grown s.bo hg (Kd.R_ne s.ro s.bo (by decide))
  ⟨blk_far b1 (p := ⟨go, 2, none⟩) s.nro _, blk_put b3 2 _ rfl, R_putA ro' b3 (by decide) 2 _, below_set hb s.lo, s.lr, s.lo, s.nro⟩
theorem TS.outs (s : TS w gr go c0 c1 ov out W) (x y z : Value) : (((W.setCell ⟨gr, 0, none⟩ x).setCell ⟨gr, 1, none⟩ y).setCell ⟨gr, 2, none⟩ z).heap[gr]? = some (.cells #[x, y, z] 26 (0, 0)) ∧ Below w.heap.size w (((W.setCell ⟨gr, 0, none⟩ x).setCell ⟨gr, 1, none⟩ y).setCell ⟨gr, 2, none⟩ z) ∧ Kd.R k47 47 (((W.setCell ⟨gr, 0, none⟩ x).setCell ⟨gr, 1, none⟩ y).setCell ⟨gr, 2, none⟩ z) w.heap.size (fun _ => True) ov out :=
  have b1 := blk_put s.br 0 x rfl
  have b2 := blk_put b1 1 y rfl
  ⟨blk_put b2 2 z rfl, below_set (below_set (below_set s.hb s.lr) s.lr) s.lr, R_putA (R_putA (R_putA s.ro s.br (by decide) 0 x) b1 (by decide) 1 y) b2 (by decide) 2 z⟩
theorem TS.start (s : AF w gf gr fcs W) (hg : go = W.heap.size) (hb : Below W.heap.size W W1) (h : W1.heap[go]? = some (.cells #[.int .i64 0, .int .i64 0, .slice none 0 0] 26 (0, 0))) (p q : Int) :
    TS w gr go p q (.slice none 0 0) [] (((W1.setCell ⟨go, 0, none⟩ (.int .i64 p)).setCell ⟨go, 1, none⟩ (.int .i64 q)).setCell ⟨go, 2, none⟩ (.slice none 0 0)) ∧ (((W1.setCell ⟨go, 0, none⟩ (.int .i64 p)).setCell ⟨go, 1, none⟩ (.int .i64 q)).setCell ⟨go, 2, none⟩ (.slice none 0 0)).heap[gf]? = some (.cells fcs 26 (0, 0)) := by
  have s1 := s.call hb
  have lo : w.heap.size ≤ go := by rw [hg]; exact s.hb.size
  have nr : gr ≠ go := by rw [hg]; exact Nat.ne_of_lt (blk_lt s.br)
  have nf : gf ≠ go := by rw [hg]; exact Nat.ne_of_lt (blk_lt s.bf)
  have put : ∀ {g : Nat} {cs : Array Value}, W1.heap[g]? = some (.cells cs 26 (0, 0)) → g ≠ go → (((W1.setCell ⟨go, 0, none⟩ (.int .i64 p)).setCell ⟨go, 1, none⟩ (.int .i64 q)).setCell ⟨go, 2, none⟩ (.slice none 0 0)).heap[g]? = some (.cells cs 26 (0, 0)) := fun h n => blk_far (blk_far (blk_far h (p := ⟨go, 0, none⟩) n _) (p := ⟨go, 1, none⟩) n _) (p := ⟨go, 2, none⟩) n _
  exact ⟨⟨put s1.br nr, blk_put (blk_put (blk_put h 0 _ rfl) 1 _ rfl) 2 _ rfl, Kd.R_nil _ _ _ _ _, below_set (below_set (below_set s1.hb lo) lo) lo, s.lr, lo, nr⟩, put s1.bf nf⟩
theorem TB.call (s : TB w gr go gt c0 c1 ov out t W) (hb : Below W.heap.size W W') : TB w gr go gt c0 c1 ov out t W' := ⟨s.s.call hb, blk_below s.bt hb, s.lt⟩
theorem TB.drew (s : TB w gr go gt c0 c1 ov out t W) : TB w gr go gt c0 c1 ov out t W.drew := ⟨s.s.drew, blk_drew s.bt, s.lt⟩
theorem TB.new (s : TS w gr go c0 c1 ov out W) (hg : gt = W.heap.size) (hb : Below W.heap.size W W1) (h : W1.heap[gt]? = some (.cells #[.string (⟨#[]⟩ : ByteArray), .int .i64 0, .int .i64 0] 47 (0, 0))) (t : S47) :
    TB w gr go gt c0 c1 ov out t (((W1.setCell ⟨gt, 0, none⟩ (.string t.f0)).setCell ⟨gt, 1, none⟩ (.int .i64 t.f1.f0)).setCell ⟨gt, 2, none⟩ (.int .i64 t.f1.f1)) := by
  have s1 := s.call hb
  have lt : w.heap.size ≤ gt := by rw [hg]; exact s.hb.size
  have nr : gr ≠ gt := by rw [hg]; exact Nat.ne_of_lt (blk_lt s.br)
  have no : go ≠ gt := by rw [hg]; exact Nat.ne_of_lt (blk_lt s.bo)
  have r0 : Kd.R k47 47 W w.heap.size (fun k => k ≠ gt) ov out := Kd.R_mono (Kd.R_bound s.ro) (fun k hk => by have := hk.2.2.1; omega)
  have r1 := Kd.R_far (p := ⟨gt, 2, none⟩) (Kd.R_far (p := ⟨gt, 1, none⟩) (Kd.R_far (p := ⟨gt, 0, none⟩) (Kd.R_below r0 hb) (fun _ hk => hk) (.string t.f0)) (fun _ hk => hk) (.int .i64 t.f1.f0)) (fun _ hk => hk) (.int .i64 t.f1.f1)
  exact ⟨⟨blk_far (blk_far (blk_far s1.br (p := ⟨gt, 0, none⟩) nr _) (p := ⟨gt, 1, none⟩) nr _) (p := ⟨gt, 2, none⟩) nr _, blk_far (blk_far (blk_far s1.bo (p := ⟨gt, 0, none⟩) no _) (p := ⟨gt, 1, none⟩) no _) (p := ⟨gt, 2, none⟩) no _, Kd.R_mono r1 (fun _ _ => trivial), below_set (below_set (below_set s1.hb lt) lt) lt, s.lr, s.lo, s.nro⟩, blk_put (blk_put (blk_put h 0 _ rfl) 1 _ rfl) 2 _ rfl, lt⟩
theorem TV.call (s : TV w gr go gt gv c0 c1 ov out t p q W) (hb : Below W.heap.size W W') : TV w gr go gt gv c0 c1 ov out t p q W' := ⟨s.s.call hb, blk_below s.bv hb, s.lv⟩
theorem TV.new (s : TB w gr go gt c0 c1 ov out t W) (hg : gv = W.heap.size) (hb : Below W.heap.size W W1) (h : W1.heap[gv]? = some (.cells #[.int .i64 p, .int .i64 q] 23 (0, 0))) : TV w gr go gt gv c0 c1 ov out t p q W1 := ⟨s.call hb, h, by rw [hg]; exact s.s.hb.size⟩
theorem TV.set (s : TV w gr go gt gv c0 c1 ov out t 0 0 W) (p q : Int) : TV w gr go gt gv c0 c1 ov out t p q ((W.setCell ⟨gv, 0, none⟩ (.int .i64 p)).setCell ⟨gv, 1, none⟩ (.int .i64 q)) :=
  have b1 := blk_put s.bv 0 (.int .i64 p) rfl
  have n := blk_ne s.s.bt s.bv (by decide)
  ⟨⟨(s.s.s.far s.bv s.lv 0 _).far b1 s.lv 1 _, blk_far (blk_far s.s.bt (p := ⟨gv, 0, none⟩) n _) (p := ⟨gv, 1, none⟩) n _, s.s.lt⟩, blk_put b1 1 _ rfl, s.lv⟩
end
theorem jati {w W : World} {A : Option Addr} {l : List S47} (h : Kd.C k47 w A l.length l) (x : Int) (h0 : 0 ≤ x) (h1 : x < (l.length : Int)) : ∃ ad, A = some ad ∧ ∀ W, Below w.heap.size w W → W.cell? (ad.add (x.toNat * 3)) = some (.string (rd_T47 l x).f0) ∧ W.cell? ⟨(ad.add (x.toNat * 3)).block, (ad.add (x.toNat * 3)).off + 1, none⟩ = some (.int .i64 (rd_T47 l x).f1.f0) ∧ W.cell? ⟨(ad.add (x.toNat * 3)).block, (ad.add (x.toNat * 3)).off + 2, none⟩ = some (.int .i64 (rd_T47 l x).f1.f1) := by
  obtain ⟨ad, e, c0, c1, c2⟩ := at_T47 h x h0 h1
  exact ⟨ad, e, fun W hb => ⟨(hb.cell (World.block_lt_of_cell? w _ c0)).trans c0, (hb.cell (World.block_lt_of_cell? w _ c1)).trans c1, (hb.cell (World.block_lt_of_cell? w _ c2)).trans c2⟩⟩
theorem at_drop {l : List S47} {x : Int} (h0 : 0 ≤ x) (h : x < (l.length : Int)) : l.drop x.toNat = rd_T47 l x :: l.drop (x.toNat + 1) := by
  have hl : x.toNat < l.length := by omega
  rw [List.drop_eq_getElem_cons hl]
  congr 1
  unfold rd_T47
  rw [List.getD_eq_getElem?_getD, List.getElem?_eq_getElem hl]; rfl
def iix : Value → Nat
  | .int _ n => n.toNat
  | _ => 0
def linear_At.T10 : Bool × List (List Nat × List Nat) := (true, [([], []), ([0], [0]), ([], []), ([], []), ([2, 3], [2, 3]), ([4], [4]), ([5], [5]), ([1, 6], [1, 6]), ([7], [7]), ([8], [8]), ([8], [8]), ([], []), ([11, 9, 7, 0, 1, 2, 3, 4, 5, 6, 7, 8, 9, 11], [9, 11]), ([10, 12, 0, 1, 2, 3, 4, 5, 6, 7, 8, 9, 10, 11, 12], [10])])
def linear_At.B10 : List Nat := [0, 1, 0, 0, 12, 28, 60, 127, 255, 511, 511, 0, 3071, 8191]
theorem linear_At.tab10 : rtab .any (opsOf Tryz.f28 10) = linear_At.T10 := by kernel_rfl
theorem linear_At.bits10 : waitsOk linear_At.T10.2 linear_At.B10 = true := by kernel_rfl
set_option maxHeartbeats 8000000 in
set_option maxRecDepth 100000 in
theorem linear_At.calls (k : Nat) (a0_0 a0_1 : Int) (A0_2 : Option Addr) (c0_2 : Nat) (l0_2 : List S47) (A1 : Option Addr) (c1 : Nat) (l1 : List S47) (r1 r2 : Int) (r3 : List S47) (r4 : Int) (w : World) (hr0_2 : Kd.C k47 w A0_2 l0_2.length l0_2) (hc0_2 : l0_2.length ≤ c0_2) (hr1 : Kd.C k47 w A1 l1.length l1) (hc1 : l1.length ≤ c1) (h : linear_At.f k a0_0 a0_1 l0_2 l1 = some (r1, r2, r3, r4)) :
  Calls Tryz.prog 28 #[.agg #[.int .i64 a0_0, .int .i64 a0_1, .slice A0_2 l0_2.length c0_2], .slice A1 l1.length c1] w fun e w' => ∃ v2_ : Value, e = .returned (.tuple #[.agg #[.int .i64 r1, .int .i64 r2, v2_], .int .i64 r4]) ∧ Kd.R k47 47 w' w.heap.size (fun _ => True) v2_ r3 ∧ Below w.heap.size w w' := by
 have hu26 := Tryz.underlying26
 have hu23 := Tryz.underlying23
 have hu47 := Tryz.underlying47
 have hBs : Base w := Base.mk
 have HR0 := Fa.mk hr0_2
 have HC0 := Fa.mk hc0_2
 have HR1 := Fa.mk hr1
 have HC1 := Fa.mk hc1
 clear hr0_2 hc0_2 hr1 hc1
 unfold linear_At.f at h
 split at h
 ·
  cases h
 rename_i hbig
 have HBG : Fa (l0_2.length < 4398046511104) := ⟨by omega⟩
 clear hbig
 obtain ⟨v, hv, h⟩ := Option.bind_eq_some_iff.mp h
 have HV := Fa.mk hv
 clear hv
 by_cases hvt : v = true
 rotate_left
 ·
  rw [if_neg hvt] at h
  obtain rfl : v = false := by simpa using hvt
  simp only [Option.some.injEq, Prod.mk.injEq] at h
  obtain ⟨rfl, rfl, rfl, rfl⟩ := h
  clear hvt
  go_enter Tryz.func28, Tryz.ntmps28
  go_wp2_with (first | ((with_reducible refine gate_dst (N := 2) rfl ?_); refine boxF (N := 2) (cs := #[.int .i64 a0_0, .int .i64 a0_1, .slice A0_2 l0_2.length c0_2]) (t := 26) ?_; intro gf hg_gf w1 hx_gf hb_gf; have BF := Fa.mk hx_gf; have HB1 := Fa.mk hb_gf; clear hg_gf hx_gf hb_gf) | ((with_reducible refine gate_dst (N := 4) rfl ?_); refine boxF (N := 4) (cs := #[.int .i64 0, .int .i64 0, .slice none 0 0]) (t := 26) ?_; intro gr hg_gr w2 hx_gr hb_gr; have SF := Fa.mk (AF.mk (blk_below BF.out hb_gr) hx_gr (below_step HB1.out hb_gr) (Nat.le_trans HB1.out.size (Nat.le_of_eq hg_gr.symm))); clear hg_gr hx_gr hb_gr BF HB1; have HRV := Fa.mk (Kd.C_below HR0.out SF.out.hb); have cf0 := jcell SF.out.bf (i := 0) rfl; have cf1 := jcell SF.out.bf (i := 1) rfl; have cf2 := jcell SF.out.bf (i := 2) rfl) | (go_at_call 17; (with_reducible refine (linear_Valid.calls k a0_0 a0_1 _ _ l0_2 false _ HRV.out HC0.out HV.out).mono ?_); rintro e w3 ⟨rfl, hb⟩; have SF1 := Fa.mk (SF.out.call hb); clear hb SF HRV cf0 cf1 cf2; have SF := SF1; clear SF1; have HRV := Fa.mk (Kd.C_below HR1.out SF.out.hb); have cf0 := jcell SF.out.bf (i := 0) rfl; have cf1 := jcell SF.out.bf (i := 1) rfl; have cf2 := jcell SF.out.bf (i := 2) rfl; have cr0 := jcell SF.out.br (i := 0) rfl; have cr1 := jcell SF.out.br (i := 1) rfl; have cr2 := jcell SF.out.br (i := 2) rfl; have fr0 := blk_frozen SF.out.br 0; have fr1 := blk_frozen SF.out.br 1; have fr2 := blk_frozen SF.out.br 2))
  refine bodyPost_ret (results_ct rfl _ _ gr 26 #[.int .i64 0, .int .i64 0, .slice none 0 0] (0, 0) _ rfl (SF.out.ret (.int .i64 0) (.int .i64 0) (.slice none 0 0)).1 Tryz.underlying26 rfl (by kernel_rfl)) rfl ?_
  exact ⟨_, rfl, Kd.R_nil _ _ _ _ _, (SF.out.ret _ _ _).2⟩
 subst hvt
 rw [if_pos rfl] at h
 obtain ⟨v2, hv, h⟩ := Option.bind_eq_some_iff.mp h
 have HS := Fa.mk hv
 clear hv
 by_cases hvt : v2 = true
 rotate_left
 ·
  rw [if_neg hvt] at h
  obtain rfl : v2 = false := by simpa using hvt
  simp only [Option.some.injEq, Prod.mk.injEq] at h
  obtain ⟨rfl, rfl, rfl, rfl⟩ := h
  clear hvt
  go_enter Tryz.func28, Tryz.ntmps28
  go_wp2_with (first | ((with_reducible refine gate_dst (N := 2) rfl ?_); refine boxF (N := 2) (cs := #[.int .i64 a0_0, .int .i64 a0_1, .slice A0_2 l0_2.length c0_2]) (t := 26) ?_; intro gf hg_gf w1 hx_gf hb_gf; have BF := Fa.mk hx_gf; have HB1 := Fa.mk hb_gf; clear hg_gf hx_gf hb_gf) | ((with_reducible refine gate_dst (N := 4) rfl ?_); refine boxF (N := 4) (cs := #[.int .i64 0, .int .i64 0, .slice none 0 0]) (t := 26) ?_; intro gr hg_gr w2 hx_gr hb_gr; have SF := Fa.mk (AF.mk (blk_below BF.out hb_gr) hx_gr (below_step HB1.out hb_gr) (Nat.le_trans HB1.out.size (Nat.le_of_eq hg_gr.symm))); clear hg_gr hx_gr hb_gr BF HB1; have HRV := Fa.mk (Kd.C_below HR0.out SF.out.hb); have cf0 := jcell SF.out.bf (i := 0) rfl; have cf1 := jcell SF.out.bf (i := 1) rfl; have cf2 := jcell SF.out.bf (i := 2) rfl) | (go_at_call 17; (with_reducible refine (linear_Valid.calls k a0_0 a0_1 _ _ l0_2 true _ HRV.out HC0.out HV.out).mono ?_); rintro e w3 ⟨rfl, hb⟩; have SF1 := Fa.mk (SF.out.call hb); clear hb SF HRV cf0 cf1 cf2; have SF := SF1; clear SF1; have HRV := Fa.mk (Kd.C_below HR1.out SF.out.hb); have cf0 := jcell SF.out.bf (i := 0) rfl; have cf1 := jcell SF.out.bf (i := 1) rfl; have cf2 := jcell SF.out.bf (i := 2) rfl; have cr0 := jcell SF.out.br (i := 0) rfl; have cr1 := jcell SF.out.br (i := 1) rfl; have cr2 := jcell SF.out.br (i := 2) rfl; have fr0 := blk_frozen SF.out.br 0; have fr1 := blk_frozen SF.out.br 1; have fr2 := blk_frozen SF.out.br 2) | (go_at_call 45; (with_reducible refine (linear_rising.calls k _ _ l1 false _ HRV.out HC1.out HS.out).mono ?_); rintro e w4 ⟨rfl, hb⟩; have SF1 := Fa.mk (SF.out.call hb); clear hb SF HRV cf0 cf1 cf2 cr0 cr1 cr2 fr0 fr1 fr2; have SF := SF1; clear SF1; have cf0 := jcell SF.out.bf (i := 0) rfl; have cf1 := jcell SF.out.bf (i := 1) rfl; have cf2 := jcell SF.out.bf (i := 2) rfl; have cr0 := jcell SF.out.br (i := 0) rfl; have cr1 := jcell SF.out.br (i := 1) rfl; have cr2 := jcell SF.out.br (i := 2) rfl; have fr0 := blk_frozen SF.out.br 0; have fr1 := blk_frozen SF.out.br 1; have fr2 := blk_frozen SF.out.br 2))
  refine bodyPost_ret (results_ct rfl _ _ gr 26 #[.int .i64 0, .int .i64 0, .slice none 0 0] (0, 0) _ rfl (SF.out.ret (.int .i64 0) (.int .i64 0) (.slice none 0 0)).1 Tryz.underlying26 rfl (by kernel_rfl)) rfl ?_
  exact ⟨_, rfl, Kd.R_nil _ _ _ _ _, (SF.out.ret _ _ _).2⟩
 subst hvt
 rw [if_pos rfl] at h
 have HJ := Fa.mk h
 clear h
 go_enter Tryz.func28, Tryz.ntmps28
 go_upto_region 4 with (first | ((with_reducible refine gate_dst (N := 2) rfl ?_); refine boxF (N := 2) (cs := #[.int .i64 a0_0, .int .i64 a0_1, .slice A0_2 l0_2.length c0_2]) (t := 26) ?_; intro gf hg_gf w1 hx_gf hb_gf; have BF := Fa.mk hx_gf; have HB1 := Fa.mk hb_gf; clear hg_gf hx_gf hb_gf) | ((with_reducible refine gate_dst (N := 4) rfl ?_); refine boxF (N := 4) (cs := #[.int .i64 0, .int .i64 0, .slice none 0 0]) (t := 26) ?_; intro gr hg_gr w2 hx_gr hb_gr; have SF := Fa.mk (AF.mk (blk_below BF.out hb_gr) hx_gr (below_step HB1.out hb_gr) (Nat.le_trans HB1.out.size (Nat.le_of_eq hg_gr.symm))); clear hg_gr hx_gr hb_gr BF HB1; have HRV := Fa.mk (Kd.C_below HR0.out SF.out.hb); have cf0 := jcell SF.out.bf (i := 0) rfl; have cf1 := jcell SF.out.bf (i := 1) rfl; have cf2 := jcell SF.out.bf (i := 2) rfl) | (go_at_call 17; (with_reducible refine (linear_Valid.calls k a0_0 a0_1 _ _ l0_2 true _ HRV.out HC0.out HV.out).mono ?_); rintro e w3 ⟨rfl, hb⟩; have SF1 := Fa.mk (SF.out.call hb); clear hb SF HRV cf0 cf1 cf2; have SF := SF1; clear SF1; have HRV := Fa.mk (Kd.C_below HR1.out SF.out.hb); have cf0 := jcell SF.out.bf (i := 0) rfl; have cf1 := jcell SF.out.bf (i := 1) rfl; have cf2 := jcell SF.out.bf (i := 2) rfl; have cr0 := jcell SF.out.br (i := 0) rfl; have cr1 := jcell SF.out.br (i := 1) rfl; have cr2 := jcell SF.out.br (i := 2) rfl; have fr0 := blk_frozen SF.out.br 0; have fr1 := blk_frozen SF.out.br 1; have fr2 := blk_frozen SF.out.br 2) | (go_at_call 45; (with_reducible refine (linear_rising.calls k _ _ l1 true _ HRV.out HC1.out HS.out).mono ?_); rintro e w4 ⟨rfl, hb⟩; have SF1 := Fa.mk (SF.out.call hb); clear hb SF HRV cf0 cf1 cf2 cr0 cr1 cr2 fr0 fr1 fr2; have SF := SF1; clear SF1; have cf0 := jcell SF.out.bf (i := 0) rfl; have cf1 := jcell SF.out.bf (i := 1) rfl; have cf2 := jcell SF.out.bf (i := 2) rfl; have cr0 := jcell SF.out.br (i := 0) rfl; have cr1 := jcell SF.out.br (i := 1) rfl; have cr2 := jcell SF.out.br (i := 2) rfl; have fr0 := blk_frozen SF.out.br 0; have fr1 := blk_frozen SF.out.br 1; have fr2 := blk_frozen SF.out.br 2) | ((with_reducible refine gate_dst (N := 6) rfl ?_); refine boxF (N := 6) (cs := #[.int .i64 0, .int .i64 0, .slice none 0 0]) (t := 26) ?_; intro go hg_go w5 hx_go hb_go; have SS := Fa.mk (TS.start SF.out hg_go hb_go hx_go a0_0 a0_1); have co0 := jcell hx_go (i := 0) rfl; have co1 := jcell hx_go (i := 1) rfl; have co2 := jcell hx_go (i := 2) rfl; have fo0 := blk_frozen hx_go 0; have fo1 := blk_frozen hx_go 1; have fo2 := blk_frozen hx_go 2; clear hg_go hb_go hx_go cf0 cf1 cf2 cr0 cr1 cr2 fr0 fr1 fr2 SF))
 obtain ⟨S0, hf0⟩ := SS.out
 have S := Fa.mk S0
 have cf2 := jcell hf0 (i := 2) rfl
 generalize hW_ : (((w5.setCell ⟨go, 0, none⟩ (.int .i64 a0_0)).setCell ⟨go, 1, none⟩ (.int .i64 a0_1)).setCell ⟨go, 2, none⟩ (.slice none 0 0)) = w6 at S cf2 ⊢
 clear hW_ S0 hf0 SS co0 co1 co2 fo0 fo1 fo2
 go_wp2
 clear cf2
 go_loopw [28] (fun v28 W => ∃ (x : Int) (ov : Value) (out : List S47) (p q : Int), v28 = .int .i64 x ∧ 0 ≤ x ∧ x ≤ (l0_2.length : Int) ∧ out.length ≤ x.toNat ∧ Fa (atgo k l1 (l0_2.drop x.toNat) p q out = some (r1, r2, r3, r4)) ∧ Fa (TS w gr go p q ov out W)) (fun v28 _ => l0_2.length - iix v28)
 case atStart => exact ⟨0, _, [], a0_0, a0_1, rfl, by omega, by omega, Nat.le_refl _, HJ, S⟩
 case round =>
  clear S HJ
  obtain ⟨x, ov, out, p, q, rfl, h0, hle, hol, HJ, S⟩ := hrel
  by_cases hlt : x < (l0_2.length : Int)
  rotate_left
  ·
   have dw : decide (x < (l0_2.length : Int)) = false := decide_eq_false hlt
   have hd : l0_2.drop x.toNat = [] := List.drop_eq_nil_of_le (by omega)
   have hJ := HJ.out
   rw [hd] at hJ
   unfold atgo at hJ
   simp only [Option.some.injEq, Prod.mk.injEq] at hJ
   obtain ⟨rfl, rfl, rfl, rfl⟩ := hJ
   clear HJ hd hlt hle hol h0
   obtain ⟨Ao, co, hvo⟩ := Kd.R_slice S.out.ro
   subst hvo
   have co0 := jcell S.out.bo (i := 0) rfl
   have co1 := jcell S.out.bo (i := 1) rfl
   have co2 := jcell S.out.bo (i := 2) rfl
   have cr0 := jcell S.out.br (i := 0) rfl
   have cr1 := jcell S.out.br (i := 1) rfl
   have cr2 := jcell S.out.br (i := 2) rfl
   have fr0 := blk_frozen S.out.br 0
   have fr1 := blk_frozen S.out.br 1
   have fr2 := blk_frozen S.out.br 2
   have hn1 := S.out.nro
   have hn2 := hn1.symm
   go_wp2
   refine bodyPost_ret (results_ct rfl _ _ gr 26 #[.int .i64 p, .int .i64 q, .slice Ao out.length co] (0, 0) _ rfl (S.out.outs (.int .i64 p) (.int .i64 q) (.slice Ao out.length co)).1 Tryz.underlying26 rfl (by kernel_rfl)) rfl ?_
   exact ⟨_, rfl, (S.out.outs _ _ _).2.2, (S.out.outs _ _ _).2.1⟩
  have dw : decide (x < (l0_2.length : Int)) = true := decide_eq_true hlt
  obtain ⟨ad, rfl, HX⟩ := jati HR0.out x h0 hlt (W := w)
  have HXF := Fa.mk HX
  clear HX
  have hd := at_drop h0 hlt
  have hJ := HJ.out
  clear HJ
  rw [hd] at hJ
  unfold atgo at hJ
  have HXN : Fa (0 ≤ wrap64 (x + 1) ∧ wrap64 (x + 1) ≤ (l0_2.length : Int) ∧ (wrap64 (x + 1)).toNat = x.toNat + 1) := ⟨by have := HBG.out; unfold wrap64; omega⟩
  have HOL : Fa (out.length ≤ x.toNat) := ⟨hol⟩
  have HLT : Fa (x.toNat < l0_2.length) := ⟨by omega⟩
  obtain ⟨t, ht⟩ : ∃ t, t = rd_T47 l0_2 x := ⟨_, rfl⟩
  have HT := Fa.mk ht
  rw [← ht] at hJ
  obtain ⟨⟨b1, b2⟩, hb, hJ⟩ := Option.bind_eq_some_iff.mp hJ
  have HB := Fa.mk hb
  have HJ := Fa.mk hJ
  obtain ⟨cx0, cx1, cx2⟩ := HXF.out _ S.out.hb
  rw [← ht] at cx0 cx1 cx2
  clear hJ hb hd ht HXF hol hle
  have p0 := eq_true h0
  have q0 := eq_true hlt
  go_upto_region 7 with (((with_reducible refine gate_dst (N := 8) rfl ?_); refine boxF (N := 8) (cs := #[.string (⟨#[]⟩ : ByteArray), .int .i64 0, .int .i64 0]) (t := 47) ?_; intro gt hg_gt w7 hx_gt hb_gt; have SB := Fa.mk (TB.new S.out hg_gt hb_gt hx_gt t); have ct0 := jcell hx_gt (i := 0) rfl; have ct1 := jcell hx_gt (i := 1) rfl; have ct2 := jcell hx_gt (i := 2) rfl; have ft0 := blk_frozen hx_gt 0; have ft1 := blk_frozen hx_gt 1; have ft2 := blk_frozen hx_gt 2; clear hg_gt hb_gt hx_gt S; clear cx0 cx1 cx2))
  clear p0 q0 h0 hlt ct0 ct1 ct2 ft0 ft1 ft2
  generalize hW_ : (((w7.setCell ⟨gt, 0, none⟩ (.string t.f0)).setCell ⟨gt, 1, none⟩ (.int .i64 t.f1.f0)).setCell ⟨gt, 2, none⟩ (.int .i64 t.f1.f1)) = w8 at SB ⊢
  clear hW_
  have ct0 := jcell SB.out.bt (i := 0) rfl
  have ct1 := jcell SB.out.bt (i := 1) rfl
  have ct2 := jcell SB.out.bt (i := 2) rfl
  have HRV := Fa.mk (Kd.C_below HR1.out SB.out.s.hb)
  cases b2 with
  | false =>
   have hJ := HJ.out
   clear HJ
   dsimp only at hJ
   rw [if_neg (by decide)] at hJ
   obtain ⟨yo, hyo⟩ : ∃ y : List S47, y = out ++ [t] := ⟨_, rfl⟩
   rw [← hyo] at hJ
   have HYO := Fa.mk hyo
   have HJ2 := Fa.mk hJ
   clear hJ hyo
   go_upto_region 9 with ((go_at_call 53; (with_reducible refine (slices_BinarySearchFunc_at_54.calls k _ _ l1 t.f0 () b1 false _ HRV.out HC1.out HB.out).mono ?_); rintro e w9 ⟨rfl, hb⟩; have SB1 := Fa.mk (SB.out.call hb); clear hb SB HRV ct0 ct1 ct2; have SB := SB1; clear SB1; have ct0 := jcell SB.out.bt (i := 0) rfl; have ct1 := jcell SB.out.bt (i := 1) rfl; have ct2 := jcell SB.out.bt (i := 2) rfl))
   have co2 := jcell SB.out.s.bo (i := 2) rfl
   have fo2 := blk_frozen SB.out.s.bo 2
   go_wp2_with (((with_reducible refine gate_builtin (b := .append) (xs := #[.tmp 42, .tmp 44]) rfl ?_); (try (refine gate_guard (by rfl) ?_; dsimp only)); at_builtin; refine Kd.R_append k47 (w0 := w) w.heap.size rfl (.tmp 42) (.tmp 44) 24 47 (.agg #[(.string ⟨#[]⟩), (.int .i64 0), (.int .i64 0)]) 32 rfl Tryz.underlying24 info47 rfl (by decide) (by omega) ov out t [.string t.f0, .int .i64 t.f1.f0, .int .i64 t.f1.f1] (fun _ => True) (fun _ => False) rfl (by first | (go_simp; done) | (go_simp; rfl)) ?aP (fun _ hk => hk.elim) ?aF ?aO ?aB ?aS ?aL ?_; (case aP => exact k47_mkM _ _ _ t); (case aB => exact SB.out.s.hb); (case aF => exact fun _ _ => trivial); (case aO => exact SB.out.s.ro); (case aS => exact SB.out.s.hb.size); (case aL => have := HBG.out; have := HOL.out; have := HLT.out; omega); intro vo wo ho hb hg hat; rw [← HYO.out] at ho; have bo1 := blk_grown SB.out.s.bo hg (Kd.R_ne SB.out.s.ro SB.out.s.bo (by decide)); have SA := Fa.mk (SB.out.s.app ho hb hg); obtain ⟨Ao, co, hvo⟩ := Kd.R_slice ho; subst hvo; clear ct0 ct1 ct2 co2 fo2; have co2 := jcell bo1 (i := 2) rfl; have fo2 := blk_frozen bo1 2; clear ho hb hg hat bo1))
   go_roundw
   case rel => exact ⟨_, _, _, p, q, rfl, HXN.out.1, HXN.out.2.1, by have := HXN.out.2.2; have := HOL.out; rw [HYO.out]; simp only [List.length_append, List.length_cons, List.length_nil]; omega, ⟨by rw [HXN.out.2.2]; exact HJ2.out⟩, SA⟩
   case measure => have := HXN.out.2.2; have := HLT.out; simp only [iix]; omega
  | true =>
   have hJ := HJ.out
   clear HJ
   rw [if_pos rfl] at hJ
   split at hJ
   rotate_left
   ·
    cases hJ
   rename_i hb0
   split at hJ
   rotate_left
   ·
    cases hJ
   rename_i hb1
   obtain ⟨⟨v1, v2, v3⟩, hv, hJ⟩ := Option.bind_eq_some_iff.mp hJ
   dsimp only at hv hJ
   obtain ⟨ad1, rfl, HX⟩ := jati HR1.out b1 hb0 hb1 (W := w)
   have HX1 := Fa.mk HX
   clear HX
   obtain ⟨u, hu⟩ : ∃ u, u = rd_T47 l1 b1 := ⟨_, rfl⟩
   rw [← hu] at hv
   have HU := Fa.mk hu
   have HV2 := Fa.mk hv
   have HJ := Fa.mk hJ
   clear hv hJ hu
   go_upto_region 10 with ((go_at_call 53; (with_reducible refine (slices_BinarySearchFunc_at_54.calls k _ _ l1 t.f0 () b1 true _ HRV.out HC1.out HB.out).mono ?_); rintro e w9 ⟨rfl, hb⟩; have SB1 := Fa.mk (SB.out.call hb); clear hb SB HRV ct0 ct1 ct2; have SB := SB1; clear SB1; have ct0 := jcell SB.out.bt (i := 0) rfl; have ct1 := jcell SB.out.bt (i := 1) rfl; have ct2 := jcell SB.out.bt (i := 2) rfl))
   clear ct0 ct1 ct2
   have p1 := eq_true hb0
   have q1 := eq_true hb1
   refine startU 14 (S := TB w gr go gt p q ov out t) (ds := []) SB.out.drew (fun hHeld => ?_); refine with_tabW linear_At.tab10 linear_At.bits10 (fun HT_ HW_ => ?_)
   clear SB
   generalize World.drew _ = wd at hHeld ⊢
   refine pureU 0 (some 48) (upto 14 1) HT_ ?_
   refine pureU 2 (some 50) #[true, false, true, false, false, false, false, false, false, false, false, false, false, false] HT_ ?_
   refine pureU 3 (some 51) #[true, false, true, true, false, false, false, false, false, false, false, false, false, false] HT_ ?_
   refine pureU 4 (some 52) #[true, false, true, true, true, false, false, false, false, false, false, false, false, false] HT_ ?_
   refine pureU 5 (some 53) #[true, false, true, true, true, true, false, false, false, false, false, false, false, false] HT_ ?_
   refine takeU 1 (some 49) (upto 14 6) HT_ HW_ hHeld rfl (by intro w' s_; have c1 := jcell s_.bt (i := 1) rfl; have c2 := jcell s_.bt (i := 2) rfl; clear s_; go_simp; with_reducible rfl) ?_
   refine takeU 6 (some 54) (upto 14 7) HT_ HW_ hHeld rfl (by intro w' s_; obtain ⟨_, c1, c2⟩ := HX1.out _ s_.s.hb; rw [← HU.out] at c1 c2; clear s_; go_simp; with_reducible rfl) ?_
   clear p1 q1
   refine join_ (σ := Nat) 2 (upto 14 12) (fun s_ => [(55, .tuple #[.agg #[.int .i64 v1, .int .i64 v2], .int .i64 v3]), (47, .tuple #[.agg #[.int .i64 v1, .int .i64 v2], .int .i64 v3]), (56, .agg #[.int .i64 v1, .int .i64 v2]), (57, .int .i64 v3), (11, .pointer (some ⟨s_, 0, none⟩))]) (fun s_ w' => TV w gr go gt s_ p q ov out t 0 0 w') ?_ ?_
   rotate_left
   ·
    intro hCont
    refine two_ (i := 7) (j := 11) (Ni := some 55) (Nj := some 11) (upto 14 8) #[true, true, true, true, true, true, true, false, false, false, false, true, false, false] rfl rfl rfl rfl (two_of HT_.out (by kernel_rfl)) (by decide) (by decide) (fun K hK => ?_) (fun K hK => ?_)
    ·
     refine goes_ Tryz.func56 (by kernel_rfl) rfl #[.string (⟨#[42]⟩ : ByteArray), .agg #[.int .i64 t.f1.f0, .int .i64 t.f1.f1], .agg #[.int .i64 u.f1.f0, .int .i64 u.f1.f1]] (by rfl) rfl rfl (by (try simp only [List.map_toArray, List.map_cons, List.map_nil]); first | done | rfl) ?_
     refine (num_Near.calls k (⟨#[42]⟩ : ByteArray) t.f1.f0 t.f1.f1 u.f1.f0 u.f1.f1 v1 v2 v3 _ HV2.out).mono ?_
     rintro e wn ⟨rfl, hb⟩
     refine ⟨_, rfl, ?_⟩
     refine hK.out _ _ (hHeld.call hb) (fun hHeld1 => ?_)
     clear hK K hb hHeld
     refine normU (some 55) ?_
     refine pureU 8 (some 47) (upto 14 9) HT_ ?_
     refine pureU 9 (some 56) (upto 14 10) HT_ ?_
     refine pureU 10 (some 57) (upto 14 11) HT_ ?_
     refine oneU 11 (some 11) (upto 14 12) HT_ (fun K hK => ?_)
     refine box_step ?hg (N := 11) ?hd (cs := #[.int .i64 0, .int .i64 0]) (t := 23) ?hr ?_; (case hd => rfl); (case hg => rfl); (case hr => first | (go_simp; done) | (go_simp; rfl))
     intro gv hg wv hx hb
     have Q := TV.new hHeld1 hg hb hx
     refine hK.out _ _ Q.s (fun hHeld2 => ?_)
     clear hK K hg hx hb hHeld1
     refine normU (some 11) ?_
     exact norm_ (by simp only [putAll, Act.put, List.setIfInBounds_toArray, List.set_cons_zero, List.set_cons_succ]) (hCont gv _ Q)
    ·
     refine box_step ?hg (N := 11) ?hd (cs := #[.int .i64 0, .int .i64 0]) (t := 23) ?hr ?_; (case hd => rfl); (case hg => rfl); (case hr => first | (go_simp; done) | (go_simp; rfl))
     intro gv hg wv hx hb
     have Q := TV.new hHeld hg hb hx
     refine hK.out _ _ Q.s (fun hHeld1 => ?_)
     clear hK K hg hx hb hHeld
     refine normU (some 11) ?_
     refine oneU 7 (some 55) #[true, true, true, true, true, true, true, true, false, false, false, true, false, false] HT_ (fun K hK => ?_)
     refine goes_ Tryz.func56 (by kernel_rfl) rfl #[.string (⟨#[42]⟩ : ByteArray), .agg #[.int .i64 t.f1.f0, .int .i64 t.f1.f1], .agg #[.int .i64 u.f1.f0, .int .i64 u.f1.f1]] (by rfl) rfl rfl (by (try simp only [List.map_toArray, List.map_cons, List.map_nil]); first | done | rfl) ?_
     refine (num_Near.calls k (⟨#[42]⟩ : ByteArray) t.f1.f0 t.f1.f1 u.f1.f0 u.f1.f1 v1 v2 v3 _ HV2.out).mono ?_
     rintro e wn ⟨rfl, hb⟩
     refine ⟨_, rfl, ?_⟩
     have Q2 := Q.call hb
     refine hK.out _ _ Q2.s (fun hHeld2 => ?_)
     clear hK K hb Q hHeld1
     refine normU (some 55) ?_
     refine pureU 8 (some 47) #[true, true, true, true, true, true, true, true, true, false, false, true, false, false] HT_ ?_
     refine pureU 9 (some 56) #[true, true, true, true, true, true, true, true, true, true, false, true, false, false] HT_ ?_
     refine pureU 10 (some 57) (upto 14 12) HT_ ?_
     exact norm_ (by simp only [putAll, Act.put, List.setIfInBounds_toArray, List.set_cons_zero, List.set_cons_succ]) (hCont gv _ Q2)
   clear hHeld
   rintro gv wj Q
   have hHeld := Q.s
   refine norm_ (a' := ?_) ?_ ?_
   rotate_left
   ·
    simp only [putAll, Act.put, List.setIfInBounds_toArray, List.set_cons_zero, List.set_cons_succ]
    rfl
   have cv0 := jcell Q.bv (i := 0) rfl
   have cv1 := jcell Q.bv (i := 1) rfl
   have fv0 := blk_frozen Q.bv 0
   have fv1 := blk_frozen Q.bv 1
   have SV := Fa.mk (Q.set v1 v2)
   clear Q
   refine oneU 12 none (upto 14 13) HT_ (fun K hK => ?_)
   refine skip_ (w1 := ?_) (by rfl) rfl ?_ ?_
   rotate_left
   ·
    go_simp
    rfl
   have hS := SV.out.s
   refine hK.out _ _ hS (fun hHeld => ?_)
   clear hK K hS cv0 cv1 fv0 fv1
   generalize hW_ : ((wj.setCell ⟨gv, 0, none⟩ (.int .i64 v1)).setCell ⟨gv, 1, none⟩ (.int .i64 v2)) = wk at SV hHeld ⊢
   clear hW_ hHeld
   refine pureU 13 (some 12) (upto 14 14) HT_ ?_
   refine done_ (done_of HT_.out (by kernel_rfl)) ?_
   have hJ := HJ.out
   clear HJ
   by_cases h3 : v3 = 0
   rotate_left
   ·
    rw [if_neg h3] at hJ
    simp only [Option.some.injEq, Prod.mk.injEq] at hJ
    obtain ⟨rfl, rfl, rfl, rfl⟩ := hJ
    have d0 : (v3 == 0) = false := beq_eq_false_iff_ne.mpr h3
    have d1 : (v3 != 0) = true := bne_iff_ne.mpr h3
    clear h3
    have cr0 := jcell SV.out.s.s.br (i := 0) rfl
    have cr1 := jcell SV.out.s.s.br (i := 1) rfl
    have cr2 := jcell SV.out.s.s.br (i := 2) rfl
    have fr0 := blk_frozen SV.out.s.s.br 0
    have fr1 := blk_frozen SV.out.s.s.br 1
    have fr2 := blk_frozen SV.out.s.s.br 2
    have co0 := jcell SV.out.s.s.bo (i := 0) rfl
    have co1 := jcell SV.out.s.s.bo (i := 1) rfl
    have co2 := jcell SV.out.s.s.bo (i := 2) rfl
    have fo0 := blk_frozen SV.out.s.s.bo 0
    have fo1 := blk_frozen SV.out.s.s.bo 1
    have cv0 := jcell SV.out.bv (i := 0) rfl
    have cv1 := jcell SV.out.bv (i := 1) rfl
    go_wp2
    refine bodyPost_ret (results_ct rfl _ _ gr 26 #[.int .i64 0, .int .i64 0, .slice none 0 0] (0, 0) _ rfl (SV.out.s.s.outs (.int .i64 0) (.int .i64 0) (.slice none 0 0)).1 Tryz.underlying26 rfl (by kernel_rfl)) rfl ?_
    exact ⟨_, rfl, Kd.R_nil _ _ _ _ _, (SV.out.s.s.outs _ _ _).2.1⟩
   subst h3
   rw [if_pos rfl] at hJ
   obtain ⟨⟨m1, m2, m3⟩, hm, hJ⟩ := Option.bind_eq_some_iff.mp hJ
   dsimp only at hm hJ
   have HM := Fa.mk hm
   clear hm
   have cr0 := jcell SV.out.s.s.br (i := 0) rfl
   have cr1 := jcell SV.out.s.s.br (i := 1) rfl
   have cr2 := jcell SV.out.s.s.br (i := 2) rfl
   have fr0 := blk_frozen SV.out.s.s.br 0
   have fr1 := blk_frozen SV.out.s.s.br 1
   have fr2 := blk_frozen SV.out.s.s.br 2
   have co0 := jcell SV.out.s.s.bo (i := 0) rfl
   have co1 := jcell SV.out.s.s.bo (i := 1) rfl
   have co2 := jcell SV.out.s.s.bo (i := 2) rfl
   have fo0 := blk_frozen SV.out.s.s.bo 0
   have fo1 := blk_frozen SV.out.s.s.bo 1
   have cv0 := jcell SV.out.bv (i := 0) rfl
   have cv1 := jcell SV.out.bv (i := 1) rfl
   by_cases hm3 : m3 = 0
   rotate_left
   ·
    rw [if_neg hm3] at hJ
    simp only [Option.some.injEq, Prod.mk.injEq] at hJ
    obtain ⟨rfl, rfl, rfl, rfl⟩ := hJ
    have d0 : (m3 == 0) = false := beq_eq_false_iff_ne.mpr hm3
    have d1 : (m3 != 0) = true := bne_iff_ne.mpr hm3
    clear hm3
    go_wp2_with ((go_at_call 56; (with_reducible refine (num_Near.calls k (⟨#[43]⟩ : ByteArray) p q v1 v2 m1 m2 m3 _ HM.out).mono ?_); rintro e w9 ⟨rfl, hb⟩; have S9 := Fa.mk (SV.out.call hb).s.s; clear hb SV cv0 cv1 cr0 cr1 cr2 fr0 fr1 fr2 co0 co1 co2 fo0 fo1; have SZ := Fa.mk (S9.out.setn m1 m2); have co0 := jcell S9.out.bo (i := 0) rfl; have co1 := jcell S9.out.bo (i := 1) rfl; have fo0 := blk_frozen S9.out.bo 0; have fo1 := blk_frozen S9.out.bo 1; have cr0 := jcell S9.out.br (i := 0) rfl; have cr1 := jcell S9.out.br (i := 1) rfl; have cr2 := jcell S9.out.br (i := 2) rfl; have fr0 := blk_frozen S9.out.br 0; have fr1 := blk_frozen S9.out.br 1; have fr2 := blk_frozen S9.out.br 2; have hn1 := S9.out.nro; have hn2 := hn1.symm))
    refine bodyPost_ret (results_ct rfl _ _ gr 26 #[.int .i64 0, .int .i64 0, .slice none 0 0] (0, 0) _ rfl (SZ.out.outs (.int .i64 0) (.int .i64 0) (.slice none 0 0)).1 Tryz.underlying26 rfl (by kernel_rfl)) rfl ?_
    exact ⟨_, rfl, Kd.R_nil _ _ _ _ _, (SZ.out.outs _ _ _).2.1⟩
   subst hm3
   rw [if_pos rfl] at hJ
   have HJ2 := Fa.mk hJ
   clear hJ
   go_wp2_with ((go_at_call 56; (with_reducible refine (num_Near.calls k (⟨#[43]⟩ : ByteArray) p q v1 v2 m1 m2 0 _ HM.out).mono ?_); rintro e w9 ⟨rfl, hb⟩; have S9 := Fa.mk (SV.out.call hb).s.s; clear hb SV cv0 cv1 cr0 cr1 cr2 fr0 fr1 fr2 co0 co1 co2 fo0 fo1; have SZ := Fa.mk (S9.out.setn m1 m2); have co0 := jcell S9.out.bo (i := 0) rfl; have co1 := jcell S9.out.bo (i := 1) rfl; have fo0 := blk_frozen S9.out.bo 0; have fo1 := blk_frozen S9.out.bo 1; have cr0 := jcell S9.out.br (i := 0) rfl; have cr1 := jcell S9.out.br (i := 1) rfl; have cr2 := jcell S9.out.br (i := 2) rfl; have fr0 := blk_frozen S9.out.br 0; have fr1 := blk_frozen S9.out.br 1; have fr2 := blk_frozen S9.out.br 2; have hn1 := S9.out.nro; have hn2 := hn1.symm))
   go_roundw
   case rel => exact ⟨_, ov, out, m1, m2, rfl, HXN.out.1, HXN.out.2.1, by have := HXN.out.2.2; have := HOL.out; omega, ⟨by rw [HXN.out.2.2]; exact HJ2.out⟩, SZ⟩
   case measure => have := HXN.out.2.2; have := HLT.out; simp only [iix]; omega
def strconv_FormatInt.f (a0 a1 : Int) : Option ByteArray := if a1 = 10 ∧ -9223372036854775808 ≤ a0 ∧ a0 ≤ 9223372036854775807 then some ⟨(Lib.itoa a0).toArray⟩ else none
theorem strconv_FormatInt.calls (a0 : Int) (a1 : Int) (r : ByteArray) (w : World) (h : strconv_FormatInt.f a0 a1 = some r) (hG : Glob w) :
  Calls Tryz.prog 87 #[.int .i64 a0, .int .i64 a1] w fun e w' => e = .returned (.string r) ∧ Below w.heap.size w w' := by
 unfold strconv_FormatInt.f at h
 split at h
 ·
  rename_i hc
  obtain ⟨rfl, h0, h1⟩ := hc
  obtain rfl := Option.some.inj h
  refine (Tryz.strconv_FormatInt_10 a0 h0 h1 w hG.1.1).mono ?_
  rintro e w' ⟨rfl, k, os, rfl⟩
  exact ⟨rfl, below_grow_drewN w k os⟩
 ·
  cases h
def num_Text.f (k : Nat) (a0_0 : Int) (a0_1 : Int) : Option (ByteArray × Int) := (num_Valid.f k a0_0 a0_1).bind fun t235 => (if t235 = true then ((strconv_FormatInt.f a0_0 10).bind fun t236 => (if a0_1 = 1 then (some (t236, 0)) else ((strconv_FormatInt.f a0_1 10).bind fun t237 => (if 1 + t237.size ≤ 9223372036854775807 then (if t236.size + ((⟨#[47]⟩ : ByteArray) ++ t237).size ≤ 9223372036854775807 then (some (t236 ++ ((⟨#[47]⟩ : ByteArray) ++ t237), 0)) else (none)) else (none))))) else (some ((⟨#[]⟩ : ByteArray), 2)))
theorem num_Text.mono : ∀ a0 a1 k, LeO (num_Text.f k a0 a1) (num_Text.f (k + 1) a0 a1) := by
  intro a0 a1 k
  unfold num_Text.f
  repeat' first
      | (with_reducible exact num_Valid.mono _ _ _)
      | (with_reducible exact LeO.refl _)
      | (with_reducible exact LeO.none _)
      | (with_reducible refine LeO.ite ?_ ?_)
      | (with_reducible refine LeO.bind ?_ (fun _ => ?_))
      | exact num_Valid.mono _ _ _
      | exact LeO.none _
      | refine LeO.ite ?_ ?_
      | refine LeO.bind ?_ (fun _ => ?_)
set_option maxHeartbeats 8000000 in
set_option maxRecDepth 100000 in
theorem num_Text.calls (k : Nat) (a0_0 : Int) (a0_1 : Int) (r1 : ByteArray) (r2 : Int) (w : World) (h : num_Text.f k a0_0 a0_1 = some (r1, r2)) (hG : Glob w) :
  Calls Tryz.prog 60 #[.agg #[.int .i64 a0_0, .int .i64 a0_1]] w fun e w' => e = .returned (.tuple #[.string r1, .int .i64 r2]) ∧ Below w.heap.size w w' := by
 have HG := Fa.mk hG
 clear hG
 have hu23 := Tryz.underlying23
 have HB := Fa.mk (Below.refl w.heap.size w)
 have H : ((num_Valid.f k a0_0 a0_1).bind fun t235 => (if t235 = true then ((strconv_FormatInt.f a0_0 10).bind fun t236 => (if a0_1 = 1 then (some (t236, 0)) else ((strconv_FormatInt.f a0_1 10).bind fun t237 => (if 1 + t237.size ≤ 9223372036854775807 then (if t236.size + ((⟨#[47]⟩ : ByteArray) ++ t237).size ≤ 9223372036854775807 then (some (t236 ++ ((⟨#[47]⟩ : ByteArray) ++ t237), 0)) else (none)) else (none))))) else (some ((⟨#[]⟩ : ByteArray), 2)))) = some (r1, r2) := h
 clear h
 replace H := Option.bind_eq_some_iff.mp H
 obtain ⟨t235, A20, H⟩ := H
 (try dsimp only at H)
 have A2 := Fa.mk A20
 clear A20
 by_cases c3 : t235 = true
 ·
  subst c3
  rw [if_pos rfl] at H
  replace H := Option.bind_eq_some_iff.mp H
  obtain ⟨t236, A40, H⟩ := H
  (try dsimp only at H)
  have A4 := Fa.mk A40
  clear A40
  by_cases c5 : a0_1 = 1
  ·
   rw [if_pos c5] at H
   have c5b0 : (a0_1 == 1) = true := beq_iff_eq.mpr c5
   have c5b1 : (a0_1 != 1) = false := bne_eq_false_iff_eq.mpr c5
   clear c5
   simp only [Option.some.injEq, Prod.mk.injEq] at H
   obtain ⟨rfl, rfl⟩ := H
   go_enter Tryz.func60, Tryz.ntmps60
   go_wp2_with (first | ((with_reducible refine gate_dst (N := 1) rfl ?_); refine boxF (N := 1) (cs := #[.int .i64 a0_0, .int .i64 a0_1]) (t := 23) ?_; intro gb234 hg w6 hbox hb; have hS := Stp.mk hb; have BK234 := Fa.mk (hbox); have GW234 := Fa.mk (gle hg : w.heap.size ≤ gb234); have GE234 := GW234; clear hb hbox hg; have hcz7_0 := jcell BK234.out (i := 0) rfl; have hcz7_1 := jcell BK234.out (i := 1) rfl; have hfz7_0 := blk_frozen BK234.out 0; have hfz7_1 := blk_frozen BK234.out 1) | ((with_reducible refine gate_callee (f := 44) rfl ?_); refine goesA (some 6) rfl rfl Tryz.func44 (by kernel_rfl) rfl #[.agg #[.int .i64 a0_0, .int .i64 a0_1]] rfl ?_; (with_reducible refine (num_Valid.calls k a0_0 a0_1 true _ A2.out).mono ?_); rintro e w8 ⟨rfl, hb⟩; refine ⟨_, rfl, ?_⟩; have hS := Stp.mk hb; have BK234 := (⟨fa⟩ : Fa (w8.heap[gb234]? = some (.cells #[.int .i64 a0_0, .int .i64 a0_1] 23 (0, 0)))); clear hb; have hcz9_0 := jcell BK234.out (i := 0) rfl; have hcz9_1 := jcell BK234.out (i := 1) rfl; have hfz9_0 := blk_frozen BK234.out 0; have hfz9_1 := blk_frozen BK234.out 1) | ((with_reducible refine gate_callee (f := 87) rfl ?_); refine goesA (some 10) rfl rfl Tryz.func87 (by kernel_rfl) rfl #[.int .i64 a0_0, .int .i64 10] rfl ?_; (with_reducible refine (strconv_FormatInt.calls a0_0 10 t236 _ A4.out (HG.out.below fa)).mono ?_); rintro e w10 ⟨rfl, hb⟩; refine ⟨_, rfl, ?_⟩; have hS := Stp.mk hb; have BK234 := (⟨fa⟩ : Fa (w10.heap[gb234]? = some (.cells #[.int .i64 a0_0, .int .i64 a0_1] 23 (0, 0)))); clear hb; have hcz11_0 := jcell BK234.out (i := 0) rfl; have hcz11_1 := jcell BK234.out (i := 1) rfl; have hfz11_0 := blk_frozen BK234.out 0; have hfz11_1 := blk_frozen BK234.out 1))
   go_ret2
   exact ⟨rfl, fa⟩
  ·
   rw [if_neg c5] at H
   have c5b0 : (a0_1 == 1) = false := beq_eq_false_iff_ne.mpr c5
   have c5b1 : (a0_1 != 1) = true := bne_iff_ne.mpr c5
   replace H := Option.bind_eq_some_iff.mp H
   obtain ⟨t237, A120, H⟩ := H
   (try dsimp only at H)
   have A12 := Fa.mk A120
   clear A120
   by_cases c13 : 1 + t237.size ≤ 9223372036854775807
   ·
    rw [if_pos c13] at H
    have c13b0 := eq_true c13
    have c13b1 : decide (1 + t237.size ≤ 9223372036854775807) = true := decide_eq_true c13
    try have c13b2 : (9223372036854775807 < 1 + t237.size) = False := eq_false (Nat.not_lt.2 c13)
    by_cases c14 : t236.size + ((⟨#[47]⟩ : ByteArray) ++ t237).size ≤ 9223372036854775807
    ·
     rw [if_pos c14] at H
     have c14b0 := eq_true c14
     have c14b1 : decide (t236.size + ((⟨#[47]⟩ : ByteArray) ++ t237).size ≤ 9223372036854775807) = true := decide_eq_true c14
     try have c14b2 : (9223372036854775807 < t236.size + ((⟨#[47]⟩ : ByteArray) ++ t237).size) = False := eq_false (Nat.not_lt.2 c14)
     simp only [Option.some.injEq, Prod.mk.injEq] at H
     obtain ⟨rfl, rfl⟩ := H
     go_enter Tryz.func60, Tryz.ntmps60
     go_wp2_with (first | ((with_reducible refine gate_dst (N := 1) rfl ?_); refine boxF (N := 1) (cs := #[.int .i64 a0_0, .int .i64 a0_1]) (t := 23) ?_; intro gb234 hg w15 hbox hb; have hS := Stp.mk hb; have BK234 := Fa.mk (hbox); have GW234 := Fa.mk (gle hg : w.heap.size ≤ gb234); have GE234 := GW234; clear hb hbox hg; have hcz16_0 := jcell BK234.out (i := 0) rfl; have hcz16_1 := jcell BK234.out (i := 1) rfl; have hfz16_0 := blk_frozen BK234.out 0; have hfz16_1 := blk_frozen BK234.out 1) | ((with_reducible refine gate_callee (f := 44) rfl ?_); refine goesA (some 6) rfl rfl Tryz.func44 (by kernel_rfl) rfl #[.agg #[.int .i64 a0_0, .int .i64 a0_1]] rfl ?_; (with_reducible refine (num_Valid.calls k a0_0 a0_1 true _ A2.out).mono ?_); rintro e w17 ⟨rfl, hb⟩; refine ⟨_, rfl, ?_⟩; have hS := Stp.mk hb; have BK234 := (⟨fa⟩ : Fa (w17.heap[gb234]? = some (.cells #[.int .i64 a0_0, .int .i64 a0_1] 23 (0, 0)))); clear hb; have hcz18_0 := jcell BK234.out (i := 0) rfl; have hcz18_1 := jcell BK234.out (i := 1) rfl; have hfz18_0 := blk_frozen BK234.out 0; have hfz18_1 := blk_frozen BK234.out 1) | ((with_reducible refine gate_callee (f := 87) rfl ?_); refine goesA (some 10) rfl rfl Tryz.func87 (by kernel_rfl) rfl #[.int .i64 a0_0, .int .i64 10] rfl ?_; (with_reducible refine (strconv_FormatInt.calls a0_0 10 t236 _ A4.out (HG.out.below fa)).mono ?_); rintro e w19 ⟨rfl, hb⟩; refine ⟨_, rfl, ?_⟩; have hS := Stp.mk hb; have BK234 := (⟨fa⟩ : Fa (w19.heap[gb234]? = some (.cells #[.int .i64 a0_0, .int .i64 a0_1] 23 (0, 0)))); clear hb; have hcz20_0 := jcell BK234.out (i := 0) rfl; have hcz20_1 := jcell BK234.out (i := 1) rfl; have hfz20_0 := blk_frozen BK234.out 0; have hfz20_1 := blk_frozen BK234.out 1) | ((with_reducible refine gate_callee (f := 87) rfl ?_); refine goesA (some 17) rfl rfl Tryz.func87 (by kernel_rfl) rfl #[.int .i64 a0_1, .int .i64 10] rfl ?_; (with_reducible refine (strconv_FormatInt.calls a0_1 10 t237 _ A12.out (HG.out.below fa)).mono ?_); rintro e w21 ⟨rfl, hb⟩; refine ⟨_, rfl, ?_⟩; have hS := Stp.mk hb; clear hb))
     go_ret2
     exact ⟨rfl, fa⟩
    ·
     rw [if_neg c14] at H
     exact absurd H (by simp)
   ·
    rw [if_neg c13] at H
    exact absurd H (by simp)
 ·
  replace c3 := Bool.eq_false_iff.mpr c3
  subst c3
  rw [if_neg (show ¬ (false = true) by decide)] at H
  simp only [Option.some.injEq, Prod.mk.injEq] at H
  obtain ⟨rfl, rfl⟩ := H
  go_enter Tryz.func60, Tryz.ntmps60
  go_wp2_with (first | ((with_reducible refine gate_dst (N := 1) rfl ?_); refine boxF (N := 1) (cs := #[.int .i64 a0_0, .int .i64 a0_1]) (t := 23) ?_; intro gb234 hg w22 hbox hb; have hS := Stp.mk hb; have BK234 := Fa.mk (hbox); have GW234 := Fa.mk (gle hg : w.heap.size ≤ gb234); have GE234 := GW234; clear hb hbox hg; have hcz23_0 := jcell BK234.out (i := 0) rfl; have hcz23_1 := jcell BK234.out (i := 1) rfl; have hfz23_0 := blk_frozen BK234.out 0; have hfz23_1 := blk_frozen BK234.out 1) | ((with_reducible refine gate_callee (f := 44) rfl ?_); refine goesA (some 6) rfl rfl Tryz.func44 (by kernel_rfl) rfl #[.agg #[.int .i64 a0_0, .int .i64 a0_1]] rfl ?_; (with_reducible refine (num_Valid.calls k a0_0 a0_1 false _ A2.out).mono ?_); rintro e w24 ⟨rfl, hb⟩; refine ⟨_, rfl, ?_⟩; have hS := Stp.mk hb; clear hb))
  go_ret2
  exact ⟨rfl, fa⟩
end Go.Proofs.YtilamkcpbibnmaaGreatDoor.P
