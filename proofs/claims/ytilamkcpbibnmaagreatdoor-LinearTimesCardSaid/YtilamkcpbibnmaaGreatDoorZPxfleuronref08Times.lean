import Derived.Test.YtilamkcpbibnmaaGreatDoorZPx0
import Derived.Test.YtilamkcpbibnmaaGreatDoorZPxfleuronlaw08few
import Derived.Test.YtilamkcpbibnmaaGreatDoorZPxfleuronref08Same
import Derived.Test.YtilamkcpbibnmaaGreatDoorZPxlineareach
import Derived.Test.YtilamkcpbibnmaaGreatDoorZPxlinearOver
import Derived.Test.YtilamkcpbibnmaaGreatDoorZPxfleuronlaw08number
import Derived.Test.YtilamkcpbibnmaaGreatDoorZPxfleuronref01gcd
import Derived.Test.YtilamkcpbibnmaaGreatDoorZPxfleuronref08each
namespace Go.Proofs.YtilamkcpbibnmaaGreatDoor.P
open Go.RowKit Go.Proofs.YtilamkcpbibnmaaGreatDoorW.PrintWords Go.Proofs.YtilamkcpbibnmaaGreatDoorW.PrintLast Go.Proofs.YtilamkcpbibnmaaGreatDoorW.PrintMore
attribute [local go_sem] max2_int min2_int max_two min_two max_three min_three max_four min_four
set_option linter.unusedVariables false
set_option linter.unusedSimpArgs false
def fleuronref08_Times.f (k : Nat) (a0_0 : Int) (a0_1 : Int) (l0_2 : List (S47)) (a1_0 : Int) (a1_1 : Int) : Option (Int × Int × (List (S47)) × Int) := (fleuronref08_each.f k (⟨#[42]⟩ : ByteArray) a0_0 a0_1 l0_2 a1_0 a1_1).bind fun bt385 => (some (bt385.1, bt385.2.1, bt385.2.2.1, bt385.2.2.2))
set_option maxHeartbeats 8000000 in
set_option maxRecDepth 100000 in
theorem fleuronref08_Times.calls (k : Nat) (a0_0 : Int) (a0_1 : Int) (A0_2 : Option Addr) (c0_2 : Nat) (l0_2 : List (S47)) (a1_0 : Int) (a1_1 : Int) (r1 : Int) (r2 : Int) (r3 : List (S47)) (r4 : Int) (w : World) (hr0_2 : Kd.C k47 w A0_2 l0_2.length l0_2) (hc0_2 : l0_2.length ≤ c0_2) (h : fleuronref08_Times.f k a0_0 a0_1 l0_2 a1_0 a1_1 = some (r1, r2, r3, r4)) :
  Calls Tryz.prog 21 #[.agg #[.int .i64 a0_0, .int .i64 a0_1, .slice A0_2 l0_2.length c0_2], .agg #[.int .i64 a1_0, .int .i64 a1_1]] w fun e w' => ∃ v2_ : Value, e = .returned (.tuple #[.agg #[.int .i64 r1, .int .i64 r2, v2_], .int .i64 r4]) ∧ Kd.R k47 47 w' w.heap.size (fun _ => True) v2_ r3 ∧ Below w.heap.size w w' := by
 have hu26 := Tryz.underlying26
 have hu23 := Tryz.underlying23
 have HR0_2 := Fa.mk hr0_2
 have HC0_2 := Fa.mk hc0_2
 clear hr0_2 hc0_2
 have HB := Fa.mk (Below.refl w.heap.size w)
 have H : ((fleuronref08_each.f k (⟨#[42]⟩ : ByteArray) a0_0 a0_1 l0_2 a1_0 a1_1).bind fun bt385 => (some (bt385.1, bt385.2.1, bt385.2.2.1, bt385.2.2.2))) = some (r1, r2, r3, r4) := h
 clear h
 replace H := Option.bind_eq_some_iff.mp H
 obtain ⟨⟨t385, t386, t387, t390⟩, A30, H⟩ := H
 (try dsimp only at H)
 have A3 := Fa.mk A30
 clear A30
 simp only [Option.some.injEq, Prod.mk.injEq] at H
 obtain ⟨rfl, rfl, rfl, rfl⟩ := H
 go_enter Tryz.func21, Tryz.ntmps21
 go_wp2_with (first | ((with_reducible refine gate_dst (N := 2) rfl ?_); refine boxF (N := 2) (cs := #[.int .i64 a0_0, .int .i64 a0_1, .slice A0_2 l0_2.length c0_2]) (t := 26) ?_; intro gb382 hg w4 hbox hb; have hS := Stp.mk hb; have BK382 := Fa.mk (hbox); have GW382 := Fa.mk (gle hg : w.heap.size ≤ gb382); have GE382 := GW382; clear hb hbox hg) | ((with_reducible refine gate_dst (N := 3) rfl ?_); refine boxF (N := 3) (cs := #[.int .i64 a1_0, .int .i64 a1_1]) (t := 23) ?_; intro gb383 hg w5 hbox hb; have hS := Stp.mk hb; have BK383 := Fa.mk (hbox); have GW383 := Fa.mk (gle hg : w.heap.size ≤ gb383); have GE383 := GW383; have NB382_383 := Fa.mk (gne (o := .cells #[.int .i64 a0_0, .int .i64 a0_1, .slice A0_2 l0_2.length c0_2] 26 (0, 0)) hg : gb382 ≠ gb383); have NB383_382 := Fa.mk NB382_383.out.symm; clear hb hbox hg) | ((with_reducible refine gate_dst (N := 4) rfl ?_); refine boxF (N := 4) (cs := #[.int .i64 0, .int .i64 0, .slice none 0 0]) (t := 26) ?_; intro gb384 hg w6 hbox hb; have hS := Stp.mk hb; have BK382 := (⟨fa⟩ : Fa (w6.heap[gb382]? = some (.cells #[.int .i64 a0_0, .int .i64 a0_1, .slice A0_2 l0_2.length c0_2] 26 (0, 0)))); have BK383 := (⟨fa⟩ : Fa (w6.heap[gb383]? = some (.cells #[.int .i64 a1_0, .int .i64 a1_1] 23 (0, 0)))); have BK384 := Fa.mk (hbox); have GW384 := Fa.mk (gle hg : w.heap.size ≤ gb384); have GE384 := GW384; have NB382_384 := Fa.mk (gne (o := .cells #[.int .i64 a0_0, .int .i64 a0_1, .slice A0_2 l0_2.length c0_2] 26 (0, 0)) hg : gb382 ≠ gb384); have NB384_382 := Fa.mk NB382_384.out.symm; have NB383_384 := Fa.mk (gne (o := .cells #[.int .i64 a1_0, .int .i64 a1_1] 23 (0, 0)) hg : gb383 ≠ gb384); have NB384_383 := Fa.mk NB383_384.out.symm; clear hb hbox hg; have hnb7 := NB382_383.out; have hnc7 := NB383_382.out; have hnb8 := NB382_384.out; have hnc8 := NB384_382.out; have hcz9_0 := jcell BK382.out (i := 0) rfl; have hcz9_1 := jcell BK382.out (i := 1) rfl; have hcz9_2 := jcell BK382.out (i := 2) rfl; have hfz9_0 := blk_frozen BK382.out 0; have hfz9_1 := blk_frozen BK382.out 1; have hfz9_2 := blk_frozen BK382.out 2; have hnb10 := NB383_384.out; have hnc10 := NB384_383.out; have hcz11_0 := jcell BK383.out (i := 0) rfl; have hcz11_1 := jcell BK383.out (i := 1) rfl; have hfz11_0 := blk_frozen BK383.out 0; have hfz11_1 := blk_frozen BK383.out 1) | ((with_reducible refine gate_callee (f := 50) rfl ?_); refine goesA (some 8) rfl rfl Tryz.func50 (by kernel_rfl) rfl #[.string (⟨#[42]⟩ : ByteArray), .agg #[.int .i64 a0_0, .int .i64 a0_1, .slice A0_2 l0_2.length c0_2], .agg #[.int .i64 a1_0, .int .i64 a1_1]] rfl ?_; (with_reducible refine (fleuronref08_each.calls k (⟨#[42]⟩ : ByteArray) a0_0 a0_1 _ _ l0_2 a1_0 a1_1 t385 t386 t387 t390 _ ?side1 ?side2 A3.out).mono ?_); (case side1 => repeat (first | exact (Kd.C_below HR0_2.out fa) | (with_reducible refine Kd.C_alloc ?_ _) | (with_reducible refine Kd.C_drewN ?_ _) | (with_reducible refine Kd.C_drew ?_))); (case side2 => exact HC0_2.out); rintro e w12 ⟨v388, rfl, ho0, hb⟩; refine ⟨_, rfl, ?_⟩; have n0_ := Fa.mk (Kd.R_lower ho0 (bsz w)); have n1_ := Fa.mk (blk_below (g := gb382) (o := .cells #[.int .i64 a0_0, .int .i64 a0_1, .slice A0_2 l0_2.length c0_2] 26 (0, 0)) fa hb); have n2_ := Fa.mk (blk_below (g := gb383) (o := .cells #[.int .i64 a1_0, .int .i64 a1_1] 23 (0, 0)) fa hb); have n3_ := Fa.mk (blk_below (g := gb384) (o := .cells #[.int .i64 0, .int .i64 0, .slice none 0 0] 26 (0, 0)) fa hb); have n4_ := Fa.mk (bst w hb); clear BK382; clear BK383; clear BK384; clear HB; have HO389 := n0_; have BK382 := n1_; have BK383 := n2_; have BK384 := n3_; have HB := n4_; clear n0_ n1_ n2_ n3_ n4_; (try clear hb); (try clear hb2); (try clear hk); (try clear hi); (try clear ho0); have hcz13_0 := jcell BK384.out (i := 0) rfl; have hcz13_1 := jcell BK384.out (i := 1) rfl; have hcz13_2 := jcell BK384.out (i := 2) rfl; have hfz13_0 := blk_frozen BK384.out 0; have hfz13_1 := blk_frozen BK384.out 1; have hfz13_2 := blk_frozen BK384.out 2; obtain ⟨Ao14, co14, eo14⟩ := Kd.R_slice HO389.out; subst eo14))
 refine bodyPost_ret (results_ct rfl _ _ gb384 26 #[.int .i64 t385, .int .i64 t386, .slice Ao14 t387.length co14] (0, 0) _ rfl (by (with_reducible repeat (first | refine blk_drewN ?_ _ | refine blk_drew ?_ | refine blk_alloc ?_ _)); refine blk_put (cs := #[.int .i64 t385, .int .i64 t386, .slice none 0 0]) ?_ 2 _ rfl; (with_reducible repeat (first | refine blk_drewN ?_ _ | refine blk_drew ?_ | refine blk_alloc ?_ _)); refine blk_put (cs := #[.int .i64 t385, .int .i64 0, .slice none 0 0]) ?_ 1 _ rfl; (with_reducible repeat (first | refine blk_drewN ?_ _ | refine blk_drew ?_ | refine blk_alloc ?_ _)); refine blk_put (cs := #[.int .i64 0, .int .i64 0, .slice none 0 0]) ?_ 0 _ rfl; (with_reducible repeat (first | refine blk_drewN ?_ _ | refine blk_drew ?_ | refine blk_alloc ?_ _)); exact fa) Tryz.underlying26 rfl (by kernel_rfl)) rfl ?_
 exact ⟨_, rfl, by (with_reducible repeat (first | apply Kd.R_alloc | apply Kd.R_drewN | apply Kd.R_drew)); exact Kd.R_mono (Kd.R_far (p := ⟨gb384, 2, none⟩) (Kd.R_far (p := ⟨gb384, 1, none⟩) (Kd.R_far (p := ⟨gb384, 0, none⟩) (Kd.R_types HO389.out BK384.out (by decide)) (fun _ hk => hk.2) (.int .i64 t385)) (fun _ hk => hk.2) (.int .i64 t386)) (fun _ hk => hk.2) (.slice Ao14 t387.length co14)) (fun _ hk => trivial), fa⟩
def fleuronref08_Over.f (k : Nat) (a0_0 : Int) (a0_1 : Int) (l0_2 : List (S47)) (a1_0 : Int) (a1_1 : Int) : Option (Int × Int × (List (S47)) × Int) := (fleuronref08_each.f k (⟨#[47]⟩ : ByteArray) a0_0 a0_1 l0_2 a1_0 a1_1).bind fun bt394 => (some (bt394.1, bt394.2.1, bt394.2.2.1, bt394.2.2.2))
set_option maxHeartbeats 8000000 in
set_option maxRecDepth 100000 in
theorem fleuronref08_Over.calls (k : Nat) (a0_0 : Int) (a0_1 : Int) (A0_2 : Option Addr) (c0_2 : Nat) (l0_2 : List (S47)) (a1_0 : Int) (a1_1 : Int) (r1 : Int) (r2 : Int) (r3 : List (S47)) (r4 : Int) (w : World) (hr0_2 : Kd.C k47 w A0_2 l0_2.length l0_2) (hc0_2 : l0_2.length ≤ c0_2) (h : fleuronref08_Over.f k a0_0 a0_1 l0_2 a1_0 a1_1 = some (r1, r2, r3, r4)) :
  Calls Tryz.prog 23 #[.agg #[.int .i64 a0_0, .int .i64 a0_1, .slice A0_2 l0_2.length c0_2], .agg #[.int .i64 a1_0, .int .i64 a1_1]] w fun e w' => ∃ v2_ : Value, e = .returned (.tuple #[.agg #[.int .i64 r1, .int .i64 r2, v2_], .int .i64 r4]) ∧ Kd.R k47 47 w' w.heap.size (fun _ => True) v2_ r3 ∧ Below w.heap.size w w' := by
 have hu26 := Tryz.underlying26
 have hu23 := Tryz.underlying23
 have HR0_2 := Fa.mk hr0_2
 have HC0_2 := Fa.mk hc0_2
 clear hr0_2 hc0_2
 have HB := Fa.mk (Below.refl w.heap.size w)
 have H : ((fleuronref08_each.f k (⟨#[47]⟩ : ByteArray) a0_0 a0_1 l0_2 a1_0 a1_1).bind fun bt394 => (some (bt394.1, bt394.2.1, bt394.2.2.1, bt394.2.2.2))) = some (r1, r2, r3, r4) := h
 clear h
 replace H := Option.bind_eq_some_iff.mp H
 obtain ⟨⟨t394, t395, t396, t399⟩, A30, H⟩ := H
 (try dsimp only at H)
 have A3 := Fa.mk A30
 clear A30
 simp only [Option.some.injEq, Prod.mk.injEq] at H
 obtain ⟨rfl, rfl, rfl, rfl⟩ := H
 go_enter Tryz.func23, Tryz.ntmps23
 go_wp2_with (first | ((with_reducible refine gate_dst (N := 2) rfl ?_); refine boxF (N := 2) (cs := #[.int .i64 a0_0, .int .i64 a0_1, .slice A0_2 l0_2.length c0_2]) (t := 26) ?_; intro gb391 hg w4 hbox hb; have hS := Stp.mk hb; have BK391 := Fa.mk (hbox); have GW391 := Fa.mk (gle hg : w.heap.size ≤ gb391); have GE391 := GW391; clear hb hbox hg) | ((with_reducible refine gate_dst (N := 3) rfl ?_); refine boxF (N := 3) (cs := #[.int .i64 a1_0, .int .i64 a1_1]) (t := 23) ?_; intro gb392 hg w5 hbox hb; have hS := Stp.mk hb; have BK392 := Fa.mk (hbox); have GW392 := Fa.mk (gle hg : w.heap.size ≤ gb392); have GE392 := GW392; have NB391_392 := Fa.mk (gne (o := .cells #[.int .i64 a0_0, .int .i64 a0_1, .slice A0_2 l0_2.length c0_2] 26 (0, 0)) hg : gb391 ≠ gb392); have NB392_391 := Fa.mk NB391_392.out.symm; clear hb hbox hg) | ((with_reducible refine gate_dst (N := 4) rfl ?_); refine boxF (N := 4) (cs := #[.int .i64 0, .int .i64 0, .slice none 0 0]) (t := 26) ?_; intro gb393 hg w6 hbox hb; have hS := Stp.mk hb; have BK391 := (⟨fa⟩ : Fa (w6.heap[gb391]? = some (.cells #[.int .i64 a0_0, .int .i64 a0_1, .slice A0_2 l0_2.length c0_2] 26 (0, 0)))); have BK392 := (⟨fa⟩ : Fa (w6.heap[gb392]? = some (.cells #[.int .i64 a1_0, .int .i64 a1_1] 23 (0, 0)))); have BK393 := Fa.mk (hbox); have GW393 := Fa.mk (gle hg : w.heap.size ≤ gb393); have GE393 := GW393; have NB391_393 := Fa.mk (gne (o := .cells #[.int .i64 a0_0, .int .i64 a0_1, .slice A0_2 l0_2.length c0_2] 26 (0, 0)) hg : gb391 ≠ gb393); have NB393_391 := Fa.mk NB391_393.out.symm; have NB392_393 := Fa.mk (gne (o := .cells #[.int .i64 a1_0, .int .i64 a1_1] 23 (0, 0)) hg : gb392 ≠ gb393); have NB393_392 := Fa.mk NB392_393.out.symm; clear hb hbox hg; have hnb7 := NB391_392.out; have hnc7 := NB392_391.out; have hnb8 := NB391_393.out; have hnc8 := NB393_391.out; have hcz9_0 := jcell BK391.out (i := 0) rfl; have hcz9_1 := jcell BK391.out (i := 1) rfl; have hcz9_2 := jcell BK391.out (i := 2) rfl; have hfz9_0 := blk_frozen BK391.out 0; have hfz9_1 := blk_frozen BK391.out 1; have hfz9_2 := blk_frozen BK391.out 2; have hnb10 := NB392_393.out; have hnc10 := NB393_392.out; have hcz11_0 := jcell BK392.out (i := 0) rfl; have hcz11_1 := jcell BK392.out (i := 1) rfl; have hfz11_0 := blk_frozen BK392.out 0; have hfz11_1 := blk_frozen BK392.out 1) | ((with_reducible refine gate_callee (f := 50) rfl ?_); refine goesA (some 8) rfl rfl Tryz.func50 (by kernel_rfl) rfl #[.string (⟨#[47]⟩ : ByteArray), .agg #[.int .i64 a0_0, .int .i64 a0_1, .slice A0_2 l0_2.length c0_2], .agg #[.int .i64 a1_0, .int .i64 a1_1]] rfl ?_; (with_reducible refine (fleuronref08_each.calls k (⟨#[47]⟩ : ByteArray) a0_0 a0_1 _ _ l0_2 a1_0 a1_1 t394 t395 t396 t399 _ ?side1 ?side2 A3.out).mono ?_); (case side1 => repeat (first | exact (Kd.C_below HR0_2.out fa) | (with_reducible refine Kd.C_alloc ?_ _) | (with_reducible refine Kd.C_drewN ?_ _) | (with_reducible refine Kd.C_drew ?_))); (case side2 => exact HC0_2.out); rintro e w12 ⟨v397, rfl, ho0, hb⟩; refine ⟨_, rfl, ?_⟩; have n0_ := Fa.mk (Kd.R_lower ho0 (bsz w)); have n1_ := Fa.mk (blk_below (g := gb391) (o := .cells #[.int .i64 a0_0, .int .i64 a0_1, .slice A0_2 l0_2.length c0_2] 26 (0, 0)) fa hb); have n2_ := Fa.mk (blk_below (g := gb392) (o := .cells #[.int .i64 a1_0, .int .i64 a1_1] 23 (0, 0)) fa hb); have n3_ := Fa.mk (blk_below (g := gb393) (o := .cells #[.int .i64 0, .int .i64 0, .slice none 0 0] 26 (0, 0)) fa hb); have n4_ := Fa.mk (bst w hb); clear BK391; clear BK392; clear BK393; clear HB; have HO398 := n0_; have BK391 := n1_; have BK392 := n2_; have BK393 := n3_; have HB := n4_; clear n0_ n1_ n2_ n3_ n4_; (try clear hb); (try clear hb2); (try clear hk); (try clear hi); (try clear ho0); have hcz13_0 := jcell BK393.out (i := 0) rfl; have hcz13_1 := jcell BK393.out (i := 1) rfl; have hcz13_2 := jcell BK393.out (i := 2) rfl; have hfz13_0 := blk_frozen BK393.out 0; have hfz13_1 := blk_frozen BK393.out 1; have hfz13_2 := blk_frozen BK393.out 2; obtain ⟨Ao14, co14, eo14⟩ := Kd.R_slice HO398.out; subst eo14))
 refine bodyPost_ret (results_ct rfl _ _ gb393 26 #[.int .i64 t394, .int .i64 t395, .slice Ao14 t396.length co14] (0, 0) _ rfl (by (with_reducible repeat (first | refine blk_drewN ?_ _ | refine blk_drew ?_ | refine blk_alloc ?_ _)); refine blk_put (cs := #[.int .i64 t394, .int .i64 t395, .slice none 0 0]) ?_ 2 _ rfl; (with_reducible repeat (first | refine blk_drewN ?_ _ | refine blk_drew ?_ | refine blk_alloc ?_ _)); refine blk_put (cs := #[.int .i64 t394, .int .i64 0, .slice none 0 0]) ?_ 1 _ rfl; (with_reducible repeat (first | refine blk_drewN ?_ _ | refine blk_drew ?_ | refine blk_alloc ?_ _)); refine blk_put (cs := #[.int .i64 0, .int .i64 0, .slice none 0 0]) ?_ 0 _ rfl; (with_reducible repeat (first | refine blk_drewN ?_ _ | refine blk_drew ?_ | refine blk_alloc ?_ _)); exact fa) Tryz.underlying26 rfl (by kernel_rfl)) rfl ?_
 exact ⟨_, rfl, by (with_reducible repeat (first | apply Kd.R_alloc | apply Kd.R_drewN | apply Kd.R_drew)); exact Kd.R_mono (Kd.R_far (p := ⟨gb393, 2, none⟩) (Kd.R_far (p := ⟨gb393, 1, none⟩) (Kd.R_far (p := ⟨gb393, 0, none⟩) (Kd.R_types HO398.out BK393.out (by decide)) (fun _ hk => hk.2) (.int .i64 t394)) (fun _ hk => hk.2) (.int .i64 t395)) (fun _ hk => hk.2) (.slice Ao14 t396.length co14)) (fun _ hk => trivial), fa⟩
def fleuronref08_Of.f (k : Nat) (a0_0 : Int) (a0_1 : Int) : Option (Int × Int × (List (S47)) × Int) := (fleuronref01_Valid.f k a0_0 a0_1).bind fun t402 => (if t402 = true then (some (a0_0, a0_1, ([] : List (S47)), 0)) else (some (0, 0, ([] : List (S47)), 2)))
set_option maxHeartbeats 8000000 in
set_option maxRecDepth 100000 in
theorem fleuronref08_Of.calls (k : Nat) (a0_0 : Int) (a0_1 : Int) (r1 : Int) (r2 : Int) (r3 : List (S47)) (r4 : Int) (w : World) (h : fleuronref08_Of.f k a0_0 a0_1 = some (r1, r2, r3, r4)) :
  Calls Tryz.prog 25 #[.agg #[.int .i64 a0_0, .int .i64 a0_1]] w fun e w' => ∃ v2_ : Value, e = .returned (.tuple #[.agg #[.int .i64 r1, .int .i64 r2, v2_], .int .i64 r4]) ∧ Kd.R k47 47 w' w.heap.size (fun _ => True) v2_ r3 ∧ Below w.heap.size w w' := by
 have hu23 := Tryz.underlying23
 have hu26 := Tryz.underlying26
 have HB := Fa.mk (Below.refl w.heap.size w)
 have H : ((fleuronref01_Valid.f k a0_0 a0_1).bind fun t402 => (if t402 = true then (some (a0_0, a0_1, ([] : List (S47)), 0)) else (some (0, 0, ([] : List (S47)), 2)))) = some (r1, r2, r3, r4) := h
 clear h
 replace H := Option.bind_eq_some_iff.mp H
 obtain ⟨t402, A20, H⟩ := H
 (try dsimp only at H)
 have A2 := Fa.mk A20
 clear A20
 by_cases c3 : t402 = true
 ·
  subst c3
  rw [if_pos rfl] at H
  simp only [Option.some.injEq, Prod.mk.injEq] at H
  obtain ⟨rfl, rfl, rfl, rfl⟩ := H
  go_enter Tryz.func25, Tryz.ntmps25
  go_wp2_with (first | ((with_reducible refine gate_dst (N := 1) rfl ?_); refine boxF (N := 1) (cs := #[.int .i64 a0_0, .int .i64 a0_1]) (t := 23) ?_; intro gb400 hg w4 hbox hb; have hS := Stp.mk hb; have BK400 := Fa.mk (hbox); have GW400 := Fa.mk (gle hg : w.heap.size ≤ gb400); have GE400 := GW400; clear hb hbox hg) | ((with_reducible refine gate_dst (N := 2) rfl ?_); refine boxF (N := 2) (cs := #[.int .i64 0, .int .i64 0, .slice none 0 0]) (t := 26) ?_; intro gb401 hg w5 hbox hb; have hS := Stp.mk hb; have BK400 := (⟨fa⟩ : Fa (w5.heap[gb400]? = some (.cells #[.int .i64 a0_0, .int .i64 a0_1] 23 (0, 0)))); have BK401 := Fa.mk (hbox); have GW401 := Fa.mk (gle hg : w.heap.size ≤ gb401); have GE401 := GW401; have NB400_401 := Fa.mk (gne (o := .cells #[.int .i64 a0_0, .int .i64 a0_1] 23 (0, 0)) hg : gb400 ≠ gb401); have NB401_400 := Fa.mk NB400_401.out.symm; clear hb hbox hg; have hnb6 := NB400_401.out; have hnc6 := NB401_400.out; have hcz7_0 := jcell BK400.out (i := 0) rfl; have hcz7_1 := jcell BK400.out (i := 1) rfl; have hfz7_0 := blk_frozen BK400.out 0; have hfz7_1 := blk_frozen BK400.out 1) | ((with_reducible refine gate_callee (f := 34) rfl ?_); refine goesA (some 5) rfl rfl Tryz.func34 (by kernel_rfl) rfl #[.agg #[.int .i64 a0_0, .int .i64 a0_1]] rfl ?_; (with_reducible refine (fleuronref01_Valid.calls k a0_0 a0_1 true _ A2.out).mono ?_); rintro e w8 ⟨rfl, hb⟩; refine ⟨_, rfl, ?_⟩; have hS := Stp.mk hb; have BK400 := (⟨fa⟩ : Fa (w8.heap[gb400]? = some (.cells #[.int .i64 a0_0, .int .i64 a0_1] 23 (0, 0)))); have BK401 := (⟨fa⟩ : Fa (w8.heap[gb401]? = some (.cells #[.int .i64 0, .int .i64 0, .slice none 0 0] 26 (0, 0)))); clear hb; have hcz9_0 := jcell BK400.out (i := 0) rfl; have hcz9_1 := jcell BK400.out (i := 1) rfl; have hfz9_0 := blk_frozen BK400.out 0; have hfz9_1 := blk_frozen BK400.out 1; have hcz10_0 := jcell BK401.out (i := 0) rfl; have hcz10_1 := jcell BK401.out (i := 1) rfl; have hcz10_2 := jcell BK401.out (i := 2) rfl; have hfz10_0 := blk_frozen BK401.out 0; have hfz10_1 := blk_frozen BK401.out 1; have hfz10_2 := blk_frozen BK401.out 2))
  refine bodyPost_ret (results_ct rfl _ _ gb401 26 #[.int .i64 a0_0, .int .i64 a0_1, .slice none 0 0] (0, 0) _ rfl (by (with_reducible repeat (first | refine blk_drewN ?_ _ | refine blk_drew ?_ | refine blk_alloc ?_ _)); refine blk_put (cs := #[.int .i64 a0_0, .int .i64 a0_1, .slice none 0 0]) ?_ 2 _ rfl; (with_reducible repeat (first | refine blk_drewN ?_ _ | refine blk_drew ?_ | refine blk_alloc ?_ _)); refine blk_put (cs := #[.int .i64 a0_0, .int .i64 0, .slice none 0 0]) ?_ 1 _ rfl; (with_reducible repeat (first | refine blk_drewN ?_ _ | refine blk_drew ?_ | refine blk_alloc ?_ _)); refine blk_put (cs := #[.int .i64 0, .int .i64 0, .slice none 0 0]) ?_ 0 _ rfl; (with_reducible repeat (first | refine blk_drewN ?_ _ | refine blk_drew ?_ | refine blk_alloc ?_ _)); exact fa) Tryz.underlying26 rfl (by kernel_rfl)) rfl ?_
  exact ⟨_, rfl, Kd.R_nil _ _ _ _ _, fa⟩
 ·
  replace c3 := Bool.eq_false_iff.mpr c3
  subst c3
  rw [if_neg (show ¬ (false = true) by decide)] at H
  simp only [Option.some.injEq, Prod.mk.injEq] at H
  obtain ⟨rfl, rfl, rfl, rfl⟩ := H
  go_enter Tryz.func25, Tryz.ntmps25
  go_wp2_with (first | ((with_reducible refine gate_dst (N := 1) rfl ?_); refine boxF (N := 1) (cs := #[.int .i64 a0_0, .int .i64 a0_1]) (t := 23) ?_; intro gb400 hg w11 hbox hb; have hS := Stp.mk hb; have BK400 := Fa.mk (hbox); have GW400 := Fa.mk (gle hg : w.heap.size ≤ gb400); have GE400 := GW400; clear hb hbox hg) | ((with_reducible refine gate_dst (N := 2) rfl ?_); refine boxF (N := 2) (cs := #[.int .i64 0, .int .i64 0, .slice none 0 0]) (t := 26) ?_; intro gb401 hg w12 hbox hb; have hS := Stp.mk hb; have BK400 := (⟨fa⟩ : Fa (w12.heap[gb400]? = some (.cells #[.int .i64 a0_0, .int .i64 a0_1] 23 (0, 0)))); have BK401 := Fa.mk (hbox); have GW401 := Fa.mk (gle hg : w.heap.size ≤ gb401); have GE401 := GW401; have NB400_401 := Fa.mk (gne (o := .cells #[.int .i64 a0_0, .int .i64 a0_1] 23 (0, 0)) hg : gb400 ≠ gb401); have NB401_400 := Fa.mk NB400_401.out.symm; clear hb hbox hg; have hnb13 := NB400_401.out; have hnc13 := NB401_400.out; have hcz14_0 := jcell BK400.out (i := 0) rfl; have hcz14_1 := jcell BK400.out (i := 1) rfl; have hfz14_0 := blk_frozen BK400.out 0; have hfz14_1 := blk_frozen BK400.out 1) | ((with_reducible refine gate_callee (f := 34) rfl ?_); refine goesA (some 5) rfl rfl Tryz.func34 (by kernel_rfl) rfl #[.agg #[.int .i64 a0_0, .int .i64 a0_1]] rfl ?_; (with_reducible refine (fleuronref01_Valid.calls k a0_0 a0_1 false _ A2.out).mono ?_); rintro e w15 ⟨rfl, hb⟩; refine ⟨_, rfl, ?_⟩; have hS := Stp.mk hb; have BK401 := (⟨fa⟩ : Fa (w15.heap[gb401]? = some (.cells #[.int .i64 0, .int .i64 0, .slice none 0 0] 26 (0, 0)))); clear hb; have hcz16_0 := jcell BK401.out (i := 0) rfl; have hcz16_1 := jcell BK401.out (i := 1) rfl; have hcz16_2 := jcell BK401.out (i := 2) rfl; have hfz16_0 := blk_frozen BK401.out 0; have hfz16_1 := blk_frozen BK401.out 1; have hfz16_2 := blk_frozen BK401.out 2))
  refine bodyPost_ret (results_ct rfl _ _ gb401 26 #[.int .i64 0, .int .i64 0, .slice none 0 0] (0, 0) _ rfl (by (with_reducible repeat (first | refine blk_drewN ?_ _ | refine blk_drew ?_ | refine blk_alloc ?_ _)); refine blk_put (cs := #[.int .i64 0, .int .i64 0, .slice none 0 0]) ?_ 2 _ rfl; (with_reducible repeat (first | refine blk_drewN ?_ _ | refine blk_drew ?_ | refine blk_alloc ?_ _)); refine blk_put (cs := #[.int .i64 0, .int .i64 0, .slice none 0 0]) ?_ 1 _ rfl; (with_reducible repeat (first | refine blk_drewN ?_ _ | refine blk_drew ?_ | refine blk_alloc ?_ _)); refine blk_put (cs := #[.int .i64 0, .int .i64 0, .slice none 0 0]) ?_ 0 _ rfl; (with_reducible repeat (first | refine blk_drewN ?_ _ | refine blk_drew ?_ | refine blk_alloc ?_ _)); exact fa) Tryz.underlying26 rfl (by kernel_rfl)) rfl ?_
  exact ⟨_, rfl, Kd.R_nil _ _ _ _ _, fa⟩
def fleuronref08_Var.f (k : Nat) (a0 : ByteArray) : Option (Int × Int × (List (S47)) × Int) := (fleuronref08_Name.f k a0).bind fun t404 => (if t404 = true then (some (0, 1, (([(⟨a0, (⟨1, 1⟩ : S23)⟩ : S47)] : List (S47))), 0)) else (some (0, 0, ([] : List (S47)), 2)))
set_option maxHeartbeats 8000000 in
set_option maxRecDepth 100000 in
theorem fleuronref08_Var.calls (k : Nat) (a0 : ByteArray) (r1 : Int) (r2 : Int) (r3 : List (S47)) (r4 : Int) (w : World) (h : fleuronref08_Var.f k a0 = some (r1, r2, r3, r4)) :
  Calls Tryz.prog 27 #[.string a0] w fun e w' => ∃ v2_ : Value, e = .returned (.tuple #[.agg #[.int .i64 r1, .int .i64 r2, v2_], .int .i64 r4]) ∧ Kd.R k47 47 w' w.heap.size (fun _ => True) v2_ r3 ∧ Below w.heap.size w w' := by
 have hu26 := Tryz.underlying26
 have hu23 := Tryz.underlying23
 have hu47 := Tryz.underlying47
 have HB := Fa.mk (Below.refl w.heap.size w)
 have H : ((fleuronref08_Name.f k a0).bind fun t404 => (if t404 = true then (some (0, 1, (([(⟨a0, (⟨1, 1⟩ : S23)⟩ : S47)] : List (S47))), 0)) else (some (0, 0, ([] : List (S47)), 2)))) = some (r1, r2, r3, r4) := h
 clear h
 replace H := Option.bind_eq_some_iff.mp H
 obtain ⟨t404, A20, H⟩ := H
 (try dsimp only at H)
 have A2 := Fa.mk A20
 clear A20
 by_cases c3 : t404 = true
 ·
  subst c3
  rw [if_pos rfl] at H
  obtain ⟨y405, hy405⟩ : ∃ y_ : List (S47), y_ = (([(⟨a0, (⟨1, 1⟩ : S23)⟩ : S47)] : List (S47))) := ⟨_, rfl⟩
  replace H : (some (0, 1, y405, 0)) = some (r1, r2, r3, r4) := by first | (rw [hy405]; with_reducible exact H) | (have H2_ := (Option.bind_some _ _).symm.trans H; rw [hy405]; with_reducible exact H2_) | (have H2_ := (Option.bind_some _ _).symm.trans H; with_reducible exact H2_) | with_reducible exact H | (rw [hy405]; exact H) | exact H
  have Ny405 := Fa.mk hy405
  clear hy405
  simp only [Option.some.injEq, Prod.mk.injEq] at H
  obtain ⟨rfl, rfl, rfl, rfl⟩ := H
  go_enter Tryz.func27, Tryz.ntmps27
  go_wp2_with (first | ((with_reducible refine gate_dst (N := 2) rfl ?_); refine boxF (N := 2) (cs := #[.int .i64 0, .int .i64 0, .slice none 0 0]) (t := 26) ?_; intro gb403 hg w4 hbox hb; have hS := Stp.mk hb; have BK403 := Fa.mk (hbox); have GW403 := Fa.mk (gle hg : w.heap.size ≤ gb403); have GE403 := GW403; clear hb hbox hg) | ((with_reducible refine gate_callee (f := 52) rfl ?_); refine goesA (some 5) rfl rfl Tryz.func52 (by kernel_rfl) rfl #[.string a0] rfl ?_; (with_reducible refine (fleuronref08_Name.calls k a0 true _ A2.out).mono ?_); rintro e w' ⟨rfl, ⟨nd, rfl⟩⟩; refine ⟨_, rfl, ?_⟩; (try (rw [drewN_self w4]; generalize hq_ : World.drewN w4 _ = w4; have n0_ : Fa (w4.heap[gb403]? = some (.cells #[.int .i64 0, .int .i64 0, .slice none 0 0] 26 (0, 0))) := ⟨by rw [← hq_]; exact fa⟩; have n1_ : Fa (Below w.heap.size w w4) := ⟨by rw [← hq_]; exact fa⟩; clear BK403 HB hq_; have BK403 := n0_; have HB := n1_; clear n0_ n1_))) | ((with_reducible refine gate_dst (N := 12) rfl ?_); refine Kd.R_lit k47 _ 47 ?hg (N := 12) ?hd (xs := ([(⟨a0, (⟨1, 1⟩ : S23)⟩ : S47)] : List (S47))) (inner := [.string a0, .int .i64 1, .int .i64 1]) (ok := fun _ => True) (okp := fun _ => True) ?hr ?hp (fun _ hk => hk) trivial (Below.refl _ _) (Nat.le_refl _) (by simp) ?_; (case hd => rfl); (case hg => rfl); (case hr => first | (go_simp; done) | (go_simp; rfl)); (case hp => exact (Reps.c3 (show Kd.M k47 _ _ _ (⟨a0, (⟨1, 1⟩ : S23)⟩ : S47) [.string a0, .int .i64 1, .int .i64 1] from (k47_mkM _ _ _ (⟨a0, (⟨1, 1⟩ : S23)⟩ : S47) )) (Reps.none _ _))); intro v406 w5 ho6 hb hg_ hnew_; clear hg_ hnew_; (first | rw [← Ny405.out] at ho6 | (simp only [Int.reduceToNat] at ho6; rw [← Ny405.out] at ho6)); have n0_ := Fa.mk (Kd.R_lower ho6 (bsz w)); have n1_ := Fa.mk (blk_below (g := gb403) (o := .cells #[.int .i64 0, .int .i64 0, .slice none 0 0] 26 (0, 0)) fa hb); have n2_ := Fa.mk (bst w hb); clear BK403; clear HB; have HO407 := n0_; have BK403 := n1_; have HB := n2_; clear n0_ n1_ n2_; clear hb ho6; obtain ⟨Ao7, co7, eo7⟩ := Kd.R_slice HO407.out; subst eo7; have hcz8_0 := jcell BK403.out (i := 0) rfl; have hcz8_1 := jcell BK403.out (i := 1) rfl; have hcz8_2 := jcell BK403.out (i := 2) rfl; have hfz8_0 := blk_frozen BK403.out 0; have hfz8_1 := blk_frozen BK403.out 1; have hfz8_2 := blk_frozen BK403.out 2))
  refine bodyPost_ret (results_ct rfl _ _ gb403 26 #[.int .i64 0, .int .i64 1, .slice Ao7 y405.length co7] (0, 0) _ rfl (by (with_reducible repeat (first | refine blk_drewN ?_ _ | refine blk_drew ?_ | refine blk_alloc ?_ _)); refine blk_put (cs := #[.int .i64 0, .int .i64 1, .slice none 0 0]) ?_ 2 _ rfl; (with_reducible repeat (first | refine blk_drewN ?_ _ | refine blk_drew ?_ | refine blk_alloc ?_ _)); refine blk_put (cs := #[.int .i64 0, .int .i64 0, .slice none 0 0]) ?_ 1 _ rfl; (with_reducible repeat (first | refine blk_drewN ?_ _ | refine blk_drew ?_ | refine blk_alloc ?_ _)); refine blk_put (cs := #[.int .i64 0, .int .i64 0, .slice none 0 0]) ?_ 0 _ rfl; (with_reducible repeat (first | refine blk_drewN ?_ _ | refine blk_drew ?_ | refine blk_alloc ?_ _)); exact fa) Tryz.underlying26 rfl (by kernel_rfl)) rfl ?_
  exact ⟨_, rfl, by (with_reducible repeat (first | apply Kd.R_alloc | apply Kd.R_drewN | apply Kd.R_drew)); exact Kd.R_mono (Kd.R_far (p := ⟨gb403, 2, none⟩) (Kd.R_far (p := ⟨gb403, 1, none⟩) (Kd.R_far (p := ⟨gb403, 0, none⟩) (Kd.R_types HO407.out BK403.out (by decide)) (fun _ hk => hk.2) (.int .i64 0)) (fun _ hk => hk.2) (.int .i64 1)) (fun _ hk => hk.2) (.slice Ao7 y405.length co7)) (fun _ hk => trivial), fa⟩
 ·
  replace c3 := Bool.eq_false_iff.mpr c3
  subst c3
  rw [if_neg (show ¬ (false = true) by decide)] at H
  simp only [Option.some.injEq, Prod.mk.injEq] at H
  obtain ⟨rfl, rfl, rfl, rfl⟩ := H
  go_enter Tryz.func27, Tryz.ntmps27
  go_wp2_with (first | ((with_reducible refine gate_dst (N := 2) rfl ?_); refine boxF (N := 2) (cs := #[.int .i64 0, .int .i64 0, .slice none 0 0]) (t := 26) ?_; intro gb403 hg w9 hbox hb; have hS := Stp.mk hb; have BK403 := Fa.mk (hbox); have GW403 := Fa.mk (gle hg : w.heap.size ≤ gb403); have GE403 := GW403; clear hb hbox hg) | ((with_reducible refine gate_callee (f := 52) rfl ?_); refine goesA (some 5) rfl rfl Tryz.func52 (by kernel_rfl) rfl #[.string a0] rfl ?_; (with_reducible refine (fleuronref08_Name.calls k a0 false _ A2.out).mono ?_); rintro e w' ⟨rfl, ⟨nd, rfl⟩⟩; refine ⟨_, rfl, ?_⟩; (try (rw [drewN_self w9]; generalize hq_ : World.drewN w9 _ = w9; have n0_ : Fa (w9.heap[gb403]? = some (.cells #[.int .i64 0, .int .i64 0, .slice none 0 0] 26 (0, 0))) := ⟨by rw [← hq_]; exact fa⟩; have n1_ : Fa (Below w.heap.size w w9) := ⟨by rw [← hq_]; exact fa⟩; clear BK403 HB hq_; have BK403 := n0_; have HB := n1_; clear n0_ n1_)); have hcz10_0 := jcell BK403.out (i := 0) rfl; have hcz10_1 := jcell BK403.out (i := 1) rfl; have hcz10_2 := jcell BK403.out (i := 2) rfl; have hfz10_0 := blk_frozen BK403.out 0; have hfz10_1 := blk_frozen BK403.out 1; have hfz10_2 := blk_frozen BK403.out 2))
  refine bodyPost_ret (results_ct rfl _ _ gb403 26 #[.int .i64 0, .int .i64 0, .slice none 0 0] (0, 0) _ rfl (by (with_reducible repeat (first | refine blk_drewN ?_ _ | refine blk_drew ?_ | refine blk_alloc ?_ _)); refine blk_put (cs := #[.int .i64 0, .int .i64 0, .slice none 0 0]) ?_ 2 _ rfl; (with_reducible repeat (first | refine blk_drewN ?_ _ | refine blk_drew ?_ | refine blk_alloc ?_ _)); refine blk_put (cs := #[.int .i64 0, .int .i64 0, .slice none 0 0]) ?_ 1 _ rfl; (with_reducible repeat (first | refine blk_drewN ?_ _ | refine blk_drew ?_ | refine blk_alloc ?_ _)); refine blk_put (cs := #[.int .i64 0, .int .i64 0, .slice none 0 0]) ?_ 0 _ rfl; (with_reducible repeat (first | refine blk_drewN ?_ _ | refine blk_drew ?_ | refine blk_alloc ?_ _)); exact fa) Tryz.underlying26 rfl (by kernel_rfl)) rfl ?_
  exact ⟨_, rfl, Kd.R_nil _ _ _ _ _, fa⟩
def fleuronlaw08_LinearTimes.f (k : Nat) (a0_0 : Int) (a0_1 : Int) (l0 : List S47) (a1_0 : Int) (a1_1 : Int) (a2 : ByteArray) : Option Bool :=
  (fleuronlaw08_few.f k [(⟨(⟨a0_0, a0_1⟩ : S23), l0⟩ : S26)]).bind fun t => if t = true ∧ ¬ (a2.size : Int) > 10000 then (linear_Times.f k a0_0 a0_1 l0 a1_0 a1_1).bind fun b => (fleuronref08_Times.f k a0_0 a0_1 l0 a1_0 a1_1).bind fun d => (linear_Over.f k a0_0 a0_1 l0 a1_0 a1_1).bind fun i => (fleuronref08_Over.f k a0_0 a0_1 l0 a1_0 a1_1).bind fun j => (linear_Of.f k a1_0 a1_1).bind fun m => (fleuronref08_Of.f k a1_0 a1_1).bind fun n => (linear_Var.f a2).bind fun o => (fleuronref08_Var.f k a2).bind fun q => (fleuronref08_Same.f k b.1 b.2.1 b.2.2.1 d.1 d.2.1 d.2.2.1).bind fun s0 => (fleuronref08_Same.f k i.1 i.2.1 i.2.2.1 j.1 j.2.1 j.2.2.1).bind fun s1 => (fleuronref08_Same.f k m.1 m.2.1 m.2.2.1 n.1 n.2.1 n.2.2.1).bind fun s2 => (fleuronref08_Same.f k o.1 o.2.1 o.2.2.1 q.1 q.2.1 q.2.2.1).bind fun s3 => (fleuronlaw08_awake.f k).bind fun v => if s0 = true ∧ b.2.2.2 = d.2.2.2 ∧ s1 = true ∧ i.2.2.2 = j.2.2.2 ∧ s2 = true ∧ m.2.2.2 = n.2.2.2 ∧ s3 = true ∧ o.2.2.2 = q.2.2.2 then some v else none else fleuronlaw08_awake.f k
theorem fleuronlaw08_LinearTimes.few_n (k : Nat) {n : Nat} {A0 : Option Addr} {c0 : Nat} {l0 : List S26} {r : Bool} {w : World} (hr : Kd.C k26 w A0 n l0) (hc : n ≤ c0) (h : fleuronlaw08_few.f k l0 = some r) : Calls Tryz.prog 11 #[.slice A0 n c0] w fun e w' => e = .returned (.bool r) ∧ Below w.heap.size w w' := by
  obtain rfl : l0.length = n := hr.1
  exact fleuronlaw08_few.calls k A0 c0 l0 r w hr hc h
set_option maxHeartbeats 8000000 in
set_option maxRecDepth 100000 in
theorem fleuronlaw08_LinearTimes.calls (k : Nat) (a0_0 : Int) (a0_1 : Int) (A0 : Option Addr) (c0 : Nat) (l0 : List S47) (a1_0 : Int) (a1_1 : Int) (a2 : ByteArray) (r : Bool) (w : World) (hr0 : Kd.C k47 w A0 l0.length l0) (hc0 : l0.length ≤ c0) (h : fleuronlaw08_LinearTimes.f k a0_0 a0_1 l0 a1_0 a1_1 a2 = some r) (hG : Glob w) :
  Calls Tryz.prog 4 #[.agg #[.int .i64 a0_0, .int .i64 a0_1, .slice A0 l0.length c0], .agg #[.int .i64 a1_0, .int .i64 a1_1], .string a2] w fun e w' => e = .returned (.bool r) ∧ Below w.heap.size w w' := by
 have HG := Fa.mk hG
 clear hG
 have hu26 := Tryz.underlying26
 have hu23 := Tryz.underlying23
 have hu47 := Tryz.underlying47
 have hBs : Base w := Base.mk
 have HR0 := Fa.mk hr0
 have HC0 := Fa.mk hc0
 clear hr0 hc0
 unfold fleuronlaw08_LinearTimes.f at h
 obtain ⟨t, e_, h⟩ := Option.bind_eq_some_iff.mp h
 have ET := Fa.mk e_
 clear e_
 have S := Fa.mk (AS.nil w)
 by_cases ht : t = true
 rotate_left
 ·
  obtain rfl : t = false := by simpa using ht
  rw [if_neg (by simp)] at h
  clear ht
  have EV := Fa.mk h
  clear h
  go_enter Tryz.func4, Tryz.ntmps4
  go_wp2_with (first | ((with_reducible refine gate_dst (N := 3) rfl ?_); refine boxF (N := 3) (cs := #[.int .i64 a0_0, .int .i64 a0_1, .slice A0 l0.length c0]) (t := 26) ?_; intro gi0 hg wi0 hx hb; have S1 := Fa.mk (S.out.inp HR0.out HC0.out hg hb hx); clear hg hb hx S; have S := S1; clear S1) | ((with_reducible refine gate_dst (N := 4) rfl ?_); refine boxF (N := 4) (cs := #[.int .i64 a1_0, .int .i64 a1_1]) (t := 23) ?_; intro gi1 hg wi1 hx hb; have S1 := Fa.mk (S.out.inn hg hb hx); clear hg hb hx S; have S := S1; clear S1; have cl0_0 := jcell (S.out.get 0 rfl).blk (i := 0) rfl; have cl0_1 := jcell (S.out.get 0 rfl).blk (i := 1) rfl; have cl0_2 := jcell (S.out.get 0 rfl).blk (i := 2) rfl; have rr0 := Fa.mk (S.out.rd 0 rfl)) | ((with_reducible refine gate_dst (N := 24) rfl ?_); refine fewLit 24 ?hg ?hd (xs := [(⟨(⟨a0_0, a0_1⟩ : S23), l0⟩ : S26)]) (inner := [.int .i64 a0_0, .int .i64 a0_1, .slice A0 l0.length c0]) ?hr ?hp (by simp) ?_; (case hd => rfl); (case hg => rfl); (case hr => first | (go_simp; done) | (go_simp; rfl)); (case hp => exact (Reps.c3 (k26_mk _ (⟨(⟨a0_0, a0_1⟩ : S23), l0⟩ : S26) HC0.out (Kd.C_below HR0.out S.out.below)) (Reps.none _ _))); intro AL cL wL hCL hcL hb; have HCL : Fa (Kd.C k26 wL AL 1 [(⟨(⟨a0_0, a0_1⟩ : S23), l0⟩ : S26)]) := ⟨hCL⟩; have HcL : Fa (1 ≤ cL) := ⟨hcL⟩; clear hCL hcL cl0_0 cl0_1 cl0_2 rr0; have S1 := Fa.mk (S.out.call hb); clear hb S; have S := S1; clear S1) | (go_at_call 11; (with_reducible refine (fleuronlaw08_LinearTimes.few_n k HCL.out HcL.out ET.out).mono ?_); rintro e wf ⟨rfl, hb⟩; clear HCL HcL; have S1 := Fa.mk (S.out.call hb); clear hb S; have S := S1; clear S1) | (go_at_call 12; (with_reducible refine (fleuronlaw08_awake.calls k r _ EV.out (HG.out.below S.out.below)).mono ?_); rintro e wa ⟨rfl, hb⟩; have S1 := Fa.mk (S.out.call hb); clear hb S; have S := S1; clear S1))
  go_ret
  exact ⟨rfl, S.out.below⟩
 subst ht
 by_cases hs : ¬ (a2.size : Int) > 10000
 rotate_left
 ·
  rw [if_neg (fun x => hs x.2)] at h
  have hsb : decide (10000 < (a2.size : Int)) = true := decide_eq_true (by omega)
  have hsb2 : decide (10000 < a2.size) = true := decide_eq_true (by omega)
  clear hs
  have EV := Fa.mk h
  clear h
  go_enter Tryz.func4, Tryz.ntmps4
  go_wp2_with (first | ((with_reducible refine gate_dst (N := 3) rfl ?_); refine boxF (N := 3) (cs := #[.int .i64 a0_0, .int .i64 a0_1, .slice A0 l0.length c0]) (t := 26) ?_; intro gi0 hg wi0 hx hb; have S1 := Fa.mk (S.out.inp HR0.out HC0.out hg hb hx); clear hg hb hx S; have S := S1; clear S1) | ((with_reducible refine gate_dst (N := 4) rfl ?_); refine boxF (N := 4) (cs := #[.int .i64 a1_0, .int .i64 a1_1]) (t := 23) ?_; intro gi1 hg wi1 hx hb; have S1 := Fa.mk (S.out.inn hg hb hx); clear hg hb hx S; have S := S1; clear S1; have cl0_0 := jcell (S.out.get 0 rfl).blk (i := 0) rfl; have cl0_1 := jcell (S.out.get 0 rfl).blk (i := 1) rfl; have cl0_2 := jcell (S.out.get 0 rfl).blk (i := 2) rfl; have rr0 := Fa.mk (S.out.rd 0 rfl)) | ((with_reducible refine gate_dst (N := 24) rfl ?_); refine fewLit 24 ?hg ?hd (xs := [(⟨(⟨a0_0, a0_1⟩ : S23), l0⟩ : S26)]) (inner := [.int .i64 a0_0, .int .i64 a0_1, .slice A0 l0.length c0]) ?hr ?hp (by simp) ?_; (case hd => rfl); (case hg => rfl); (case hr => first | (go_simp; done) | (go_simp; rfl)); (case hp => exact (Reps.c3 (k26_mk _ (⟨(⟨a0_0, a0_1⟩ : S23), l0⟩ : S26) HC0.out (Kd.C_below HR0.out S.out.below)) (Reps.none _ _))); intro AL cL wL hCL hcL hb; have HCL : Fa (Kd.C k26 wL AL 1 [(⟨(⟨a0_0, a0_1⟩ : S23), l0⟩ : S26)]) := ⟨hCL⟩; have HcL : Fa (1 ≤ cL) := ⟨hcL⟩; clear hCL hcL cl0_0 cl0_1 cl0_2 rr0; have S1 := Fa.mk (S.out.call hb); clear hb S; have S := S1; clear S1) | (go_at_call 11; (with_reducible refine (fleuronlaw08_LinearTimes.few_n k HCL.out HcL.out ET.out).mono ?_); rintro e wf ⟨rfl, hb⟩; clear HCL HcL; have S1 := Fa.mk (S.out.call hb); clear hb S; have S := S1; clear S1) | (go_at_call 12; (with_reducible refine (fleuronlaw08_awake.calls k r _ EV.out (HG.out.below S.out.below)).mono ?_); rintro e wa ⟨rfl, hb⟩; have S1 := Fa.mk (S.out.call hb); clear hb S; have S := S1; clear S1))
  go_ret
  exact ⟨rfl, S.out.below⟩
 rw [if_pos ⟨rfl, hs⟩] at h
 have hsb : decide (10000 < (a2.size : Int)) = false := decide_eq_false (by omega)
 have hsb2 : decide (10000 < a2.size) = false := decide_eq_false (by omega)
 clear hs
 replace h := Option.bind_eq_some_iff.mp h
 obtain ⟨⟨b1, b2, b3, b4⟩, e_, h⟩ := h
 (try dsimp only at e_ h)
 have E0 := Fa.mk e_
 clear e_
 replace h := Option.bind_eq_some_iff.mp h
 obtain ⟨⟨d1, d2, d3, d4⟩, e_, h⟩ := h
 (try dsimp only at e_ h)
 have E1 := Fa.mk e_
 clear e_
 replace h := Option.bind_eq_some_iff.mp h
 obtain ⟨⟨i1, i2, i3, i4⟩, e_, h⟩ := h
 (try dsimp only at e_ h)
 have E2 := Fa.mk e_
 clear e_
 replace h := Option.bind_eq_some_iff.mp h
 obtain ⟨⟨j1, j2, j3, j4⟩, e_, h⟩ := h
 (try dsimp only at e_ h)
 have E3 := Fa.mk e_
 clear e_
 replace h := Option.bind_eq_some_iff.mp h
 obtain ⟨⟨m1, m2, m3, m4⟩, e_, h⟩ := h
 (try dsimp only at e_ h)
 have E4 := Fa.mk e_
 clear e_
 replace h := Option.bind_eq_some_iff.mp h
 obtain ⟨⟨n1, n2, n3, n4⟩, e_, h⟩ := h
 (try dsimp only at e_ h)
 have E5 := Fa.mk e_
 clear e_
 replace h := Option.bind_eq_some_iff.mp h
 obtain ⟨⟨o1, o2, o3, o4⟩, e_, h⟩ := h
 (try dsimp only at e_ h)
 have E6 := Fa.mk e_
 clear e_
 replace h := Option.bind_eq_some_iff.mp h
 obtain ⟨⟨q1, q2, q3, q4⟩, e_, h⟩ := h
 (try dsimp only at e_ h)
 have E7 := Fa.mk e_
 clear e_
 replace h := Option.bind_eq_some_iff.mp h
 obtain ⟨s0, e_, h⟩ := h
 (try dsimp only at e_ h)
 have D0 := Fa.mk e_
 clear e_
 replace h := Option.bind_eq_some_iff.mp h
 obtain ⟨s1, e_, h⟩ := h
 (try dsimp only at e_ h)
 have D1 := Fa.mk e_
 clear e_
 replace h := Option.bind_eq_some_iff.mp h
 obtain ⟨s2, e_, h⟩ := h
 (try dsimp only at e_ h)
 have D2 := Fa.mk e_
 clear e_
 replace h := Option.bind_eq_some_iff.mp h
 obtain ⟨s3, e_, h⟩ := h
 (try dsimp only at e_ h)
 have D3 := Fa.mk e_
 clear e_
 replace h := Option.bind_eq_some_iff.mp h
 obtain ⟨v, e_, h⟩ := h
 (try dsimp only at e_ h)
 have EV := Fa.mk e_
 clear e_
 split at h
 rotate_left
 ·
  cases h
 rename_i hc
 obtain rfl := Option.some.inj h
 clear h
 obtain ⟨rfl, rfl, rfl, rfl, rfl, rfl, rfl, rfl⟩ := hc
 go_enter Tryz.func4, Tryz.ntmps4
 go_upto_region 3 with (first | ((with_reducible refine gate_dst (N := 3) rfl ?_); refine boxF (N := 3) (cs := #[.int .i64 a0_0, .int .i64 a0_1, .slice A0 l0.length c0]) (t := 26) ?_; intro gi0 hg wi0 hx hb; have S1 := Fa.mk (S.out.inp HR0.out HC0.out hg hb hx); clear hg hb hx S; have S := S1; clear S1) | ((with_reducible refine gate_dst (N := 4) rfl ?_); refine boxF (N := 4) (cs := #[.int .i64 a1_0, .int .i64 a1_1]) (t := 23) ?_; intro gi1 hg wi1 hx hb; have S1 := Fa.mk (S.out.inn hg hb hx); clear hg hb hx S; have S := S1; clear S1; have cl0_0 := jcell (S.out.get 0 rfl).blk (i := 0) rfl; have cl0_1 := jcell (S.out.get 0 rfl).blk (i := 1) rfl; have cl0_2 := jcell (S.out.get 0 rfl).blk (i := 2) rfl; have rr0 := Fa.mk (S.out.rd 0 rfl)) | ((with_reducible refine gate_dst (N := 24) rfl ?_); refine fewLit 24 ?hg ?hd (xs := [(⟨(⟨a0_0, a0_1⟩ : S23), l0⟩ : S26)]) (inner := [.int .i64 a0_0, .int .i64 a0_1, .slice A0 l0.length c0]) ?hr ?hp (by simp) ?_; (case hd => rfl); (case hg => rfl); (case hr => first | (go_simp; done) | (go_simp; rfl)); (case hp => exact (Reps.c3 (k26_mk _ (⟨(⟨a0_0, a0_1⟩ : S23), l0⟩ : S26) HC0.out (Kd.C_below HR0.out S.out.below)) (Reps.none _ _))); intro AL cL wL hCL hcL hb; have HCL : Fa (Kd.C k26 wL AL 1 [(⟨(⟨a0_0, a0_1⟩ : S23), l0⟩ : S26)]) := ⟨hCL⟩; have HcL : Fa (1 ≤ cL) := ⟨hcL⟩; clear hCL hcL cl0_0 cl0_1 cl0_2 rr0; have S1 := Fa.mk (S.out.call hb); clear hb S; have S := S1; clear S1) | (go_at_call 11; (with_reducible refine (fleuronlaw08_LinearTimes.few_n k HCL.out HcL.out ET.out).mono ?_); rintro e wf ⟨rfl, hb⟩; clear HCL HcL; have S1 := Fa.mk (S.out.call hb); clear hb S; have S := S1; clear S1))
 have cl0_0 := jcell (S.out.get 0 rfl).blk (i := 0) rfl
 have cl0_1 := jcell (S.out.get 0 rfl).blk (i := 1) rfl
 have cl0_2 := jcell (S.out.get 0 rfl).blk (i := 2) rfl
 have rr0 := Fa.mk (S.out.rd 0 rfl)
 have cm1_0 := jcell (S.out.num 0 rfl) (i := 0) rfl
 have cm1_1 := jcell (S.out.num 0 rfl) (i := 1) rfl
 go_upto_region 4 with (first | (go_at_call 20; (with_reducible refine (linear_Times.calls k a0_0 a0_1 A0 c0 l0 a1_0 a1_1 b1 b2 b3 _ _ rr0.out.2.2 rr0.out.2.1 E0.out).mono ?_); rintro e wcb ⟨vb, rfl, ho, hb⟩; obtain ⟨Ab, cb, hv⟩ := Kd.R_slice ho; subst hv; have Q := Fa.mk ((AQ.start S.out).row hb ho); clear ho hb S cl0_0 cl0_1 cl0_2 rr0 cm1_0 cm1_1) | ((with_reducible refine gate_dst (N := 7) rfl ?_); refine boxF (N := 7) (cs := #[.int .i64 0, .int .i64 0, .slice none 0 0]) (t := 26) ?_; intro gb hg wbb hx hb; have S := Fa.mk ((Q.out.box hg hb hx).put b1 b2); have co0 := jcell hx (i := 0) rfl; have co1 := jcell hx (i := 1) rfl; have co2 := jcell hx (i := 2) rfl; have fo0 := blk_frozen hx 0; have fo1 := blk_frozen hx 1; have fo2 := blk_frozen hx 2; clear hg hb hx Q))
 generalize hW_ : (((wbb.setCell ⟨gb, 0, none⟩ (.int .i64 b1)).setCell ⟨gb, 1, none⟩ (.int .i64 b2)).setCell ⟨gb, 2, none⟩ (.slice Ab b3.length cb)) = wwb at S ⊢
 clear hW_ co0 co1 co2 fo0 fo1 fo2
 have cl0_0 := jcell (S.out.get 1 rfl).blk (i := 0) rfl
 have cl0_1 := jcell (S.out.get 1 rfl).blk (i := 1) rfl
 have cl0_2 := jcell (S.out.get 1 rfl).blk (i := 2) rfl
 have rr0 := Fa.mk (S.out.rd 1 rfl)
 have cm1_0 := jcell (S.out.num 0 rfl) (i := 0) rfl
 have cm1_1 := jcell (S.out.num 0 rfl) (i := 1) rfl
 go_upto_region 5 with (first | (go_at_call 21; (with_reducible refine (fleuronref08_Times.calls k a0_0 a0_1 A0 c0 l0 a1_0 a1_1 d1 d2 d3 _ _ rr0.out.2.2 rr0.out.2.1 E1.out).mono ?_); rintro e wcd ⟨vd, rfl, ho, hb⟩; obtain ⟨Ad, cd, hv⟩ := Kd.R_slice ho; subst hv; have Q := Fa.mk ((AQ.start S.out).row hb ho); clear ho hb S cl0_0 cl0_1 cl0_2 rr0 cm1_0 cm1_1) | ((with_reducible refine gate_dst (N := 9) rfl ?_); refine boxF (N := 9) (cs := #[.int .i64 0, .int .i64 0, .slice none 0 0]) (t := 26) ?_; intro gd hg wbd hx hb; have S := Fa.mk ((Q.out.box hg hb hx).put d1 d2); have co0 := jcell hx (i := 0) rfl; have co1 := jcell hx (i := 1) rfl; have co2 := jcell hx (i := 2) rfl; have fo0 := blk_frozen hx 0; have fo1 := blk_frozen hx 1; have fo2 := blk_frozen hx 2; clear hg hb hx Q))
 generalize hW_ : (((wbd.setCell ⟨gd, 0, none⟩ (.int .i64 d1)).setCell ⟨gd, 1, none⟩ (.int .i64 d2)).setCell ⟨gd, 2, none⟩ (.slice Ad d3.length cd)) = wwd at S ⊢
 clear hW_ co0 co1 co2 fo0 fo1 fo2
 have cl0_0 := jcell (S.out.get 2 rfl).blk (i := 0) rfl
 have cl0_1 := jcell (S.out.get 2 rfl).blk (i := 1) rfl
 have cl0_2 := jcell (S.out.get 2 rfl).blk (i := 2) rfl
 have rr0 := Fa.mk (S.out.rd 2 rfl)
 have cm1_0 := jcell (S.out.num 0 rfl) (i := 0) rfl
 have cm1_1 := jcell (S.out.num 0 rfl) (i := 1) rfl
 go_upto_region 6 with (first | (go_at_call 22; (with_reducible refine (linear_Over.calls k a0_0 a0_1 A0 c0 l0 a1_0 a1_1 i1 i2 i3 _ _ rr0.out.2.2 rr0.out.2.1 E2.out).mono ?_); rintro e wci ⟨vi, rfl, ho, hb⟩; obtain ⟨Ai, ci, hv⟩ := Kd.R_slice ho; subst hv; have Q := Fa.mk ((AQ.start S.out).row hb ho); clear ho hb S cl0_0 cl0_1 cl0_2 rr0 cm1_0 cm1_1) | ((with_reducible refine gate_dst (N := 11) rfl ?_); refine boxF (N := 11) (cs := #[.int .i64 0, .int .i64 0, .slice none 0 0]) (t := 26) ?_; intro gi hg wbi hx hb; have S := Fa.mk ((Q.out.box hg hb hx).put i1 i2); have co0 := jcell hx (i := 0) rfl; have co1 := jcell hx (i := 1) rfl; have co2 := jcell hx (i := 2) rfl; have fo0 := blk_frozen hx 0; have fo1 := blk_frozen hx 1; have fo2 := blk_frozen hx 2; clear hg hb hx Q))
 generalize hW_ : (((wbi.setCell ⟨gi, 0, none⟩ (.int .i64 i1)).setCell ⟨gi, 1, none⟩ (.int .i64 i2)).setCell ⟨gi, 2, none⟩ (.slice Ai i3.length ci)) = wwi at S ⊢
 clear hW_ co0 co1 co2 fo0 fo1 fo2
 have cl0_0 := jcell (S.out.get 3 rfl).blk (i := 0) rfl
 have cl0_1 := jcell (S.out.get 3 rfl).blk (i := 1) rfl
 have cl0_2 := jcell (S.out.get 3 rfl).blk (i := 2) rfl
 have rr0 := Fa.mk (S.out.rd 3 rfl)
 have cm1_0 := jcell (S.out.num 0 rfl) (i := 0) rfl
 have cm1_1 := jcell (S.out.num 0 rfl) (i := 1) rfl
 go_upto_region 7 with (first | (go_at_call 23; (with_reducible refine (fleuronref08_Over.calls k a0_0 a0_1 A0 c0 l0 a1_0 a1_1 j1 j2 j3 _ _ rr0.out.2.2 rr0.out.2.1 E3.out).mono ?_); rintro e wcj ⟨vj, rfl, ho, hb⟩; obtain ⟨Aj, cj, hv⟩ := Kd.R_slice ho; subst hv; have Q := Fa.mk ((AQ.start S.out).row hb ho); clear ho hb S cl0_0 cl0_1 cl0_2 rr0 cm1_0 cm1_1) | ((with_reducible refine gate_dst (N := 13) rfl ?_); refine boxF (N := 13) (cs := #[.int .i64 0, .int .i64 0, .slice none 0 0]) (t := 26) ?_; intro gj hg wbj hx hb; have S := Fa.mk ((Q.out.box hg hb hx).put j1 j2); have co0 := jcell hx (i := 0) rfl; have co1 := jcell hx (i := 1) rfl; have co2 := jcell hx (i := 2) rfl; have fo0 := blk_frozen hx 0; have fo1 := blk_frozen hx 1; have fo2 := blk_frozen hx 2; clear hg hb hx Q))
 generalize hW_ : (((wbj.setCell ⟨gj, 0, none⟩ (.int .i64 j1)).setCell ⟨gj, 1, none⟩ (.int .i64 j2)).setCell ⟨gj, 2, none⟩ (.slice Aj j3.length cj)) = wwj at S ⊢
 clear hW_ co0 co1 co2 fo0 fo1 fo2
 have cm1_0 := jcell (S.out.num 0 rfl) (i := 0) rfl
 have cm1_1 := jcell (S.out.num 0 rfl) (i := 1) rfl
 go_upto_region 8 with (first | (go_at_call 24; (with_reducible refine (linear_Of.calls k a1_0 a1_1 m1 m2 m3 _ _ E4.out).mono ?_); rintro e wcm ⟨vm, rfl, ho, hb⟩; obtain ⟨Am, cm, hv⟩ := Kd.R_slice ho; subst hv; have Q := Fa.mk ((AQ.start S.out).row hb ho); clear ho hb S cm1_0 cm1_1) | ((with_reducible refine gate_dst (N := 15) rfl ?_); refine boxF (N := 15) (cs := #[.int .i64 0, .int .i64 0, .slice none 0 0]) (t := 26) ?_; intro gm hg wbm hx hb; have S := Fa.mk ((Q.out.box hg hb hx).put m1 m2); have co0 := jcell hx (i := 0) rfl; have co1 := jcell hx (i := 1) rfl; have co2 := jcell hx (i := 2) rfl; have fo0 := blk_frozen hx 0; have fo1 := blk_frozen hx 1; have fo2 := blk_frozen hx 2; clear hg hb hx Q))
 generalize hW_ : (((wbm.setCell ⟨gm, 0, none⟩ (.int .i64 m1)).setCell ⟨gm, 1, none⟩ (.int .i64 m2)).setCell ⟨gm, 2, none⟩ (.slice Am m3.length cm)) = wwm at S ⊢
 clear hW_ co0 co1 co2 fo0 fo1 fo2
 have cm1_0 := jcell (S.out.num 0 rfl) (i := 0) rfl
 have cm1_1 := jcell (S.out.num 0 rfl) (i := 1) rfl
 go_upto_region 9 with (first | (go_at_call 25; (with_reducible refine (fleuronref08_Of.calls k a1_0 a1_1 n1 n2 n3 _ _ E5.out).mono ?_); rintro e wcn ⟨vn, rfl, ho, hb⟩; obtain ⟨An, cn, hv⟩ := Kd.R_slice ho; subst hv; have Q := Fa.mk ((AQ.start S.out).row hb ho); clear ho hb S cm1_0 cm1_1) | ((with_reducible refine gate_dst (N := 17) rfl ?_); refine boxF (N := 17) (cs := #[.int .i64 0, .int .i64 0, .slice none 0 0]) (t := 26) ?_; intro gn hg wbn hx hb; have S := Fa.mk ((Q.out.box hg hb hx).put n1 n2); have co0 := jcell hx (i := 0) rfl; have co1 := jcell hx (i := 1) rfl; have co2 := jcell hx (i := 2) rfl; have fo0 := blk_frozen hx 0; have fo1 := blk_frozen hx 1; have fo2 := blk_frozen hx 2; clear hg hb hx Q))
 generalize hW_ : (((wbn.setCell ⟨gn, 0, none⟩ (.int .i64 n1)).setCell ⟨gn, 1, none⟩ (.int .i64 n2)).setCell ⟨gn, 2, none⟩ (.slice An n3.length cn)) = wwn at S ⊢
 clear hW_ co0 co1 co2 fo0 fo1 fo2
 go_upto_region 10 with (first | (go_at_call 26; (with_reducible refine (linear_Var.calls a2 o1 o2 o3 _ _ E6.out (HG.out.below S.out.below)).mono ?_); rintro e wco ⟨vo, rfl, ho, hb⟩; obtain ⟨Ao, co, hv⟩ := Kd.R_slice ho; subst hv; have Q := Fa.mk ((AQ.start S.out).row hb ho); clear ho hb S) | ((with_reducible refine gate_dst (N := 19) rfl ?_); refine boxF (N := 19) (cs := #[.int .i64 0, .int .i64 0, .slice none 0 0]) (t := 26) ?_; intro go hg wbo hx hb; have S := Fa.mk ((Q.out.box hg hb hx).put o1 o2); have co0 := jcell hx (i := 0) rfl; have co1 := jcell hx (i := 1) rfl; have co2 := jcell hx (i := 2) rfl; have fo0 := blk_frozen hx 0; have fo1 := blk_frozen hx 1; have fo2 := blk_frozen hx 2; clear hg hb hx Q))
 generalize hW_ : (((wbo.setCell ⟨go, 0, none⟩ (.int .i64 o1)).setCell ⟨go, 1, none⟩ (.int .i64 o2)).setCell ⟨go, 2, none⟩ (.slice Ao o3.length co)) = wwo at S ⊢
 clear hW_ co0 co1 co2 fo0 fo1 fo2
 go_upto_region 11 with (first | (go_at_call 27; (with_reducible refine (fleuronref08_Var.calls k a2 q1 q2 q3 _ _ E7.out).mono ?_); rintro e wcq ⟨vq, rfl, ho, hb⟩; obtain ⟨Aq, cq, hv⟩ := Kd.R_slice ho; subst hv; have Q := Fa.mk ((AQ.start S.out).row hb ho); clear ho hb S) | ((with_reducible refine gate_dst (N := 21) rfl ?_); refine boxF (N := 21) (cs := #[.int .i64 0, .int .i64 0, .slice none 0 0]) (t := 26) ?_; intro gq hg wbq hx hb; have S := Fa.mk ((Q.out.box hg hb hx).put q1 q2); have co0 := jcell hx (i := 0) rfl; have co1 := jcell hx (i := 1) rfl; have co2 := jcell hx (i := 2) rfl; have fo0 := blk_frozen hx 0; have fo1 := blk_frozen hx 1; have fo2 := blk_frozen hx 2; clear hg hb hx Q))
 generalize hW_ : (((wbq.setCell ⟨gq, 0, none⟩ (.int .i64 q1)).setCell ⟨gq, 1, none⟩ (.int .i64 q2)).setCell ⟨gq, 2, none⟩ (.slice Aq q3.length cq)) = wwq at S ⊢
 clear hW_ co0 co1 co2 fo0 fo1 fo2
 have tok1 : True := trivial
 have tok2 : True := trivial
 have tok3 : True := trivial
 have tok4 : True := trivial
 have clb_0 := jcell (S.out.get 7 rfl).blk (i := 0) rfl
 have clb_1 := jcell (S.out.get 7 rfl).blk (i := 1) rfl
 have clb_2 := jcell (S.out.get 7 rfl).blk (i := 2) rfl
 have rrb := Fa.mk (S.out.rd 7 rfl)
 have cld_0 := jcell (S.out.get 6 rfl).blk (i := 0) rfl
 have cld_1 := jcell (S.out.get 6 rfl).blk (i := 1) rfl
 have cld_2 := jcell (S.out.get 6 rfl).blk (i := 2) rfl
 have rrd := Fa.mk (S.out.rd 6 rfl)
 go_wp2_with (first | (have _t := tok1; go_at_call 19; (with_reducible refine (fleuronref08_Same.calls k b1 b2 _ _ b3 d1 d2 _ _ d3 true _ rrb.out.2.2 rrb.out.2.1 rrd.out.2.2 rrd.out.2.1 D0.out).mono ?_); rintro e wl0 ⟨rfl, hb⟩; clear tok1 clb_0 clb_1 clb_2 rrb cld_0 cld_1 cld_2 rrd; have S1 := Fa.mk (S.out.call hb); clear hb S; have S := S1; clear S1; have cli_0 := jcell (S.out.get 5 rfl).blk (i := 0) rfl; have cli_1 := jcell (S.out.get 5 rfl).blk (i := 1) rfl; have cli_2 := jcell (S.out.get 5 rfl).blk (i := 2) rfl; have rri := Fa.mk (S.out.rd 5 rfl); have clj_0 := jcell (S.out.get 4 rfl).blk (i := 0) rfl; have clj_1 := jcell (S.out.get 4 rfl).blk (i := 1) rfl; have clj_2 := jcell (S.out.get 4 rfl).blk (i := 2) rfl; have rrj := Fa.mk (S.out.rd 4 rfl)) | (have _t := tok2; go_at_call 19; (with_reducible refine (fleuronref08_Same.calls k i1 i2 _ _ i3 j1 j2 _ _ j3 true _ rri.out.2.2 rri.out.2.1 rrj.out.2.2 rrj.out.2.1 D1.out).mono ?_); rintro e wl1 ⟨rfl, hb⟩; clear tok2 cli_0 cli_1 cli_2 rri clj_0 clj_1 clj_2 rrj; have S1 := Fa.mk (S.out.call hb); clear hb S; have S := S1; clear S1; have clm_0 := jcell (S.out.get 3 rfl).blk (i := 0) rfl; have clm_1 := jcell (S.out.get 3 rfl).blk (i := 1) rfl; have clm_2 := jcell (S.out.get 3 rfl).blk (i := 2) rfl; have rrm := Fa.mk (S.out.rd 3 rfl); have cln_0 := jcell (S.out.get 2 rfl).blk (i := 0) rfl; have cln_1 := jcell (S.out.get 2 rfl).blk (i := 1) rfl; have cln_2 := jcell (S.out.get 2 rfl).blk (i := 2) rfl; have rrn := Fa.mk (S.out.rd 2 rfl)) | (have _t := tok3; go_at_call 19; (with_reducible refine (fleuronref08_Same.calls k m1 m2 _ _ m3 n1 n2 _ _ n3 true _ rrm.out.2.2 rrm.out.2.1 rrn.out.2.2 rrn.out.2.1 D2.out).mono ?_); rintro e wl2 ⟨rfl, hb⟩; clear tok3 clm_0 clm_1 clm_2 rrm cln_0 cln_1 cln_2 rrn; have S1 := Fa.mk (S.out.call hb); clear hb S; have S := S1; clear S1; have clo_0 := jcell (S.out.get 1 rfl).blk (i := 0) rfl; have clo_1 := jcell (S.out.get 1 rfl).blk (i := 1) rfl; have clo_2 := jcell (S.out.get 1 rfl).blk (i := 2) rfl; have rro := Fa.mk (S.out.rd 1 rfl); have clq_0 := jcell (S.out.get 0 rfl).blk (i := 0) rfl; have clq_1 := jcell (S.out.get 0 rfl).blk (i := 1) rfl; have clq_2 := jcell (S.out.get 0 rfl).blk (i := 2) rfl; have rrq := Fa.mk (S.out.rd 0 rfl)) | (have _t := tok4; go_at_call 19; (with_reducible refine (fleuronref08_Same.calls k o1 o2 _ _ o3 q1 q2 _ _ q3 true _ rro.out.2.2 rro.out.2.1 rrq.out.2.2 rrq.out.2.1 D3.out).mono ?_); rintro e wl3 ⟨rfl, hb⟩; clear tok4 clo_0 clo_1 clo_2 rro clq_0 clq_1 clq_2 rrq; have S1 := Fa.mk (S.out.call hb); clear hb S; have S := S1; clear S1) | (go_at_call 12; (with_reducible refine (fleuronlaw08_awake.calls k v _ EV.out (HG.out.below S.out.below)).mono ?_); rintro e wa ⟨rfl, hb⟩; have S1 := Fa.mk (S.out.call hb); clear hb S; have S := S1; clear S1))
 go_ret
 exact ⟨rfl, S.out.below⟩
end Go.Proofs.YtilamkcpbibnmaaGreatDoor.P
