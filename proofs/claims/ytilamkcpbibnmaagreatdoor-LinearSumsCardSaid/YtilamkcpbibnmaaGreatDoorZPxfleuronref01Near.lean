import Derived.Test.YtilamkcpbibnmaaGreatDoorZPx0
import Derived.Test.YtilamkcpbibnmaaGreatDoorZPxfleuronref01exact
namespace Go.Proofs.YtilamkcpbibnmaaGreatDoor.P
open Go.RowKit Go.Proofs.YtilamkcpbibnmaaGreatDoorW.PrintWords Go.Proofs.YtilamkcpbibnmaaGreatDoorW.PrintLast Go.Proofs.YtilamkcpbibnmaaGreatDoorW.PrintMore
attribute [local go_sem] max2_int min2_int max_two min_two max_three min_three max_four min_four
set_option linter.unusedVariables false
set_option linter.unusedSimpArgs false
def fleuronref01_Near.j0 : Nat → ByteArray → Bool → Int → Int → Int → Int → Option (Int × Int × Int)
  | 0, _, _, _, _, _, _ => none
  | k + 1, x0, x25, x305000, x305001, x306000, x306001 => if x25 = true then (some (0, 0, 2)) else ((fleuronref01_result.f k x0 x305000 x305001 x306000 x306001).bind fun bt307 => (if bt307.2.2 = 17 then ((fleuronref01_exact.f x0 x305000 x305001 x306000 x306001).bind fun bt311 => ((fleuronref01_fixed.f k bt311.1 bt311.2).bind fun bt313 => (if bt313.2 = true then ((fleuronref01_Make.f k bt313.1 65536).bind fun bt315 => (some (bt315.1, bt315.2.1, bt315.2.2))) else (some (0, 0, 17))))) else (some (bt307.1, bt307.2.1, bt307.2.2))))
def fleuronref01_Near.f (k : Nat) (a0 : ByteArray) (a1_0 : Int) (a1_1 : Int) (a2_0 : Int) (a2_1 : Int) : Option (Int × Int × Int) := if a0.toList = ([43] : List UInt8) then (fleuronref01_Near.j0 k a0 false a1_0 a1_1 a2_0 a2_1) else (if a0.toList = ([45] : List UInt8) then (fleuronref01_Near.j0 k a0 false a1_0 a1_1 a2_0 a2_1) else (if a0.toList = ([42] : List UInt8) then (fleuronref01_Near.j0 k a0 false a1_0 a1_1 a2_0 a2_1) else (fleuronref01_Near.j0 k a0 (a0.toList != ([47] : List UInt8)) a1_0 a1_1 a2_0 a2_1)))
set_option maxHeartbeats 8000000 in
set_option maxRecDepth 100000 in
theorem fleuronref01_Near.calls (k : Nat) (a0 : ByteArray) (a1_0 : Int) (a1_1 : Int) (a2_0 : Int) (a2_1 : Int) (r1 : Int) (r2 : Int) (r3 : Int) (w : World) (h : fleuronref01_Near.f k a0 a1_0 a1_1 a2_0 a2_1 = some (r1, r2, r3)) :
  Calls Tryz.prog 57 #[.string a0, .agg #[.int .i64 a1_0, .int .i64 a1_1], .agg #[.int .i64 a2_0, .int .i64 a2_1]] w fun e w' => e = .returned (.tuple #[.agg #[.int .i64 r1, .int .i64 r2], .int .i64 r3]) ∧ Below w.heap.size w w' := by
 have hu23 := Tryz.underlying23
 have HB := Fa.mk (Below.refl w.heap.size w)
 have H : (if a0.toList = ([43] : List UInt8) then (fleuronref01_Near.j0 k a0 false a1_0 a1_1 a2_0 a2_1) else (if a0.toList = ([45] : List UInt8) then (fleuronref01_Near.j0 k a0 false a1_0 a1_1 a2_0 a2_1) else (if a0.toList = ([42] : List UInt8) then (fleuronref01_Near.j0 k a0 false a1_0 a1_1 a2_0 a2_1) else (fleuronref01_Near.j0 k a0 (a0.toList != ([47] : List UInt8)) a1_0 a1_1 a2_0 a2_1)))) = some (r1, r2, r3) := h
 clear h
 have HC4 := Fa.mk H
 clear H
 go_enter Tryz.func57, Tryz.ntmps57
 go_upto_region 1 with (first | ((with_reducible refine gate_dst (N := 4) rfl ?_); refine boxF (N := 4) (cs := #[.int .i64 a1_0, .int .i64 a1_1]) (t := 23) ?_; intro gb304 hg w5 hbox hb; have hS := Stp.mk hb; have BK304 := Fa.mk (hbox); have GW304 := Fa.mk (gle hg : w.heap.size ≤ gb304); have GE304 := GW304; clear hb hbox hg) | ((with_reducible refine gate_dst (N := 5) rfl ?_); refine boxF (N := 5) (cs := #[.int .i64 a2_0, .int .i64 a2_1]) (t := 23) ?_; intro gb305 hg w6 hbox hb; have hS := Stp.mk hb; have BK305 := Fa.mk (hbox); have GW305 := Fa.mk (gle hg : w.heap.size ≤ gb305); have GE305 := GW305; have NB304_305 := Fa.mk (gne (o := .cells #[.int .i64 a1_0, .int .i64 a1_1] 23 (0, 0)) hg : gb304 ≠ gb305); have NB305_304 := Fa.mk NB304_305.out.symm; clear hb hbox hg) | ((with_reducible refine gate_dst (N := 6) rfl ?_); refine boxF (N := 6) (cs := #[.int .i64 0, .int .i64 0]) (t := 23) ?_; intro gb306 hg w7 hbox hb; have hS := Stp.mk hb; have BK306 := Fa.mk (hbox); have GW306 := Fa.mk (gle hg : w.heap.size ≤ gb306); have GE306 := GW306; have NB304_306 := Fa.mk (gne (o := .cells #[.int .i64 a1_0, .int .i64 a1_1] 23 (0, 0)) hg : gb304 ≠ gb306); have NB306_304 := Fa.mk NB304_306.out.symm; have NB305_306 := Fa.mk (gne (o := .cells #[.int .i64 a2_0, .int .i64 a2_1] 23 (0, 0)) hg : gb305 ≠ gb306); have NB306_305 := Fa.mk NB305_306.out.symm; clear hb hbox hg))
 (try simp only [Act.put, List.setIfInBounds_toArray, List.set_cons_zero, List.set_cons_succ])
 go_cut [25] (fun v25 wc => ∃ (kq : Nat) (x25_3 : Bool), v25 = .bool x25_3 ∧ Fa (fleuronref01_Near.j0 kq a0 x25_3 a1_0 a1_1 a2_0 a2_1 = some (r1, r2, r3)) ∧ Fa (kq ≤ k) ∧ Fa (wc.heap[gb304]? = some (.cells #[.int .i64 a1_0, .int .i64 a1_1] 23 (0, 0))) ∧ Fa (wc.heap[gb305]? = some (.cells #[.int .i64 a2_0, .int .i64 a2_1] 23 (0, 0))) ∧ Fa (wc.heap[gb306]? = some (.cells #[.int .i64 0, .int .i64 0] 23 (0, 0))) ∧ Fa (Below w.heap.size w wc))
 case first =>
  have H := HC4.out
  clear HC4
  by_cases c8 : a0.toList = ([43] : List UInt8)
  ·
   rw [if_pos c8] at H
   have c8b0 : (a0.toList == ([43] : List UInt8)) = true := beq_iff_eq.mpr c8
   have c8b1 : (a0.toList != ([43] : List UInt8)) = false := bne_eq_false_iff_eq.mpr c8
   clear c8
   (first | rw [c8b0] | (simp only [i64_w, i32_w]; rw [c8b0]) | skip)
   have H' := Fa.mk H
   clear H
   go_wp2
   go_meet
   case rel => exact ⟨_, (false), (by first | rfl | (simp; done) | (simp [*]; done)), H', ⟨by first | omega | exact Nat.le_refl _⟩, ⟨fa⟩, ⟨fa⟩, ⟨fa⟩, ⟨fa⟩⟩
  ·
   rw [if_neg c8] at H
   have c8b0 : (a0.toList == ([43] : List UInt8)) = false := beq_eq_false_iff_ne.mpr c8
   have c8b1 : (a0.toList != ([43] : List UInt8)) = true := bne_iff_ne.mpr c8
   (first | rw [c8b0] | (simp only [i64_w, i32_w]; rw [c8b0]) | skip)
   by_cases c9 : a0.toList = ([45] : List UInt8)
   ·
    rw [if_pos c9] at H
    have c9b0 : (a0.toList == ([45] : List UInt8)) = true := beq_iff_eq.mpr c9
    have c9b1 : (a0.toList != ([45] : List UInt8)) = false := bne_eq_false_iff_eq.mpr c9
    clear c9
    have H' := Fa.mk H
    clear H
    go_wp2
    go_meet
    case rel => exact ⟨_, (false), (by first | rfl | (simp; done) | (simp [*]; done)), H', ⟨by first | omega | exact Nat.le_refl _⟩, ⟨fa⟩, ⟨fa⟩, ⟨fa⟩, ⟨fa⟩⟩
   ·
    rw [if_neg c9] at H
    have c9b0 : (a0.toList == ([45] : List UInt8)) = false := beq_eq_false_iff_ne.mpr c9
    have c9b1 : (a0.toList != ([45] : List UInt8)) = true := bne_iff_ne.mpr c9
    by_cases c10 : a0.toList = ([42] : List UInt8)
    ·
     rw [if_pos c10] at H
     have c10b0 : (a0.toList == ([42] : List UInt8)) = true := beq_iff_eq.mpr c10
     have c10b1 : (a0.toList != ([42] : List UInt8)) = false := bne_eq_false_iff_eq.mpr c10
     clear c10
     have H' := Fa.mk H
     clear H
     go_wp2
     go_meet
     case rel => exact ⟨_, (false), (by first | rfl | (simp; done) | (simp [*]; done)), H', ⟨by first | omega | exact Nat.le_refl _⟩, ⟨fa⟩, ⟨fa⟩, ⟨fa⟩, ⟨fa⟩⟩
    ·
     rw [if_neg c10] at H
     have c10b0 : (a0.toList == ([42] : List UInt8)) = false := beq_eq_false_iff_ne.mpr c10
     have c10b1 : (a0.toList != ([42] : List UInt8)) = true := bne_iff_ne.mpr c10
     have H' := Fa.mk H
     clear H
     go_wp2
     go_meet
     case rel => exact ⟨_, ((a0.toList != ([47] : List UInt8))), (by first | rfl | (simp; done) | (simp [*]; done)), H', ⟨by first | omega | exact Nat.le_refl _⟩, ⟨fa⟩, ⟨fa⟩, ⟨fa⟩, ⟨fa⟩⟩
 case rest =>
  clear HC4
  (try clear c1);(try clear p2);(try clear c5);(try clear c8);(try clear c8b0);(try clear c8b1);(try clear c9);(try clear c9b0);(try clear c9b1);(try clear c10);(try clear c10b0);(try clear c10b1)
  obtain ⟨kq, x25_3, rfl, HA, HJ3, BK304, BK305, BK306, HB⟩ := hcut
  cases kq with
  | zero => exact absurd HA.out (by simp [fleuronref01_Near.j0])
  | succ kj3 =>
   have H := HA.out
   clear HA
   simp only [fleuronref01_Near.j0] at H
   by_cases c11 : x25_3 = true
   ·
    subst c11
    rw [if_pos rfl] at H
    simp only [Option.some.injEq, Prod.mk.injEq] at H
    obtain ⟨rfl, rfl, rfl⟩ := H
    have hnb12 := NB306_304.out
    have hnc12 := NB304_306.out
    have hnb13 := NB306_305.out
    have hnc13 := NB305_306.out
    have hcz14_0 := jcell BK306.out (i := 0) rfl
    have hcz14_1 := jcell BK306.out (i := 1) rfl
    have hfz14_0 := blk_frozen BK306.out 0
    have hfz14_1 := blk_frozen BK306.out 1
    go_wp2
    refine bodyPost_ret (results_ct rfl _ _ gb306 23 #[.int .i64 0, .int .i64 0] (0, 0) _ rfl (by (with_reducible repeat (first | refine blk_drewN ?_ _ | refine blk_drew ?_ | refine blk_alloc ?_ _)); refine blk_put (cs := #[.int .i64 0, .int .i64 0]) ?_ 1 _ rfl; (with_reducible repeat (first | refine blk_drewN ?_ _ | refine blk_drew ?_ | refine blk_alloc ?_ _)); refine blk_put (cs := #[.int .i64 0, .int .i64 0]) ?_ 0 _ rfl; (with_reducible repeat (first | refine blk_drewN ?_ _ | refine blk_drew ?_ | refine blk_alloc ?_ _)); exact fa) Tryz.underlying23 rfl (by kernel_rfl)) rfl ?_
    exact ⟨rfl, fa⟩
   ·
    replace c11 := Bool.eq_false_iff.mpr c11
    subst c11
    rw [if_neg (show ¬ (false = true) by decide)] at H
    replace H := Option.bind_eq_some_iff.mp H
    obtain ⟨⟨t307, t308, t309⟩, A150, H⟩ := H
    (try dsimp only at H)
    have A15 := Fa.mk A150
    clear A150
    by_cases c16 : t309 = 17
    ·
     rw [if_pos c16] at H
     have c16b0 : (t309 == 17) = true := beq_iff_eq.mpr c16
     have c16b1 : (t309 != 17) = false := bne_eq_false_iff_eq.mpr c16
     clear c16
     replace H := Option.bind_eq_some_iff.mp H
     obtain ⟨⟨t311, t312⟩, A170, H⟩ := H
     (try dsimp only at H)
     have A17 := Fa.mk A170
     clear A170
     replace H := Option.bind_eq_some_iff.mp H
     obtain ⟨⟨t313, t314⟩, A180, H⟩ := H
     (try dsimp only at H)
     have A18 := Fa.mk A180
     clear A180
     by_cases c19 : t314 = true
     ·
      subst c19
      rw [if_pos rfl] at H
      replace H := Option.bind_eq_some_iff.mp H
      obtain ⟨⟨t315, t316, t317⟩, A200, H⟩ := H
      (try dsimp only at H)
      have A20 := Fa.mk A200
      clear A200
      simp only [Option.some.injEq, Prod.mk.injEq] at H
      obtain ⟨rfl, rfl, rfl⟩ := H
      have hnb21 := NB304_305.out
      have hnc21 := NB305_304.out
      have hnb22 := NB304_306.out
      have hnc22 := NB306_304.out
      have hcz23_0 := jcell BK304.out (i := 0) rfl
      have hcz23_1 := jcell BK304.out (i := 1) rfl
      have hfz23_0 := blk_frozen BK304.out 0
      have hfz23_1 := blk_frozen BK304.out 1
      have hnb24 := NB305_306.out
      have hnc24 := NB306_305.out
      have hcz25_0 := jcell BK305.out (i := 0) rfl
      have hcz25_1 := jcell BK305.out (i := 1) rfl
      have hfz25_0 := blk_frozen BK305.out 0
      have hfz25_1 := blk_frozen BK305.out 1
      go_wp2_with (first | ((with_reducible refine gate_callee (f := 77) rfl ?_); refine goesA (some 31) rfl rfl Tryz.func77 (by kernel_rfl) rfl #[.string a0, .agg #[.int .i64 a1_0, .int .i64 a1_1], .agg #[.int .i64 a2_0, .int .i64 a2_1]] rfl ?_; (with_reducible refine (fleuronref01_result.calls kj3 a0 a1_0 a1_1 a2_0 a2_1 t307 t308 t309 _ A15.out).mono ?_); rintro e w26 ⟨rfl, hb⟩; refine ⟨_, rfl, ?_⟩; have hS := Stp.mk hb; clear hb) | ((with_reducible refine gate_dst (N := 8) rfl ?_); refine boxF (N := 8) (cs := #[.int .i64 0, .int .i64 0]) (t := 23) ?_; intro gb310 hg w27 hbox hb; have hS := Stp.mk hb; have BK304 := (⟨fa⟩ : Fa (w27.heap[gb304]? = some (.cells #[.int .i64 a1_0, .int .i64 a1_1] 23 (0, 0)))); have BK305 := (⟨fa⟩ : Fa (w27.heap[gb305]? = some (.cells #[.int .i64 a2_0, .int .i64 a2_1] 23 (0, 0)))); have BK310 := Fa.mk (hbox); have GW310 := Fa.mk (gle hg : w.heap.size ≤ gb310); have GE310 := GW310; have NB304_310 := Fa.mk (gne (o := .cells #[.int .i64 a1_0, .int .i64 a1_1] 23 (0, 0)) hg : gb304 ≠ gb310); have NB310_304 := Fa.mk NB304_310.out.symm; have NB305_310 := Fa.mk (gne (o := .cells #[.int .i64 a2_0, .int .i64 a2_1] 23 (0, 0)) hg : gb305 ≠ gb310); have NB310_305 := Fa.mk NB305_310.out.symm; have NB306_310 := Fa.mk (gne (o := .cells #[.int .i64 0, .int .i64 0] 23 (0, 0)) hg : gb306 ≠ gb310); have NB310_306 := Fa.mk NB306_310.out.symm; clear hb hbox hg; have hnb28 := NB310_304.out; have hnc28 := NB304_310.out; have hnb29 := NB310_305.out; have hnc29 := NB305_310.out; have hnb30 := NB310_306.out; have hnc30 := NB306_310.out; have hcz31_0 := jcell BK310.out (i := 0) rfl; have hcz31_1 := jcell BK310.out (i := 1) rfl; have hfz31_0 := blk_frozen BK310.out 0; have hfz31_1 := blk_frozen BK310.out 1; have hcz32_0 := jcell BK304.out (i := 0) rfl; have hcz32_1 := jcell BK304.out (i := 1) rfl; have hfz32_0 := blk_frozen BK304.out 0; have hfz32_1 := blk_frozen BK304.out 1; have hcz33_0 := jcell BK305.out (i := 0) rfl; have hcz33_1 := jcell BK305.out (i := 1) rfl; have hfz33_0 := blk_frozen BK305.out 0; have hfz33_1 := blk_frozen BK305.out 1) | ((with_reducible refine gate_callee (f := 84) rfl ?_); refine goesA (some 42) rfl rfl Tryz.func84 (by kernel_rfl) rfl #[.string a0, .agg #[.int .i64 a1_0, .int .i64 a1_1], .agg #[.int .i64 a2_0, .int .i64 a2_1]] rfl ?_; (with_reducible refine (fleuronref01_exact.calls a0 a1_0 a1_1 a2_0 a2_1 t311 t312 _ A17.out).mono ?_); rintro e w34 ⟨rfl, hb⟩; refine ⟨_, rfl, ?_⟩; have hS := Stp.mk hb; have BK310 := Fa.mk (blk_below (g := gb310) (o := .cells #[.int .i64 t307, .int .i64 t308] 23 (0, 0)) (by (with_reducible repeat (first | refine blk_drewN ?_ _ | refine blk_drew ?_ | refine blk_alloc ?_ _)); refine blk_put (cs := #[.int .i64 t307, .int .i64 0]) ?_ 1 _ rfl; (with_reducible repeat (first | refine blk_drewN ?_ _ | refine blk_drew ?_ | refine blk_alloc ?_ _)); refine blk_put (cs := #[.int .i64 0, .int .i64 0]) ?_ 0 _ rfl; (with_reducible repeat (first | refine blk_drewN ?_ _ | refine blk_drew ?_ | refine blk_alloc ?_ _)); exact fa) hb); clear hb) | ((with_reducible refine gate_callee (f := 83) rfl ?_); refine goesA (some 45) rfl rfl Tryz.func83 (by kernel_rfl) rfl #[.int .i64 t311, .int .i64 t312] rfl ?_; (with_reducible refine (fleuronref01_fixed.calls kj3 t311 t312 t313 true _ A18.out).mono ?_); rintro e w' ⟨rfl, ⟨nd, rfl⟩⟩; refine ⟨_, rfl, ?_⟩; (try (rw [drewN_self w34]; generalize hq_ : World.drewN w34 _ = w34; have n0_ : Fa (w34.heap[gb304]? = some (.cells #[.int .i64 a1_0, .int .i64 a1_1] 23 (0, 0))) := ⟨by rw [← hq_]; exact fa⟩; have n1_ : Fa (w34.heap[gb305]? = some (.cells #[.int .i64 a2_0, .int .i64 a2_1] 23 (0, 0))) := ⟨by rw [← hq_]; exact fa⟩; have n2_ : Fa (w34.heap[gb306]? = some (.cells #[.int .i64 0, .int .i64 0] 23 (0, 0))) := ⟨by rw [← hq_]; exact fa⟩; have n3_ : Fa (w34.heap[gb310]? = some (.cells #[.int .i64 t307, .int .i64 t308] 23 (0, 0))) := ⟨by rw [← hq_]; exact fa⟩; have n4_ : Fa (Below w.heap.size w w34) := ⟨by rw [← hq_]; exact fa⟩; clear BK304 BK305 BK306 BK310 HB hq_; have BK304 := n0_; have BK305 := n1_; have BK306 := n2_; have BK310 := n3_; have HB := n4_; clear n0_ n1_ n2_ n3_ n4_))) | ((with_reducible refine gate_callee (f := 85) rfl ?_); refine goesA (some 52) rfl rfl Tryz.func85 (by kernel_rfl) rfl #[.int .i64 t313, .int .i64 65536] rfl ?_; (with_reducible refine (fleuronref01_Make.calls kj3 t313 65536 t315 t316 t317 _ A20.out).mono ?_); rintro e w35 ⟨rfl, hb⟩; refine ⟨_, rfl, ?_⟩; have hS := Stp.mk hb; have BK306 := (⟨fa⟩ : Fa (w35.heap[gb306]? = some (.cells #[.int .i64 0, .int .i64 0] 23 (0, 0)))); clear hb; have hcz36_0 := jcell BK306.out (i := 0) rfl; have hcz36_1 := jcell BK306.out (i := 1) rfl; have hfz36_0 := blk_frozen BK306.out 0; have hfz36_1 := blk_frozen BK306.out 1))
      refine bodyPost_ret (results_ct rfl _ _ gb306 23 #[.int .i64 t315, .int .i64 t316] (0, 0) _ rfl (by (with_reducible repeat (first | refine blk_drewN ?_ _ | refine blk_drew ?_ | refine blk_alloc ?_ _)); refine blk_put (cs := #[.int .i64 t315, .int .i64 0]) ?_ 1 _ rfl; (with_reducible repeat (first | refine blk_drewN ?_ _ | refine blk_drew ?_ | refine blk_alloc ?_ _)); refine blk_put (cs := #[.int .i64 0, .int .i64 0]) ?_ 0 _ rfl; (with_reducible repeat (first | refine blk_drewN ?_ _ | refine blk_drew ?_ | refine blk_alloc ?_ _)); exact fa) Tryz.underlying23 rfl (by kernel_rfl)) rfl ?_
      exact ⟨rfl, fa⟩
     ·
      replace c19 := Bool.eq_false_iff.mpr c19
      subst c19
      rw [if_neg (show ¬ (false = true) by decide)] at H
      simp only [Option.some.injEq, Prod.mk.injEq] at H
      obtain ⟨rfl, rfl, rfl⟩ := H
      have hnb37 := NB304_305.out
      have hnc37 := NB305_304.out
      have hnb38 := NB304_306.out
      have hnc38 := NB306_304.out
      have hcz39_0 := jcell BK304.out (i := 0) rfl
      have hcz39_1 := jcell BK304.out (i := 1) rfl
      have hfz39_0 := blk_frozen BK304.out 0
      have hfz39_1 := blk_frozen BK304.out 1
      have hnb40 := NB305_306.out
      have hnc40 := NB306_305.out
      have hcz41_0 := jcell BK305.out (i := 0) rfl
      have hcz41_1 := jcell BK305.out (i := 1) rfl
      have hfz41_0 := blk_frozen BK305.out 0
      have hfz41_1 := blk_frozen BK305.out 1
      go_wp2_with (first | ((with_reducible refine gate_callee (f := 77) rfl ?_); refine goesA (some 31) rfl rfl Tryz.func77 (by kernel_rfl) rfl #[.string a0, .agg #[.int .i64 a1_0, .int .i64 a1_1], .agg #[.int .i64 a2_0, .int .i64 a2_1]] rfl ?_; (with_reducible refine (fleuronref01_result.calls kj3 a0 a1_0 a1_1 a2_0 a2_1 t307 t308 t309 _ A15.out).mono ?_); rintro e w42 ⟨rfl, hb⟩; refine ⟨_, rfl, ?_⟩; have hS := Stp.mk hb; clear hb) | ((with_reducible refine gate_dst (N := 8) rfl ?_); refine boxF (N := 8) (cs := #[.int .i64 0, .int .i64 0]) (t := 23) ?_; intro gb310 hg w43 hbox hb; have hS := Stp.mk hb; have BK304 := (⟨fa⟩ : Fa (w43.heap[gb304]? = some (.cells #[.int .i64 a1_0, .int .i64 a1_1] 23 (0, 0)))); have BK305 := (⟨fa⟩ : Fa (w43.heap[gb305]? = some (.cells #[.int .i64 a2_0, .int .i64 a2_1] 23 (0, 0)))); have BK310 := Fa.mk (hbox); have GW310 := Fa.mk (gle hg : w.heap.size ≤ gb310); have GE310 := GW310; have NB304_310 := Fa.mk (gne (o := .cells #[.int .i64 a1_0, .int .i64 a1_1] 23 (0, 0)) hg : gb304 ≠ gb310); have NB310_304 := Fa.mk NB304_310.out.symm; have NB305_310 := Fa.mk (gne (o := .cells #[.int .i64 a2_0, .int .i64 a2_1] 23 (0, 0)) hg : gb305 ≠ gb310); have NB310_305 := Fa.mk NB305_310.out.symm; have NB306_310 := Fa.mk (gne (o := .cells #[.int .i64 0, .int .i64 0] 23 (0, 0)) hg : gb306 ≠ gb310); have NB310_306 := Fa.mk NB306_310.out.symm; clear hb hbox hg; have hnb44 := NB310_304.out; have hnc44 := NB304_310.out; have hnb45 := NB310_305.out; have hnc45 := NB305_310.out; have hnb46 := NB310_306.out; have hnc46 := NB306_310.out; have hcz47_0 := jcell BK310.out (i := 0) rfl; have hcz47_1 := jcell BK310.out (i := 1) rfl; have hfz47_0 := blk_frozen BK310.out 0; have hfz47_1 := blk_frozen BK310.out 1; have hcz48_0 := jcell BK304.out (i := 0) rfl; have hcz48_1 := jcell BK304.out (i := 1) rfl; have hfz48_0 := blk_frozen BK304.out 0; have hfz48_1 := blk_frozen BK304.out 1; have hcz49_0 := jcell BK305.out (i := 0) rfl; have hcz49_1 := jcell BK305.out (i := 1) rfl; have hfz49_0 := blk_frozen BK305.out 0; have hfz49_1 := blk_frozen BK305.out 1) | ((with_reducible refine gate_callee (f := 84) rfl ?_); refine goesA (some 42) rfl rfl Tryz.func84 (by kernel_rfl) rfl #[.string a0, .agg #[.int .i64 a1_0, .int .i64 a1_1], .agg #[.int .i64 a2_0, .int .i64 a2_1]] rfl ?_; (with_reducible refine (fleuronref01_exact.calls a0 a1_0 a1_1 a2_0 a2_1 t311 t312 _ A17.out).mono ?_); rintro e w50 ⟨rfl, hb⟩; refine ⟨_, rfl, ?_⟩; have hS := Stp.mk hb; have BK310 := Fa.mk (blk_below (g := gb310) (o := .cells #[.int .i64 t307, .int .i64 t308] 23 (0, 0)) (by (with_reducible repeat (first | refine blk_drewN ?_ _ | refine blk_drew ?_ | refine blk_alloc ?_ _)); refine blk_put (cs := #[.int .i64 t307, .int .i64 0]) ?_ 1 _ rfl; (with_reducible repeat (first | refine blk_drewN ?_ _ | refine blk_drew ?_ | refine blk_alloc ?_ _)); refine blk_put (cs := #[.int .i64 0, .int .i64 0]) ?_ 0 _ rfl; (with_reducible repeat (first | refine blk_drewN ?_ _ | refine blk_drew ?_ | refine blk_alloc ?_ _)); exact fa) hb); clear hb) | ((with_reducible refine gate_callee (f := 83) rfl ?_); have BK306 := (⟨fa⟩ : Fa (w50.heap[gb306]? = some (.cells #[.int .i64 0, .int .i64 0] 23 (0, 0)))); refine goesA (some 45) rfl rfl Tryz.func83 (by kernel_rfl) rfl #[.int .i64 t311, .int .i64 t312] rfl ?_; (with_reducible refine (fleuronref01_fixed.calls kj3 t311 t312 t313 false _ A18.out).mono ?_); rintro e w' ⟨rfl, ⟨nd, rfl⟩⟩; refine ⟨_, rfl, ?_⟩; (try (rw [drewN_self w50]; generalize hq_ : World.drewN w50 _ = w50; have n0_ : Fa (w50.heap[gb304]? = some (.cells #[.int .i64 a1_0, .int .i64 a1_1] 23 (0, 0))) := ⟨by rw [← hq_]; exact fa⟩; have n1_ : Fa (w50.heap[gb305]? = some (.cells #[.int .i64 a2_0, .int .i64 a2_1] 23 (0, 0))) := ⟨by rw [← hq_]; exact fa⟩; have n2_ : Fa (w50.heap[gb306]? = some (.cells #[.int .i64 0, .int .i64 0] 23 (0, 0))) := ⟨by rw [← hq_]; exact fa⟩; have n3_ : Fa (w50.heap[gb310]? = some (.cells #[.int .i64 t307, .int .i64 t308] 23 (0, 0))) := ⟨by rw [← hq_]; exact fa⟩; have n4_ : Fa (Below w.heap.size w w50) := ⟨by rw [← hq_]; exact fa⟩; clear BK304 BK305 BK306 BK310 HB hq_; have BK304 := n0_; have BK305 := n1_; have BK306 := n2_; have BK310 := n3_; have HB := n4_; clear n0_ n1_ n2_ n3_ n4_)); have hcz51_0 := jcell BK306.out (i := 0) rfl; have hcz51_1 := jcell BK306.out (i := 1) rfl; have hfz51_0 := blk_frozen BK306.out 0; have hfz51_1 := blk_frozen BK306.out 1))
      refine bodyPost_ret (results_ct rfl _ _ gb306 23 #[.int .i64 0, .int .i64 0] (0, 0) _ rfl (by (with_reducible repeat (first | refine blk_drewN ?_ _ | refine blk_drew ?_ | refine blk_alloc ?_ _)); refine blk_put (cs := #[.int .i64 0, .int .i64 0]) ?_ 1 _ rfl; (with_reducible repeat (first | refine blk_drewN ?_ _ | refine blk_drew ?_ | refine blk_alloc ?_ _)); refine blk_put (cs := #[.int .i64 0, .int .i64 0]) ?_ 0 _ rfl; (with_reducible repeat (first | refine blk_drewN ?_ _ | refine blk_drew ?_ | refine blk_alloc ?_ _)); exact fa) Tryz.underlying23 rfl (by kernel_rfl)) rfl ?_
      exact ⟨rfl, fa⟩
    ·
     rw [if_neg c16] at H
     have c16b0 : (t309 == 17) = false := beq_eq_false_iff_ne.mpr c16
     have c16b1 : (t309 != 17) = true := bne_iff_ne.mpr c16
     simp only [Option.some.injEq, Prod.mk.injEq] at H
     obtain ⟨rfl, rfl, rfl⟩ := H
     have hnb52 := NB304_305.out
     have hnc52 := NB305_304.out
     have hnb53 := NB304_306.out
     have hnc53 := NB306_304.out
     have hcz54_0 := jcell BK304.out (i := 0) rfl
     have hcz54_1 := jcell BK304.out (i := 1) rfl
     have hfz54_0 := blk_frozen BK304.out 0
     have hfz54_1 := blk_frozen BK304.out 1
     have hnb55 := NB305_306.out
     have hnc55 := NB306_305.out
     have hcz56_0 := jcell BK305.out (i := 0) rfl
     have hcz56_1 := jcell BK305.out (i := 1) rfl
     have hfz56_0 := blk_frozen BK305.out 0
     have hfz56_1 := blk_frozen BK305.out 1
     go_wp2_with (first | ((with_reducible refine gate_callee (f := 77) rfl ?_); refine goesA (some 31) rfl rfl Tryz.func77 (by kernel_rfl) rfl #[.string a0, .agg #[.int .i64 a1_0, .int .i64 a1_1], .agg #[.int .i64 a2_0, .int .i64 a2_1]] rfl ?_; (with_reducible refine (fleuronref01_result.calls kj3 a0 a1_0 a1_1 a2_0 a2_1 t307 t308 t309 _ A15.out).mono ?_); rintro e w57 ⟨rfl, hb⟩; refine ⟨_, rfl, ?_⟩; have hS := Stp.mk hb; clear hb) | ((with_reducible refine gate_dst (N := 8) rfl ?_); refine boxF (N := 8) (cs := #[.int .i64 0, .int .i64 0]) (t := 23) ?_; intro gb310 hg w58 hbox hb; have hS := Stp.mk hb; have BK306 := (⟨fa⟩ : Fa (w58.heap[gb306]? = some (.cells #[.int .i64 0, .int .i64 0] 23 (0, 0)))); have BK310 := Fa.mk (hbox); have GW310 := Fa.mk (gle hg : w.heap.size ≤ gb310); have GE310 := GW310; have NB304_310 := Fa.mk (gne (o := .cells #[.int .i64 a1_0, .int .i64 a1_1] 23 (0, 0)) hg : gb304 ≠ gb310); have NB310_304 := Fa.mk NB304_310.out.symm; have NB305_310 := Fa.mk (gne (o := .cells #[.int .i64 a2_0, .int .i64 a2_1] 23 (0, 0)) hg : gb305 ≠ gb310); have NB310_305 := Fa.mk NB305_310.out.symm; have NB306_310 := Fa.mk (gne (o := .cells #[.int .i64 0, .int .i64 0] 23 (0, 0)) hg : gb306 ≠ gb310); have NB310_306 := Fa.mk NB306_310.out.symm; clear hb hbox hg; have hnb59 := NB310_304.out; have hnc59 := NB304_310.out; have hnb60 := NB310_305.out; have hnc60 := NB305_310.out; have hnb61 := NB310_306.out; have hnc61 := NB306_310.out; have hcz62_0 := jcell BK310.out (i := 0) rfl; have hcz62_1 := jcell BK310.out (i := 1) rfl; have hfz62_0 := blk_frozen BK310.out 0; have hfz62_1 := blk_frozen BK310.out 1; have hcz63_0 := jcell BK306.out (i := 0) rfl; have hcz63_1 := jcell BK306.out (i := 1) rfl; have hfz63_0 := blk_frozen BK306.out 0; have hfz63_1 := blk_frozen BK306.out 1))
     refine bodyPost_ret (results_ct rfl _ _ gb306 23 #[.int .i64 t307, .int .i64 t308] (0, 0) _ rfl (by (with_reducible repeat (first | refine blk_drewN ?_ _ | refine blk_drew ?_ | refine blk_alloc ?_ _)); refine blk_put (cs := #[.int .i64 t307, .int .i64 0]) ?_ 1 _ rfl; (with_reducible repeat (first | refine blk_drewN ?_ _ | refine blk_drew ?_ | refine blk_alloc ?_ _)); refine blk_put (cs := #[.int .i64 0, .int .i64 0]) ?_ 0 _ rfl; (with_reducible repeat (first | refine blk_drewN ?_ _ | refine blk_drew ?_ | refine blk_alloc ?_ _)); refine blk_far ?_ NB306_310.out _; (with_reducible repeat (first | refine blk_drewN ?_ _ | refine blk_drew ?_ | refine blk_alloc ?_ _)); refine blk_far ?_ NB306_310.out _; (with_reducible repeat (first | refine blk_drewN ?_ _ | refine blk_drew ?_ | refine blk_alloc ?_ _)); exact fa) Tryz.underlying23 rfl (by kernel_rfl)) rfl ?_
     exact ⟨rfl, fa⟩
end Go.Proofs.YtilamkcpbibnmaaGreatDoor.P
