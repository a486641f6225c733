import Derived.Test.YtilamkcpbibnmaaGreatDoorZPx0
import Derived.Test.YtilamkcpbibnmaaGreatDoorZPxfleuronlaw08few
import Derived.Test.YtilamkcpbibnmaaGreatDoorZPxlinearrising
import Derived.Test.YtilamkcpbibnmaaGreatDoorZPxnumquotient
namespace Go.Proofs.YtilamkcpbibnmaaGreatDoor.P
open Go.RowKit Go.Proofs.YtilamkcpbibnmaaGreatDoorW.PrintWords Go.Proofs.YtilamkcpbibnmaaGreatDoorW.PrintLast Go.Proofs.YtilamkcpbibnmaaGreatDoorW.PrintMore
attribute [local go_sem] max2_int min2_int max_two min_two max_three min_three max_four min_four
set_option linter.unusedVariables false
set_option linter.unusedSimpArgs false
mutual
def rational_Near.j0 : Nat → Int → Int → Option (Int × Int × Int)
  | 0, _, _ => none
  | k + 1, x0, x1 => (rational_Floor.f x0 x1).bind fun bt140 => (if bt140.1 > 8589934592 then (rational_Near.j1 k x0 x1 true) else (rational_Near.j1 k x0 x1 (decide (bt140.1 < (-8589934592)))))
def rational_Near.j1 : Nat → Int → Int → Bool → Option (Int × Int × Int)
  | 0, _, _, _ => none
  | k + 1, x0, x1, x36 => if x36 = true then (some (0, 0, 17)) else ((rational_Round.f x0 x1).bind fun t142 => ((rational_Exact.f k t142 65536).bind fun bt143 => (some (bt143.1, bt143.2.1, bt143.2.2))))
end
def rational_Near.f (k : Nat) (a0 : Int) (a1 : Int) : Option (Int × Int × Int) := (rational_Exact.f k a0 a1).bind fun bt136 => (if bt136.2.2 = 0 then (some (bt136.1, bt136.2.1, 0)) else (if a1 < 0 then (rational_Near.j0 k (wrap64 (-a0)) (wrap64 (-a1))) else (rational_Near.j0 k a0 a1)))
theorem rational_Near.mono_l : ∀ k, (∀ y0 y1, LeO (rational_Near.j0 k y0 y1) (rational_Near.j0 (k + 1) y0 y1)) ∧ (∀ y0 y1 y2, LeO (rational_Near.j1 k y0 y1 y2) (rational_Near.j1 (k + 1) y0 y1 y2))
  | 0 => ⟨fun _ _ r h => by simp [rational_Near.j0] at h, fun _ _ _ r h => by simp [rational_Near.j1] at h⟩
  | k + 1 => by
    obtain ⟨ih0, ih1⟩ := rational_Near.mono_l k
    refine ⟨?_, ?_⟩
    all_goals intros
    all_goals first | unfold rational_Near.j0 | unfold rational_Near.j1
    all_goals repeat' first | (with_reducible exact ih0 _ _) | (with_reducible exact ih1 _ _ _) | (with_reducible exact rational_Exact.mono _ _ _) | (with_reducible exact LeO.refl _) | (with_reducible exact LeO.none _) | (with_reducible refine LeO.ite ?_ ?_) | (with_reducible refine LeO.bind ?_ (fun _ => ?_)) | exact ih0 _ _ | exact ih1 _ _ _ | exact rational_Exact.mono _ _ _ | exact LeO.none _ | refine LeO.ite ?_ ?_ | refine LeO.bind ?_ (fun _ => ?_)
theorem rational_Near.mono : ∀ a0 a1 k, LeO (rational_Near.f k a0 a1) (rational_Near.f (k + 1) a0 a1) := by
  intro a0 a1 k
  obtain ⟨ih0, ih1⟩ := rational_Near.mono_l k
  unfold rational_Near.f
  repeat' first
      | (with_reducible exact ih0 _ _)
      | (with_reducible exact ih1 _ _ _)
      | (with_reducible exact rational_Exact.mono _ _ _)
      | (with_reducible exact LeO.refl _)
      | (with_reducible exact LeO.none _)
      | (with_reducible refine LeO.ite ?_ ?_)
      | (with_reducible refine LeO.bind ?_ (fun _ => ?_))
      | exact ih0 _ _
      | exact ih1 _ _ _
      | exact rational_Exact.mono _ _ _
      | exact LeO.none _
      | refine LeO.ite ?_ ?_
      | refine LeO.bind ?_ (fun _ => ?_)
set_option maxHeartbeats 8000000 in
set_option maxRecDepth 100000 in
theorem rational_Near.calls (k : Nat) (a0 : Int) (a1 : Int) (r1 : Int) (r2 : Int) (r3 : Int) (w : World) (h : rational_Near.f k a0 a1 = some (r1, r2, r3)) :
  Calls Tryz.prog 105 #[.int .i64 a0, .int .i64 a1] w fun e w' => e = .returned (.tuple #[.agg #[.int .i64 r1, .int .i64 r2], .int .i64 r3]) ∧ Below w.heap.size w w' := by
 have hu23 := Tryz.underlying23
 have HB := Fa.mk (Below.refl w.heap.size w)
 have H : ((rational_Exact.f k a0 a1).bind fun bt136 => (if bt136.2.2 = 0 then (some (bt136.1, bt136.2.1, 0)) else (if a1 < 0 then (rational_Near.j0 k (wrap64 (-a0)) (wrap64 (-a1))) else (rational_Near.j0 k a0 a1)))) = some (r1, r2, r3) := h
 clear h
 replace H := Option.bind_eq_some_iff.mp H
 obtain ⟨⟨t136, t137, t138⟩, A30, H⟩ := H
 (try dsimp only at H)
 have A3 := Fa.mk A30
 clear A30
 by_cases c4 : t138 = 0
 ·
  rw [if_pos c4] at H
  have c4b0 : (t138 == 0) = true := beq_iff_eq.mpr c4
  have c4b1 : (t138 != 0) = false := bne_eq_false_iff_eq.mpr c4
  clear c4
  simp only [Option.some.injEq, Prod.mk.injEq] at H
  obtain ⟨rfl, rfl, rfl⟩ := H
  go_enter Tryz.func105, Tryz.ntmps105
  go_wp2_with (first | ((with_reducible refine gate_dst (N := 4) rfl ?_); refine boxF (N := 4) (cs := #[.int .i64 0, .int .i64 0]) (t := 23) ?_; intro gb135 hg w5 hbox hb; have hS := Stp.mk hb; have BK135 := Fa.mk (hbox); have GW135 := Fa.mk (gle hg : w.heap.size ≤ gb135); have GE135 := GW135; clear hb hbox hg) | ((with_reducible refine gate_callee (f := 79) rfl ?_); refine goesA (some 13) rfl rfl Tryz.func79 (by kernel_rfl) rfl #[.int .i64 a0, .int .i64 a1] rfl ?_; (with_reducible refine (rational_Exact.calls k a0 a1 t136 t137 t138 _ A3.out).mono ?_); rintro e w6 ⟨rfl, hb⟩; refine ⟨_, rfl, ?_⟩; have hS := Stp.mk hb; clear hb) | ((with_reducible refine gate_dst (N := 6) rfl ?_); refine boxF (N := 6) (cs := #[.int .i64 0, .int .i64 0]) (t := 23) ?_; intro gb139 hg w7 hbox hb; have hS := Stp.mk hb; have BK135 := (⟨fa⟩ : Fa (w7.heap[gb135]? = some (.cells #[.int .i64 0, .int .i64 0] 23 (0, 0)))); have BK139 := Fa.mk (hbox); have GW139 := Fa.mk (gle hg : w.heap.size ≤ gb139); have GE139 := GW139; have NB135_139 := Fa.mk (gne (o := .cells #[.int .i64 0, .int .i64 0] 23 (0, 0)) hg : gb135 ≠ gb139); have NB139_135 := Fa.mk NB135_139.out.symm; clear hb hbox hg; have hnb8 := NB139_135.out; have hnc8 := NB135_139.out; have hcz9_0 := jcell BK139.out (i := 0) rfl; have hcz9_1 := jcell BK139.out (i := 1) rfl; have hfz9_0 := blk_frozen BK139.out 0; have hfz9_1 := blk_frozen BK139.out 1; have hcz10_0 := jcell BK135.out (i := 0) rfl; have hcz10_1 := jcell BK135.out (i := 1) rfl; have hfz10_0 := blk_frozen BK135.out 0; have hfz10_1 := blk_frozen BK135.out 1))
  refine bodyPost_ret (results_ct rfl _ _ gb135 23 #[.int .i64 t136, .int .i64 t137] (0, 0) _ rfl (by (with_reducible repeat (first | refine blk_drewN ?_ _ | refine blk_drew ?_ | refine blk_alloc ?_ _)); refine blk_put (cs := #[.int .i64 t136, .int .i64 0]) ?_ 1 _ rfl; (with_reducible repeat (first | refine blk_drewN ?_ _ | refine blk_drew ?_ | refine blk_alloc ?_ _)); refine blk_put (cs := #[.int .i64 0, .int .i64 0]) ?_ 0 _ rfl; (with_reducible repeat (first | refine blk_drewN ?_ _ | refine blk_drew ?_ | refine blk_alloc ?_ _)); refine blk_far ?_ NB135_139.out _; (with_reducible repeat (first | refine blk_drewN ?_ _ | refine blk_drew ?_ | refine blk_alloc ?_ _)); refine blk_far ?_ NB135_139.out _; (with_reducible repeat (first | refine blk_drewN ?_ _ | refine blk_drew ?_ | refine blk_alloc ?_ _)); exact fa) Tryz.underlying23 rfl (by kernel_rfl)) rfl ?_
  exact ⟨rfl, fa⟩
 ·
  rw [if_neg c4] at H
  have c4b0 : (t138 == 0) = false := beq_eq_false_iff_ne.mpr c4
  have c4b1 : (t138 != 0) = true := bne_iff_ne.mpr c4
  have HC11 := Fa.mk H
  clear H
  go_enter Tryz.func105, Tryz.ntmps105
  go_upto_if 20 with (first | ((with_reducible refine gate_dst (N := 4) rfl ?_); refine boxF (N := 4) (cs := #[.int .i64 0, .int .i64 0]) (t := 23) ?_; intro gb135 hg w12 hbox hb; have n0_ := Fa.mk (bst w hb); have n1_ := Fa.mk (hbox); have n2_ := Fa.mk (gle hg : w.heap.size ≤ gb135); have n3_ := n2_; clear HB; have HB := n0_; have BK135 := n1_; have GW135 := n2_; have GE135 := n3_; clear n0_ n1_ n2_ n3_; clear hb hbox hg) | ((with_reducible refine gate_callee (f := 79) rfl ?_); refine goesA (some 13) rfl rfl Tryz.func79 (by kernel_rfl) rfl #[.int .i64 a0, .int .i64 a1] rfl ?_; (with_reducible refine (rational_Exact.calls k a0 a1 t136 t137 t138 _ A3.out).mono ?_); rintro e w13 ⟨rfl, hb⟩; refine ⟨_, rfl, ?_⟩; have n0_ := Fa.mk (blk_below (g := gb135) (o := .cells #[.int .i64 0, .int .i64 0] 23 (0, 0)) fa hb); have n1_ := Fa.mk (bst w hb); clear BK135; clear HB; have BK135 := n0_; have HB := n1_; clear n0_ n1_; (try clear hb); (try clear hb2); (try clear hk); (try clear hi)) | ((with_reducible refine gate_dst (N := 6) rfl ?_); refine boxF (N := 6) (cs := #[.int .i64 0, .int .i64 0]) (t := 23) ?_; intro gb139 hg w14 hbox hb; have n0_ := Fa.mk (blk_below (g := gb135) (o := .cells #[.int .i64 0, .int .i64 0] 23 (0, 0)) fa hb); have n1_ := Fa.mk (bst w hb); have n2_ := Fa.mk (hbox); have n3_ := Fa.mk (gle hg : w.heap.size ≤ gb139); have n4_ := n3_; have n5_ := Fa.mk (gne (o := .cells #[.int .i64 0, .int .i64 0] 23 (0, 0)) hg : gb135 ≠ gb139); have n6_ := Fa.mk n5_.out.symm; clear BK135; clear HB; have BK135 := n0_; have HB := n1_; have BK139 := n2_; have GW139 := n3_; have GE139 := n4_; have NB135_139 := n5_; have NB139_135 := n6_; clear n0_ n1_ n2_ n3_ n4_ n5_ n6_; clear hb hbox hg; have hnb15 := NB139_135.out; have hnc15 := NB135_139.out; have hcz16_0 := jcell BK139.out (i := 0) rfl; have hcz16_1 := jcell BK139.out (i := 1) rfl; have hfz16_0 := blk_frozen BK139.out 0; have hfz16_1 := blk_frozen BK139.out 1))
  (try simp only [Act.put, List.setIfInBounds_toArray, List.set_cons_zero, List.set_cons_succ])
  go_cut [0, 1] (fun v0 v1 wc => ∃ (kq : Nat) (x0_10 : Int) (x1_10 : Int), v0 = .int .i64 x0_10 ∧ v1 = .int .i64 x1_10 ∧ Fa (rational_Near.j0 kq x0_10 x1_10 = some (r1, r2, r3)) ∧ Fa (kq ≤ k) ∧ Fa (wc.heap[gb135]? = some (.cells #[.int .i64 0, .int .i64 0] 23 (0, 0))) ∧ Fa (wc.heap[gb139]? = some (.cells #[.int .i64 t136, .int .i64 t137] 23 (0, 0))) ∧ Fa (Below w.heap.size w wc))
  case first =>
   have H := HC11.out
   clear HC11
   by_cases c17 : a1 < 0
   ·
    rw [if_pos c17] at H
    have c17b0 : decide (a1 < 0) = true := decide_eq_true c17
    clear c17
    (first | rw [c17b0] | (simp only [i64_w, i32_w]; rw [c17b0]) | skip)
    have H' := Fa.mk H
    clear H
    go_wp2
    go_meet
    case rel => exact ⟨_, (wrap64 (-a0)), (wrap64 (-a1)), (by first | rfl | (simp; done) | (simp [*]; done)), (by first | rfl | (simp; done) | (simp [*]; done)), H', ⟨by first | omega | exact Nat.le_refl _⟩, ⟨by (with_reducible repeat (first | refine blk_drewN ?_ _ | refine blk_drew ?_ | refine blk_alloc ?_ _)); refine blk_far ?_ NB135_139.out _; (with_reducible repeat (first | refine blk_drewN ?_ _ | refine blk_drew ?_ | refine blk_alloc ?_ _)); refine blk_far ?_ NB135_139.out _; (with_reducible repeat (first | refine blk_drewN ?_ _ | refine blk_drew ?_ | refine blk_alloc ?_ _)); exact fa⟩, ⟨by (with_reducible repeat (first | refine blk_drewN ?_ _ | refine blk_drew ?_ | refine blk_alloc ?_ _)); refine blk_put (cs := #[.int .i64 t136, .int .i64 0]) ?_ 1 _ rfl; (with_reducible repeat (first | refine blk_drewN ?_ _ | refine blk_drew ?_ | refine blk_alloc ?_ _)); refine blk_put (cs := #[.int .i64 0, .int .i64 0]) ?_ 0 _ rfl; (with_reducible repeat (first | refine blk_drewN ?_ _ | refine blk_drew ?_ | refine blk_alloc ?_ _)); exact fa⟩, ⟨fa⟩⟩
   ·
    rw [if_neg c17] at H
    have c17b0 : decide (a1 < 0) = false := decide_eq_false c17
    clear c17
    (first | rw [c17b0] | (simp only [i64_w, i32_w]; rw [c17b0]) | skip)
    have H' := Fa.mk H
    clear H
    go_wp2
    go_meet
    case rel => exact ⟨_, (a0), (a1), (by first | rfl | (simp; done) | (simp [*]; done)), (by first | rfl | (simp; done) | (simp [*]; done)), H', ⟨by first | omega | exact Nat.le_refl _⟩, ⟨by (with_reducible repeat (first | refine blk_drewN ?_ _ | refine blk_drew ?_ | refine blk_alloc ?_ _)); refine blk_far ?_ NB135_139.out _; (with_reducible repeat (first | refine blk_drewN ?_ _ | refine blk_drew ?_ | refine blk_alloc ?_ _)); refine blk_far ?_ NB135_139.out _; (with_reducible repeat (first | refine blk_drewN ?_ _ | refine blk_drew ?_ | refine blk_alloc ?_ _)); exact fa⟩, ⟨by (with_reducible repeat (first | refine blk_drewN ?_ _ | refine blk_drew ?_ | refine blk_alloc ?_ _)); refine blk_put (cs := #[.int .i64 t136, .int .i64 0]) ?_ 1 _ rfl; (with_reducible repeat (first | refine blk_drewN ?_ _ | refine blk_drew ?_ | refine blk_alloc ?_ _)); refine blk_put (cs := #[.int .i64 0, .int .i64 0]) ?_ 0 _ rfl; (with_reducible repeat (first | refine blk_drewN ?_ _ | refine blk_drew ?_ | refine blk_alloc ?_ _)); exact fa⟩, ⟨fa⟩⟩
  case rest =>
   clear HC11
   (try clear c1);(try clear p2);(try clear c4);(try clear c4b0);(try clear c4b1);(try clear p6);(try clear c7);(try clear c8);(try clear c10);(try clear c15);(try clear c17);(try clear c17b0);(try clear hcz10_0);(try clear hcz10_1);(try clear hcz16_0);(try clear hcz16_1);(try clear hcz9_0);(try clear hcz9_1);(try clear hfz10_0);(try clear hfz10_1);(try clear hfz16_0);(try clear hfz16_1);(try clear hfz9_0);(try clear hfz9_1)
   obtain ⟨kq, x0_10, x1_10, rfl, rfl, HA, HJ10, BK135, BK139, HB⟩ := hcut
   cases kq with
   | zero => exact absurd HA.out (by simp [rational_Near.j0])
   | succ kj10 =>
    have H := HA.out
    clear HA
    simp only [rational_Near.j0] at H
    replace H := Option.bind_eq_some_iff.mp H
    obtain ⟨⟨t140, t141⟩, A180, H⟩ := H
    (try dsimp only at H)
    have A18 := Fa.mk A180
    clear A180
    have HC19 := Fa.mk H
    clear H
    go_upto_region 7 with (first | ((with_reducible refine gate_callee (f := 117) rfl ?_); refine goesA (some 28) rfl rfl Tryz.func117 (by kernel_rfl) rfl #[.int .i64 x0_10, .int .i64 x1_10] rfl ?_; (with_reducible refine (rational_Floor.calls x0_10 x1_10 t140 t141 _ A18.out).mono ?_); rintro e w' ⟨rfl, ⟨nd, rfl⟩⟩; refine ⟨_, rfl, ?_⟩))
    (try simp only [Act.put, List.setIfInBounds_toArray, List.set_cons_zero, List.set_cons_succ])
    go_cut [36] (fun v36 wc => ∃ (kq : Nat) (x36_18 : Bool), v36 = .bool x36_18 ∧ Fa (rational_Near.j1 kq x0_10 x1_10 x36_18 = some (r1, r2, r3)) ∧ Fa (kq ≤ kj10) ∧ Fa (wc.heap[gb135]? = some (.cells #[.int .i64 0, .int .i64 0] 23 (0, 0))) ∧ Fa (wc.heap[gb139]? = some (.cells #[.int .i64 t136, .int .i64 t137] 23 (0, 0))) ∧ Fa (Below w.heap.size w wc))
    case first =>
     have H := HC19.out
     clear HC19
     by_cases c20 : t140 > 8589934592
     ·
      rw [if_pos c20] at H
      have c20b0 : decide (8589934592 < t140) = true := decide_eq_true c20
      clear c20
      (first | rw [c20b0] | (simp only [i64_w, i32_w]; rw [c20b0]) | skip)
      have H' := Fa.mk H
      clear H
      go_wp2
      go_meet
      case rel => exact ⟨_, (true), (by first | rfl | (simp; done) | (simp [*]; done)), H', ⟨by have := HJ10.out; first | omega | exact Nat.le_refl _⟩, ⟨fa⟩, ⟨fa⟩, ⟨fa⟩⟩
     ·
      rw [if_neg c20] at H
      have c20b0 : decide (8589934592 < t140) = false := decide_eq_false c20
      clear c20
      (first | rw [c20b0] | (simp only [i64_w, i32_w]; rw [c20b0]) | skip)
      have H' := Fa.mk H
      clear H
      go_wp2
      go_meet
      case rel => exact ⟨_, (decide (t140 < (-8589934592))), (by first | rfl | (simp; done) | (simp [*]; done)), H', ⟨by have := HJ10.out; first | omega | exact Nat.le_refl _⟩, ⟨fa⟩, ⟨fa⟩, ⟨fa⟩⟩
    case rest =>
     clear HC19
     (try clear c1);(try clear c2);(try clear p2);(try clear c4);(try clear c4b0);(try clear c4b1);(try clear p6);(try clear c7);(try clear c8);(try clear c10);(try clear c11);(try clear c15);(try clear c17);(try clear c17b0);(try clear c20);(try clear c20b0);(try clear hcz10_0);(try clear hcz10_1);(try clear hcz16_0);(try clear hcz16_1);(try clear hcz9_0);(try clear hcz9_1);(try clear hfz10_0);(try clear hfz10_1);(try clear hfz16_0);(try clear hfz16_1);(try clear hfz9_0);(try clear hfz9_1);(try clear p2);(try clear p6)
     obtain ⟨kq, x36_18, rfl, HA, HJ18, BK135, BK139, HB⟩ := hcut
     cases kq with
     | zero => exact absurd HA.out (by simp [rational_Near.j1])
     | succ kj18 =>
      have H := HA.out
      clear HA
      simp only [rational_Near.j1] at H
      by_cases c21 : x36_18 = true
      ·
       subst c21
       rw [if_pos rfl] at H
       simp only [Option.some.injEq, Prod.mk.injEq] at H
       obtain ⟨rfl, rfl, rfl⟩ := H
       have hnb22 := NB135_139.out
       have hnc22 := NB139_135.out
       have hcz23_0 := jcell BK135.out (i := 0) rfl
       have hcz23_1 := jcell BK135.out (i := 1) rfl
       have hfz23_0 := blk_frozen BK135.out 0
       have hfz23_1 := blk_frozen BK135.out 1
       go_wp2
       refine bodyPost_ret (results_ct rfl _ _ gb135 23 #[.int .i64 0, .int .i64 0] (0, 0) _ rfl (by (with_reducible repeat (first | refine blk_drewN ?_ _ | refine blk_drew ?_ | refine blk_alloc ?_ _)); refine blk_put (cs := #[.int .i64 0, .int .i64 0]) ?_ 1 _ rfl; (with_reducible repeat (first | refine blk_drewN ?_ _ | refine blk_drew ?_ | refine blk_alloc ?_ _)); refine blk_put (cs := #[.int .i64 0, .int .i64 0]) ?_ 0 _ rfl; (with_reducible repeat (first | refine blk_drewN ?_ _ | refine blk_drew ?_ | refine blk_alloc ?_ _)); exact fa) Tryz.underlying23 rfl (by kernel_rfl)) rfl ?_
       exact ⟨rfl, fa⟩
      ·
       replace c21 := Bool.eq_false_iff.mpr c21
       subst c21
       rw [if_neg (show ¬ (false = true) by decide)] at H
       replace H := Option.bind_eq_some_iff.mp H
       obtain ⟨t142, A240, H⟩ := H
       (try dsimp only at H)
       have A24 := Fa.mk A240
       clear A240
       replace H := Option.bind_eq_some_iff.mp H
       obtain ⟨⟨t143, t144, t145⟩, A250, H⟩ := H
       (try dsimp only at H)
       have A25 := Fa.mk A250
       clear A250
       simp only [Option.some.injEq, Prod.mk.injEq] at H
       obtain ⟨rfl, rfl, rfl⟩ := H
       go_wp2_with (first | ((with_reducible refine gate_callee (f := 118) rfl ?_); refine goesA (some 40) rfl rfl Tryz.func118 (by kernel_rfl) rfl #[.int .i64 x0_10, .int .i64 x1_10] rfl ?_; (with_reducible refine (rational_Round.calls x0_10 x1_10 t142 _ A24.out).mono ?_); rintro e w' ⟨rfl, ⟨nd, rfl⟩⟩; refine ⟨_, rfl, ?_⟩; (try (rw [drewN_self wc]; generalize hq_ : World.drewN wc _ = wc; have n0_ : Fa (wc.heap[gb135]? = some (.cells #[.int .i64 0, .int .i64 0] 23 (0, 0))) := ⟨by rw [← hq_]; exact fa⟩; have n1_ : Fa (wc.heap[gb139]? = some (.cells #[.int .i64 t136, .int .i64 t137] 23 (0, 0))) := ⟨by rw [← hq_]; exact fa⟩; have n2_ : Fa (Below w.heap.size w wc) := ⟨by rw [← hq_]; exact fa⟩; clear BK135 BK139 HB hq_; have BK135 := n0_; have BK139 := n1_; have HB := n2_; clear n0_ n1_ n2_))) | ((with_reducible refine gate_callee (f := 79) rfl ?_); refine goesA (some 41) rfl rfl Tryz.func79 (by kernel_rfl) rfl #[.int .i64 t142, .int .i64 65536] rfl ?_; (with_reducible refine (rational_Exact.calls kj18 t142 65536 t143 t144 t145 _ A25.out).mono ?_); rintro e w26 ⟨rfl, hb⟩; refine ⟨_, rfl, ?_⟩; have hS := Stp.mk hb; have BK135 := (⟨fa⟩ : Fa (w26.heap[gb135]? = some (.cells #[.int .i64 0, .int .i64 0] 23 (0, 0)))); clear hb; have hnb27 := NB135_139.out; have hnc27 := NB139_135.out; have hcz28_0 := jcell BK135.out (i := 0) rfl; have hcz28_1 := jcell BK135.out (i := 1) rfl; have hfz28_0 := blk_frozen BK135.out 0; have hfz28_1 := blk_frozen BK135.out 1))
       refine bodyPost_ret (results_ct rfl _ _ gb135 23 #[.int .i64 t143, .int .i64 t144] (0, 0) _ rfl (by (with_reducible repeat (first | refine blk_drewN ?_ _ | refine blk_drew ?_ | refine blk_alloc ?_ _)); refine blk_put (cs := #[.int .i64 t143, .int .i64 0]) ?_ 1 _ rfl; (with_reducible repeat (first | refine blk_drewN ?_ _ | refine blk_drew ?_ | refine blk_alloc ?_ _)); refine blk_put (cs := #[.int .i64 0, .int .i64 0]) ?_ 0 _ rfl; (with_reducible repeat (first | refine blk_drewN ?_ _ | refine blk_drew ?_ | refine blk_alloc ?_ _)); exact fa) Tryz.underlying23 rfl (by kernel_rfl)) rfl ?_
       exact ⟨rfl, fa⟩
def num_do.f (k : Nat) (a0 : ByteArray) (a1_0 : Int) (a1_1 : Int) (a2_0 : Int) (a2_1 : Int) (a3 : Bool) : Option (Int × Int × Int) := (num_valid.f k (([(⟨a1_0, a1_1⟩ : S23), (⟨a2_0, a2_1⟩ : S23)] : List (S23)))).bind fun t152 => (if t152 = true then ((num_quotient.f a0 a1_0 a1_1 a2_0 a2_1).bind fun bt153 => (if bt153.2.2 = true then (if bt153.2.1 = 0 then (some (0, 0, 18)) else (if a3 = true then ((rational_Near.f k bt153.1 bt153.2.1).bind fun bt156 => (some (bt156.1, bt156.2.1, bt156.2.2))) else ((rational_Exact.f k bt153.1 bt153.2.1).bind fun bt159 => (some (bt159.1, bt159.2.1, bt159.2.2))))) else (some (0, 0, 2)))) else (some (0, 0, 2)))
theorem num_do.mono : ∀ a0 a1 a2 a3 a4 a5 k, LeO (num_do.f k a0 a1 a2 a3 a4 a5) (num_do.f (k + 1) a0 a1 a2 a3 a4 a5) := by
  intro a0 a1 a2 a3 a4 a5 k
  unfold num_do.f
  repeat' first
      | (with_reducible exact num_valid.mono _ _)
      | (with_reducible exact rational_Exact.mono _ _ _)
      | (with_reducible exact rational_Near.mono _ _ _)
      | (with_reducible exact LeO.refl _)
      | (with_reducible exact LeO.none _)
      | (with_reducible refine LeO.ite ?_ ?_)
      | (with_reducible refine LeO.bind ?_ (fun _ => ?_))
      | exact num_valid.mono _ _
      | exact rational_Exact.mono _ _ _
      | exact rational_Near.mono _ _ _
      | exact LeO.none _
      | refine LeO.ite ?_ ?_
      | refine LeO.bind ?_ (fun _ => ?_)
set_option maxHeartbeats 8000000 in
set_option maxRecDepth 100000 in
theorem num_do.calls (k : Nat) (a0 : ByteArray) (a1_0 : Int) (a1_1 : Int) (a2_0 : Int) (a2_1 : Int) (a3 : Bool) (r1 : Int) (r2 : Int) (r3 : Int) (w : World) (h : num_do.f k a0 a1_0 a1_1 a2_0 a2_1 a3 = some (r1, r2, r3)) :
  Calls Tryz.prog 82 #[.string a0, .agg #[.int .i64 a1_0, .int .i64 a1_1], .agg #[.int .i64 a2_0, .int .i64 a2_1], .bool a3] w fun e w' => e = .returned (.tuple #[.agg #[.int .i64 r1, .int .i64 r2], .int .i64 r3]) ∧ Below w.heap.size w w' := by
 have hu23 := Tryz.underlying23
 have HB := Fa.mk (Below.refl w.heap.size w)
 have H : ((num_valid.f k (([(⟨a1_0, a1_1⟩ : S23), (⟨a2_0, a2_1⟩ : S23)] : List (S23)))).bind fun t152 => (if t152 = true then ((num_quotient.f a0 a1_0 a1_1 a2_0 a2_1).bind fun bt153 => (if bt153.2.2 = true then (if bt153.2.1 = 0 then (some (0, 0, 18)) else (if a3 = true then ((rational_Near.f k bt153.1 bt153.2.1).bind fun bt156 => (some (bt156.1, bt156.2.1, bt156.2.2))) else ((rational_Exact.f k bt153.1 bt153.2.1).bind fun bt159 => (some (bt159.1, bt159.2.1, bt159.2.2))))) else (some (0, 0, 2)))) else (some (0, 0, 2)))) = some (r1, r2, r3) := h
 clear h
 obtain ⟨y149, hy149⟩ : ∃ y_ : List (S23), y_ = (([(⟨a1_0, a1_1⟩ : S23), (⟨a2_0, a2_1⟩ : S23)] : List (S23))) := ⟨_, rfl⟩
 replace H : ((num_valid.f k y149).bind fun t152 => (if t152 = true then ((num_quotient.f a0 a1_0 a1_1 a2_0 a2_1).bind fun bt153 => (if bt153.2.2 = true then (if bt153.2.1 = 0 then (some (0, 0, 18)) else (if a3 = true then ((rational_Near.f k bt153.1 bt153.2.1).bind fun bt156 => (some (bt156.1, bt156.2.1, bt156.2.2))) else ((rational_Exact.f k bt153.1 bt153.2.1).bind fun bt159 => (some (bt159.1, bt159.2.1, bt159.2.2))))) else (some (0, 0, 2)))) else (some (0, 0, 2)))) = some (r1, r2, r3) := by first | (rw [hy149]; with_reducible exact H) | (have H2_ := (Option.bind_some _ _).symm.trans H; rw [hy149]; with_reducible exact H2_) | (have H2_ := (Option.bind_some _ _).symm.trans H; with_reducible exact H2_) | with_reducible exact H | (rw [hy149]; exact H) | exact H
 have Ny149 := Fa.mk hy149
 clear hy149
 replace H := Option.bind_eq_some_iff.mp H
 obtain ⟨t152, A50, H⟩ := H
 (try dsimp only at H)
 have A5 := Fa.mk A50
 clear A50
 by_cases c6 : t152 = true
 ·
  subst c6
  rw [if_pos rfl] at H
  replace H := Option.bind_eq_some_iff.mp H
  obtain ⟨⟨t153, t154, t155⟩, A70, H⟩ := H
  (try dsimp only at H)
  have A7 := Fa.mk A70
  clear A70
  by_cases c8 : t155 = true
  ·
   subst c8
   rw [if_pos rfl] at H
   by_cases c9 : t154 = 0
   ·
    rw [if_pos c9] at H
    have c9b0 : (t154 == 0) = true := beq_iff_eq.mpr c9
    have c9b1 : (t154 != 0) = false := bne_eq_false_iff_eq.mpr c9
    clear c9
    simp only [Option.some.injEq, Prod.mk.injEq] at H
    obtain ⟨rfl, rfl, rfl⟩ := H
    go_enter Tryz.func82, Tryz.ntmps82
    go_wp2_with (first | ((with_reducible refine gate_dst (N := 5) rfl ?_); refine boxF (N := 5) (cs := #[.int .i64 a1_0, .int .i64 a1_1]) (t := 23) ?_; intro gb146 hg w10 hbox hb; have hS := Stp.mk hb; have BK146 := Fa.mk (hbox); have GW146 := Fa.mk (gle hg : w.heap.size ≤ gb146); have GE146 := GW146; clear hb hbox hg) | ((with_reducible refine gate_dst (N := 6) rfl ?_); refine boxF (N := 6) (cs := #[.int .i64 a2_0, .int .i64 a2_1]) (t := 23) ?_; intro gb147 hg w11 hbox hb; have hS := Stp.mk hb; have BK147 := Fa.mk (hbox); have GW147 := Fa.mk (gle hg : w.heap.size ≤ gb147); have GE147 := GW147; have NB146_147 := Fa.mk (gne (o := .cells #[.int .i64 a1_0, .int .i64 a1_1] 23 (0, 0)) hg : gb146 ≠ gb147); have NB147_146 := Fa.mk NB146_147.out.symm; clear hb hbox hg) | ((with_reducible refine gate_dst (N := 8) rfl ?_); refine boxF (N := 8) (cs := #[.int .i64 0, .int .i64 0]) (t := 23) ?_; intro gb148 hg w12 hbox hb; have hS := Stp.mk hb; have BK146 := (⟨fa⟩ : Fa (w12.heap[gb146]? = some (.cells #[.int .i64 a1_0, .int .i64 a1_1] 23 (0, 0)))); have BK147 := (⟨fa⟩ : Fa (w12.heap[gb147]? = some (.cells #[.int .i64 a2_0, .int .i64 a2_1] 23 (0, 0)))); have BK148 := Fa.mk (hbox); have GW148 := Fa.mk (gle hg : w.heap.size ≤ gb148); have GE148 := GW148; have NB146_148 := Fa.mk (gne (o := .cells #[.int .i64 a1_0, .int .i64 a1_1] 23 (0, 0)) hg : gb146 ≠ gb148); have NB148_146 := Fa.mk NB146_148.out.symm; have NB147_148 := Fa.mk (gne (o := .cells #[.int .i64 a2_0, .int .i64 a2_1] 23 (0, 0)) hg : gb147 ≠ gb148); have NB148_147 := Fa.mk NB147_148.out.symm; clear hb hbox hg; have hnb13 := NB146_147.out; have hnc13 := NB147_146.out; have hnb14 := NB146_148.out; have hnc14 := NB148_146.out; have hcz15_0 := jcell BK146.out (i := 0) rfl; have hcz15_1 := jcell BK146.out (i := 1) rfl; have hfz15_0 := blk_frozen BK146.out 0; have hfz15_1 := blk_frozen BK146.out 1; have hnb16 := NB147_148.out; have hnc16 := NB148_147.out; have hcz17_0 := jcell BK147.out (i := 0) rfl; have hcz17_1 := jcell BK147.out (i := 1) rfl; have hfz17_0 := blk_frozen BK147.out 0; have hfz17_1 := blk_frozen BK147.out 1) | ((with_reducible refine gate_dst (N := 15) rfl ?_); refine Kd.R_lit k23 _ 23 ?hg (N := 15) ?hd (xs := ([(⟨a1_0, a1_1⟩ : S23), (⟨a2_0, a2_1⟩ : S23)] : List (S23))) (inner := [.int .i64 a1_0, .int .i64 a1_1, .int .i64 a2_0, .int .i64 a2_1]) (ok := fun _ => True) (okp := fun _ => True) ?hr ?hp (fun _ hk => hk) trivial (Below.refl _ _) (Nat.le_refl _) (by simp) ?_; (case hd => rfl); (case hg => rfl); (case hr => first | (go_simp; done) | (go_simp; rfl)); (case hp => exact (Reps.c2 (show Kd.M k23 _ _ _ (⟨a1_0, a1_1⟩ : S23) [.int .i64 a1_0, .int .i64 a1_1] from (k23_mkM _ _ _ (⟨a1_0, a1_1⟩ : S23) )) (Reps.c2 (show Kd.M k23 _ _ _ (⟨a2_0, a2_1⟩ : S23) [.int .i64 a2_0, .int .i64 a2_1] from (k23_mkM _ _ _ (⟨a2_0, a2_1⟩ : S23) )) (Reps.none _ _)))); intro v150 w18 ho19 hb hg_ hnew_; clear hg_ hnew_; (first | rw [← Ny149.out] at ho19 | (simp only [Int.reduceToNat] at ho19; rw [← Ny149.out] at ho19)); have n0_ := Fa.mk (Kd.R_lower (Kd.R_newB (Kd.R_newB (Kd.R_newB ho19 (g := gb146) (o := .cells #[.int .i64 a1_0, .int .i64 a1_1] 23 (0, 0)) fa) (g := gb147) (o := .cells #[.int .i64 a2_0, .int .i64 a2_1] 23 (0, 0)) fa) (g := gb148) (o := .cells #[.int .i64 0, .int .i64 0] 23 (0, 0)) fa) (bsz w)); have n1_ := Fa.mk (blk_below (g := gb146) (o := .cells #[.int .i64 a1_0, .int .i64 a1_1] 23 (0, 0)) fa hb); have n2_ := Fa.mk (blk_below (g := gb147) (o := .cells #[.int .i64 a2_0, .int .i64 a2_1] 23 (0, 0)) fa hb); have n3_ := Fa.mk (blk_below (g := gb148) (o := .cells #[.int .i64 0, .int .i64 0] 23 (0, 0)) fa hb); have n4_ := Fa.mk (bst w hb); clear BK146; clear BK147; clear BK148; clear HB; have HO151 := n0_; have BK146 := n1_; have BK147 := n2_; have BK148 := n3_; have HB := n4_; clear n0_ n1_ n2_ n3_ n4_; clear hb ho19; obtain ⟨Ao20, co20, eo20⟩ := Kd.R_slice HO151.out; subst eo20) | ((with_reducible refine gate_callee (f := 103) rfl ?_); refine goesA (some 16) rfl rfl Tryz.func103 (by kernel_rfl) rfl #[.slice Ao20 y149.length co20] rfl ?_; (with_reducible refine (num_valid.calls k _ _ y149 true _ ?side1 ?side2 A5.out).mono ?_); (case side1 => repeat (first | exact (Kd.R_reads' HO151.out).2.2 | (with_reducible refine Kd.C_alloc ?_ _) | (with_reducible refine Kd.C_drewN ?_ _) | (with_reducible refine Kd.C_drew ?_))); (case side2 => exact (Kd.R_reads' HO151.out).2.1); rintro e w21 ⟨rfl, hb⟩; refine ⟨_, rfl, ?_⟩; have hS := Stp.mk hb; have HO151 := Fa.mk (Kd.R_below (by (with_reducible repeat (first | apply Kd.R_alloc | apply Kd.R_drewN | apply Kd.R_drew)); exact HO151.out) hb); have BK146 := (⟨fa⟩ : Fa (w21.heap[gb146]? = some (.cells #[.int .i64 a1_0, .int .i64 a1_1] 23 (0, 0)))); have BK147 := (⟨fa⟩ : Fa (w21.heap[gb147]? = some (.cells #[.int .i64 a2_0, .int .i64 a2_1] 23 (0, 0)))); clear hb; have hcz22_0 := jcell BK146.out (i := 0) rfl; have hcz22_1 := jcell BK146.out (i := 1) rfl; have hfz22_0 := blk_frozen BK146.out 0; have hfz22_1 := blk_frozen BK146.out 1; have hcz23_0 := jcell BK147.out (i := 0) rfl; have hcz23_1 := jcell BK147.out (i := 1) rfl; have hfz23_0 := blk_frozen BK147.out 0; have hfz23_1 := blk_frozen BK147.out 1) | ((with_reducible refine gate_callee (f := 104) rfl ?_); refine goesA (some 23) rfl rfl Tryz.func104 (by kernel_rfl) rfl #[.string a0, .agg #[.int .i64 a1_0, .int .i64 a1_1], .agg #[.int .i64 a2_0, .int .i64 a2_1]] rfl ?_; (with_reducible refine (num_quotient.calls a0 a1_0 a1_1 a2_0 a2_1 t153 t154 true _ A7.out).mono ?_); rintro e w24 ⟨rfl, hb⟩; refine ⟨_, rfl, ?_⟩; have hS := Stp.mk hb; have HO151 := Fa.mk (Kd.R_below (by (with_reducible repeat (first | apply Kd.R_alloc | apply Kd.R_drewN | apply Kd.R_drew)); exact HO151.out) hb); have BK148 := (⟨fa⟩ : Fa (w24.heap[gb148]? = some (.cells #[.int .i64 0, .int .i64 0] 23 (0, 0)))); clear hb; have hcz25_0 := jcell BK148.out (i := 0) rfl; have hcz25_1 := jcell BK148.out (i := 1) rfl; have hfz25_0 := blk_frozen BK148.out 0; have hfz25_1 := blk_frozen BK148.out 1))
    refine bodyPost_ret (results_ct rfl _ _ gb148 23 #[.int .i64 0, .int .i64 0] (0, 0) _ rfl (by (with_reducible repeat (first | refine blk_drewN ?_ _ | refine blk_drew ?_ | refine blk_alloc ?_ _)); refine blk_put (cs := #[.int .i64 0, .int .i64 0]) ?_ 1 _ rfl; (with_reducible repeat (first | refine blk_drewN ?_ _ | refine blk_drew ?_ | refine blk_alloc ?_ _)); refine blk_put (cs := #[.int .i64 0, .int .i64 0]) ?_ 0 _ rfl; (with_reducible repeat (first | refine blk_drewN ?_ _ | refine blk_drew ?_ | refine blk_alloc ?_ _)); exact fa) Tryz.underlying23 rfl (by kernel_rfl)) rfl ?_
    exact ⟨rfl, fa⟩
   ·
    rw [if_neg c9] at H
    have c9b0 : (t154 == 0) = false := beq_eq_false_iff_ne.mpr c9
    have c9b1 : (t154 != 0) = true := bne_iff_ne.mpr c9
    by_cases c26 : a3 = true
    ·
     subst c26
     rw [if_pos rfl] at H
     replace H := Option.bind_eq_some_iff.mp H
     obtain ⟨⟨t156, t157, t158⟩, A270, H⟩ := H
     (try dsimp only at H)
     have A27 := Fa.mk A270
     clear A270
     simp only [Option.some.injEq, Prod.mk.injEq] at H
     obtain ⟨rfl, rfl, rfl⟩ := H
     go_enter Tryz.func82, Tryz.ntmps82
     go_wp2_with (first | ((with_reducible refine gate_dst (N := 5) rfl ?_); refine boxF (N := 5) (cs := #[.int .i64 a1_0, .int .i64 a1_1]) (t := 23) ?_; intro gb146 hg w28 hbox hb; have hS := Stp.mk hb; have BK146 := Fa.mk (hbox); have GW146 := Fa.mk (gle hg : w.heap.size ≤ gb146); have GE146 := GW146; clear hb hbox hg) | ((with_reducible refine gate_dst (N := 6) rfl ?_); refine boxF (N := 6) (cs := #[.int .i64 a2_0, .int .i64 a2_1]) (t := 23) ?_; intro gb147 hg w29 hbox hb; have hS := Stp.mk hb; have BK147 := Fa.mk (hbox); have GW147 := Fa.mk (gle hg : w.heap.size ≤ gb147); have GE147 := GW147; have NB146_147 := Fa.mk (gne (o := .cells #[.int .i64 a1_0, .int .i64 a1_1] 23 (0, 0)) hg : gb146 ≠ gb147); have NB147_146 := Fa.mk NB146_147.out.symm; clear hb hbox hg) | ((with_reducible refine gate_dst (N := 8) rfl ?_); refine boxF (N := 8) (cs := #[.int .i64 0, .int .i64 0]) (t := 23) ?_; intro gb148 hg w30 hbox hb; have hS := Stp.mk hb; have BK146 := (⟨fa⟩ : Fa (w30.heap[gb146]? = some (.cells #[.int .i64 a1_0, .int .i64 a1_1] 23 (0, 0)))); have BK147 := (⟨fa⟩ : Fa (w30.heap[gb147]? = some (.cells #[.int .i64 a2_0, .int .i64 a2_1] 23 (0, 0)))); have BK148 := Fa.mk (hbox); have GW148 := Fa.mk (gle hg : w.heap.size ≤ gb148); have GE148 := GW148; have NB146_148 := Fa.mk (gne (o := .cells #[.int .i64 a1_0, .int .i64 a1_1] 23 (0, 0)) hg : gb146 ≠ gb148); have NB148_146 := Fa.mk NB146_148.out.symm; have NB147_148 := Fa.mk (gne (o := .cells #[.int .i64 a2_0, .int .i64 a2_1] 23 (0, 0)) hg : gb147 ≠ gb148); have NB148_147 := Fa.mk NB147_148.out.symm; clear hb hbox hg; have hnb31 := NB146_147.out; have hnc31 := NB147_146.out; have hnb32 := NB146_148.out; have hnc32 := NB148_146.out; have hcz33_0 := jcell BK146.out (i := 0) rfl; have hcz33_1 := jcell BK146.out (i := 1) rfl; have hfz33_0 := blk_frozen BK146.out 0; have hfz33_1 := blk_frozen BK146.out 1; have hnb34 := NB147_148.out; have hnc34 := NB148_147.out; have hcz35_0 := jcell BK147.out (i := 0) rfl; have hcz35_1 := jcell BK147.out (i := 1) rfl; have hfz35_0 := blk_frozen BK147.out 0; have hfz35_1 := blk_frozen BK147.out 1) | ((with_reducible refine gate_dst (N := 15) rfl ?_); refine Kd.R_lit k23 _ 23 ?hg (N := 15) ?hd (xs := ([(⟨a1_0, a1_1⟩ : S23), (⟨a2_0, a2_1⟩ : S23)] : List (S23))) (inner := [.int .i64 a1_0, .int .i64 a1_1, .int .i64 a2_0, .int .i64 a2_1]) (ok := fun _ => True) (okp := fun _ => True) ?hr ?hp (fun _ hk => hk) trivial (Below.refl _ _) (Nat.le_refl _) (by simp) ?_; (case hd => rfl); (case hg => rfl); (case hr => first | (go_simp; done) | (go_simp; rfl)); (case hp => exact (Reps.c2 (show Kd.M k23 _ _ _ (⟨a1_0, a1_1⟩ : S23) [.int .i64 a1_0, .int .i64 a1_1] from (k23_mkM _ _ _ (⟨a1_0, a1_1⟩ : S23) )) (Reps.c2 (show Kd.M k23 _ _ _ (⟨a2_0, a2_1⟩ : S23) [.int .i64 a2_0, .int .i64 a2_1] from (k23_mkM _ _ _ (⟨a2_0, a2_1⟩ : S23) )) (Reps.none _ _)))); intro v150 w36 ho37 hb hg_ hnew_; clear hg_ hnew_; (first | rw [← Ny149.out] at ho37 | (simp only [Int.reduceToNat] at ho37; rw [← Ny149.out] at ho37)); have n0_ := Fa.mk (Kd.R_lower (Kd.R_newB (Kd.R_newB (Kd.R_newB ho37 (g := gb146) (o := .cells #[.int .i64 a1_0, .int .i64 a1_1] 23 (0, 0)) fa) (g := gb147) (o := .cells #[.int .i64 a2_0, .int .i64 a2_1] 23 (0, 0)) fa) (g := gb148) (o := .cells #[.int .i64 0, .int .i64 0] 23 (0, 0)) fa) (bsz w)); have n1_ := Fa.mk (blk_below (g := gb146) (o := .cells #[.int .i64 a1_0, .int .i64 a1_1] 23 (0, 0)) fa hb); have n2_ := Fa.mk (blk_below (g := gb147) (o := .cells #[.int .i64 a2_0, .int .i64 a2_1] 23 (0, 0)) fa hb); have n3_ := Fa.mk (blk_below (g := gb148) (o := .cells #[.int .i64 0, .int .i64 0] 23 (0, 0)) fa hb); have n4_ := Fa.mk (bst w hb); clear BK146; clear BK147; clear BK148; clear HB; have HO151 := n0_; have BK146 := n1_; have BK147 := n2_; have BK148 := n3_; have HB := n4_; clear n0_ n1_ n2_ n3_ n4_; clear hb ho37; obtain ⟨Ao38, co38, eo38⟩ := Kd.R_slice HO151.out; subst eo38) | ((with_reducible refine gate_callee (f := 103) rfl ?_); refine goesA (some 16) rfl rfl Tryz.func103 (by kernel_rfl) rfl #[.slice Ao38 y149.length co38] rfl ?_; (with_reducible refine (num_valid.calls k _ _ y149 true _ ?side1 ?side2 A5.out).mono ?_); (case side1 => repeat (first | exact (Kd.R_reads' HO151.out).2.2 | (with_reducible refine Kd.C_alloc ?_ _) | (with_reducible refine Kd.C_drewN ?_ _) | (with_reducible refine Kd.C_drew ?_))); (case side2 => exact (Kd.R_reads' HO151.out).2.1); rintro e w39 ⟨rfl, hb⟩; refine ⟨_, rfl, ?_⟩; have hS := Stp.mk hb; have HO151 := Fa.mk (Kd.R_below (by (with_reducible repeat (first | apply Kd.R_alloc | apply Kd.R_drewN | apply Kd.R_drew)); exact HO151.out) hb); have BK146 := (⟨fa⟩ : Fa (w39.heap[gb146]? = some (.cells #[.int .i64 a1_0, .int .i64 a1_1] 23 (0, 0)))); have BK147 := (⟨fa⟩ : Fa (w39.heap[gb147]? = some (.cells #[.int .i64 a2_0, .int .i64 a2_1] 23 (0, 0)))); clear hb; have hcz40_0 := jcell BK146.out (i := 0) rfl; have hcz40_1 := jcell BK146.out (i := 1) rfl; have hfz40_0 := blk_frozen BK146.out 0; have hfz40_1 := blk_frozen BK146.out 1; have hcz41_0 := jcell BK147.out (i := 0) rfl; have hcz41_1 := jcell BK147.out (i := 1) rfl; have hfz41_0 := blk_frozen BK147.out 0; have hfz41_1 := blk_frozen BK147.out 1) | ((with_reducible refine gate_callee (f := 104) rfl ?_); refine goesA (some 23) rfl rfl Tryz.func104 (by kernel_rfl) rfl #[.string a0, .agg #[.int .i64 a1_0, .int .i64 a1_1], .agg #[.int .i64 a2_0, .int .i64 a2_1]] rfl ?_; (with_reducible refine (num_quotient.calls a0 a1_0 a1_1 a2_0 a2_1 t153 t154 true _ A7.out).mono ?_); rintro e w42 ⟨rfl, hb⟩; refine ⟨_, rfl, ?_⟩; have hS := Stp.mk hb; have HO151 := Fa.mk (Kd.R_below (by (with_reducible repeat (first | apply Kd.R_alloc | apply Kd.R_drewN | apply Kd.R_drew)); exact HO151.out) hb); clear hb) | ((with_reducible refine gate_callee (f := 105) rfl ?_); refine goesA (some 39) rfl rfl Tryz.func105 (by kernel_rfl) rfl #[.int .i64 t153, .int .i64 t154] rfl ?_; (with_reducible refine (rational_Near.calls k t153 t154 t156 t157 t158 _ A27.out).mono ?_); rintro e w43 ⟨rfl, hb⟩; refine ⟨_, rfl, ?_⟩; have hS := Stp.mk hb; have HO151 := Fa.mk (Kd.R_below (by (with_reducible repeat (first | apply Kd.R_alloc | apply Kd.R_drewN | apply Kd.R_drew)); exact HO151.out) hb); have BK148 := (⟨fa⟩ : Fa (w43.heap[gb148]? = some (.cells #[.int .i64 0, .int .i64 0] 23 (0, 0)))); clear hb; have hcz44_0 := jcell BK148.out (i := 0) rfl; have hcz44_1 := jcell BK148.out (i := 1) rfl; have hfz44_0 := blk_frozen BK148.out 0; have hfz44_1 := blk_frozen BK148.out 1))
     refine bodyPost_ret (results_ct rfl _ _ gb148 23 #[.int .i64 t156, .int .i64 t157] (0, 0) _ rfl (by (with_reducible repeat (first | refine blk_drewN ?_ _ | refine blk_drew ?_ | refine blk_alloc ?_ _)); refine blk_put (cs := #[.int .i64 t156, .int .i64 0]) ?_ 1 _ rfl; (with_reducible repeat (first | refine blk_drewN ?_ _ | refine blk_drew ?_ | refine blk_alloc ?_ _)); refine blk_put (cs := #[.int .i64 0, .int .i64 0]) ?_ 0 _ rfl; (with_reducible repeat (first | refine blk_drewN ?_ _ | refine blk_drew ?_ | refine blk_alloc ?_ _)); exact fa) Tryz.underlying23 rfl (by kernel_rfl)) rfl ?_
     exact ⟨rfl, fa⟩
    ·
     replace c26 := Bool.eq_false_iff.mpr c26
     subst c26
     rw [if_neg (show ¬ (false = true) by decide)] at H
     replace H := Option.bind_eq_some_iff.mp H
     obtain ⟨⟨t159, t160, t161⟩, A450, H⟩ := H
     (try dsimp only at H)
     have A45 := Fa.mk A450
     clear A450
     simp only [Option.some.injEq, Prod.mk.injEq] at H
     obtain ⟨rfl, rfl, rfl⟩ := H
     go_enter Tryz.func82, Tryz.ntmps82
     go_wp2_with (first | ((with_reducible refine gate_dst (N := 5) rfl ?_); refine boxF (N := 5) (cs := #[.int .i64 a1_0, .int .i64 a1_1]) (t := 23) ?_; intro gb146 hg w46 hbox hb; have hS := Stp.mk hb; have BK146 := Fa.mk (hbox); have GW146 := Fa.mk (gle hg : w.heap.size ≤ gb146); have GE146 := GW146; clear hb hbox hg) | ((with_reducible refine gate_dst (N := 6) rfl ?_); refine boxF (N := 6) (cs := #[.int .i64 a2_0, .int .i64 a2_1]) (t := 23) ?_; intro gb147 hg w47 hbox hb; have hS := Stp.mk hb; have BK147 := Fa.mk (hbox); have GW147 := Fa.mk (gle hg : w.heap.size ≤ gb147); have GE147 := GW147; have NB146_147 := Fa.mk (gne (o := .cells #[.int .i64 a1_0, .int .i64 a1_1] 23 (0, 0)) hg : gb146 ≠ gb147); have NB147_146 := Fa.mk NB146_147.out.symm; clear hb hbox hg) | ((with_reducible refine gate_dst (N := 8) rfl ?_); refine boxF (N := 8) (cs := #[.int .i64 0, .int .i64 0]) (t := 23) ?_; intro gb148 hg w48 hbox hb; have hS := Stp.mk hb; have BK146 := (⟨fa⟩ : Fa (w48.heap[gb146]? = some (.cells #[.int .i64 a1_0, .int .i64 a1_1] 23 (0, 0)))); have BK147 := (⟨fa⟩ : Fa (w48.heap[gb147]? = some (.cells #[.int .i64 a2_0, .int .i64 a2_1] 23 (0, 0)))); have BK148 := Fa.mk (hbox); have GW148 := Fa.mk (gle hg : w.heap.size ≤ gb148); have GE148 := GW148; have NB146_148 := Fa.mk (gne (o := .cells #[.int .i64 a1_0, .int .i64 a1_1] 23 (0, 0)) hg : gb146 ≠ gb148); have NB148_146 := Fa.mk NB146_148.out.symm; have NB147_148 := Fa.mk (gne (o := .cells #[.int .i64 a2_0, .int .i64 a2_1] 23 (0, 0)) hg : gb147 ≠ gb148); have NB148_147 := Fa.mk NB147_148.out.symm; clear hb hbox hg; have hnb49 := NB146_147.out; have hnc49 := NB147_146.out; have hnb50 := NB146_148.out; have hnc50 := NB148_146.out; have hcz51_0 := jcell BK146.out (i := 0) rfl; have hcz51_1 := jcell BK146.out (i := 1) rfl; have hfz51_0 := blk_frozen BK146.out 0; have hfz51_1 := blk_frozen BK146.out 1; have hnb52 := NB147_148.out; have hnc52 := NB148_147.out; have hcz53_0 := jcell BK147.out (i := 0) rfl; have hcz53_1 := jcell BK147.out (i := 1) rfl; have hfz53_0 := blk_frozen BK147.out 0; have hfz53_1 := blk_frozen BK147.out 1) | ((with_reducible refine gate_dst (N := 15) rfl ?_); refine Kd.R_lit k23 _ 23 ?hg (N := 15) ?hd (xs := ([(⟨a1_0, a1_1⟩ : S23), (⟨a2_0, a2_1⟩ : S23)] : List (S23))) (inner := [.int .i64 a1_0, .int .i64 a1_1, .int .i64 a2_0, .int .i64 a2_1]) (ok := fun _ => True) (okp := fun _ => True) ?hr ?hp (fun _ hk => hk) trivial (Below.refl _ _) (Nat.le_refl _) (by simp) ?_; (case hd => rfl); (case hg => rfl); (case hr => first | (go_simp; done) | (go_simp; rfl)); (case hp => exact (Reps.c2 (show Kd.M k23 _ _ _ (⟨a1_0, a1_1⟩ : S23) [.int .i64 a1_0, .int .i64 a1_1] from (k23_mkM _ _ _ (⟨a1_0, a1_1⟩ : S23) )) (Reps.c2 (show Kd.M k23 _ _ _ (⟨a2_0, a2_1⟩ : S23) [.int .i64 a2_0, .int .i64 a2_1] from (k23_mkM _ _ _ (⟨a2_0, a2_1⟩ : S23) )) (Reps.none _ _)))); intro v150 w54 ho55 hb hg_ hnew_; clear hg_ hnew_; (first | rw [← Ny149.out] at ho55 | (simp only [Int.reduceToNat] at ho55; rw [← Ny149.out] at ho55)); have n0_ := Fa.mk (Kd.R_lower (Kd.R_newB (Kd.R_newB (Kd.R_newB ho55 (g := gb146) (o := .cells #[.int .i64 a1_0, .int .i64 a1_1] 23 (0, 0)) fa) (g := gb147) (o := .cells #[.int .i64 a2_0, .int .i64 a2_1] 23 (0, 0)) fa) (g := gb148) (o := .cells #[.int .i64 0, .int .i64 0] 23 (0, 0)) fa) (bsz w)); have n1_ := Fa.mk (blk_below (g := gb146) (o := .cells #[.int .i64 a1_0, .int .i64 a1_1] 23 (0, 0)) fa hb); have n2_ := Fa.mk (blk_below (g := gb147) (o := .cells #[.int .i64 a2_0, .int .i64 a2_1] 23 (0, 0)) fa hb); have n3_ := Fa.mk (blk_below (g := gb148) (o := .cells #[.int .i64 0, .int .i64 0] 23 (0, 0)) fa hb); have n4_ := Fa.mk (bst w hb); clear BK146; clear BK147; clear BK148; clear HB; have HO151 := n0_; have BK146 := n1_; have BK147 := n2_; have BK148 := n3_; have HB := n4_; clear n0_ n1_ n2_ n3_ n4_; clear hb ho55; obtain ⟨Ao56, co56, eo56⟩ := Kd.R_slice HO151.out; subst eo56) | ((with_reducible refine gate_callee (f := 103) rfl ?_); refine goesA (some 16) rfl rfl Tryz.func103 (by kernel_rfl) rfl #[.slice Ao56 y149.length co56] rfl ?_; (with_reducible refine (num_valid.calls k _ _ y149 true _ ?side1 ?side2 A5.out).mono ?_); (case side1 => repeat (first | exact (Kd.R_reads' HO151.out).2.2 | (with_reducible refine Kd.C_alloc ?_ _) | (with_reducible refine Kd.C_drewN ?_ _) | (with_reducible refine Kd.C_drew ?_))); (case side2 => exact (Kd.R_reads' HO151.out).2.1); rintro e w57 ⟨rfl, hb⟩; refine ⟨_, rfl, ?_⟩; have hS := Stp.mk hb; have HO151 := Fa.mk (Kd.R_below (by (with_reducible repeat (first | apply Kd.R_alloc | apply Kd.R_drewN | apply Kd.R_drew)); exact HO151.out) hb); have BK146 := (⟨fa⟩ : Fa (w57.heap[gb146]? = some (.cells #[.int .i64 a1_0, .int .i64 a1_1] 23 (0, 0)))); have BK147 := (⟨fa⟩ : Fa (w57.heap[gb147]? = some (.cells #[.int .i64 a2_0, .int .i64 a2_1] 23 (0, 0)))); clear hb; have hcz58_0 := jcell BK146.out (i := 0) rfl; have hcz58_1 := jcell BK146.out (i := 1) rfl; have hfz58_0 := blk_frozen BK146.out 0; have hfz58_1 := blk_frozen BK146.out 1; have hcz59_0 := jcell BK147.out (i := 0) rfl; have hcz59_1 := jcell BK147.out (i := 1) rfl; have hfz59_0 := blk_frozen BK147.out 0; have hfz59_1 := blk_frozen BK147.out 1) | ((with_reducible refine gate_callee (f := 104) rfl ?_); refine goesA (some 23) rfl rfl Tryz.func104 (by kernel_rfl) rfl #[.string a0, .agg #[.int .i64 a1_0, .int .i64 a1_1], .agg #[.int .i64 a2_0, .int .i64 a2_1]] rfl ?_; (with_reducible refine (num_quotient.calls a0 a1_0 a1_1 a2_0 a2_1 t153 t154 true _ A7.out).mono ?_); rintro e w60 ⟨rfl, hb⟩; refine ⟨_, rfl, ?_⟩; have hS := Stp.mk hb; have HO151 := Fa.mk (Kd.R_below (by (with_reducible repeat (first | apply Kd.R_alloc | apply Kd.R_drewN | apply Kd.R_drew)); exact HO151.out) hb); clear hb) | ((with_reducible refine gate_callee (f := 79) rfl ?_); refine goesA (some 44) rfl rfl Tryz.func79 (by kernel_rfl) rfl #[.int .i64 t153, .int .i64 t154] rfl ?_; (with_reducible refine (rational_Exact.calls k t153 t154 t159 t160 t161 _ A45.out).mono ?_); rintro e w61 ⟨rfl, hb⟩; refine ⟨_, rfl, ?_⟩; have hS := Stp.mk hb; have HO151 := Fa.mk (Kd.R_below (by (with_reducible repeat (first | apply Kd.R_alloc | apply Kd.R_drewN | apply Kd.R_drew)); exact HO151.out) hb); have BK148 := (⟨fa⟩ : Fa (w61.heap[gb148]? = some (.cells #[.int .i64 0, .int .i64 0] 23 (0, 0)))); clear hb; have hcz62_0 := jcell BK148.out (i := 0) rfl; have hcz62_1 := jcell BK148.out (i := 1) rfl; have hfz62_0 := blk_frozen BK148.out 0; have hfz62_1 := blk_frozen BK148.out 1))
     refine bodyPost_ret (results_ct rfl _ _ gb148 23 #[.int .i64 t159, .int .i64 t160] (0, 0) _ rfl (by (with_reducible repeat (first | refine blk_drewN ?_ _ | refine blk_drew ?_ | refine blk_alloc ?_ _)); refine blk_put (cs := #[.int .i64 t159, .int .i64 0]) ?_ 1 _ rfl; (with_reducible repeat (first | refine blk_drewN ?_ _ | refine blk_drew ?_ | refine blk_alloc ?_ _)); refine blk_put (cs := #[.int .i64 0, .int .i64 0]) ?_ 0 _ rfl; (with_reducible repeat (first | refine blk_drewN ?_ _ | refine blk_drew ?_ | refine blk_alloc ?_ _)); exact fa) Tryz.underlying23 rfl (by kernel_rfl)) rfl ?_
     exact ⟨rfl, fa⟩
  ·
   replace c8 := Bool.eq_false_iff.mpr c8
   subst c8
   rw [if_neg (show ¬ (false = true) by decide)] at H
   simp only [Option.some.injEq, Prod.mk.injEq] at H
   obtain ⟨rfl, rfl, rfl⟩ := H
   go_enter Tryz.func82, Tryz.ntmps82
   go_wp2_with (first | ((with_reducible refine gate_dst (N := 5) rfl ?_); refine boxF (N := 5) (cs := #[.int .i64 a1_0, .int .i64 a1_1]) (t := 23) ?_; intro gb146 hg w63 hbox hb; have hS := Stp.mk hb; have BK146 := Fa.mk (hbox); have GW146 := Fa.mk (gle hg : w.heap.size ≤ gb146); have GE146 := GW146; clear hb hbox hg) | ((with_reducible refine gate_dst (N := 6) rfl ?_); refine boxF (N := 6) (cs := #[.int .i64 a2_0, .int .i64 a2_1]) (t := 23) ?_; intro gb147 hg w64 hbox hb; have hS := Stp.mk hb; have BK147 := Fa.mk (hbox); have GW147 := Fa.mk (gle hg : w.heap.size ≤ gb147); have GE147 := GW147; have NB146_147 := Fa.mk (gne (o := .cells #[.int .i64 a1_0, .int .i64 a1_1] 23 (0, 0)) hg : gb146 ≠ gb147); have NB147_146 := Fa.mk NB146_147.out.symm; clear hb hbox hg) | ((with_reducible refine gate_dst (N := 8) rfl ?_); refine boxF (N := 8) (cs := #[.int .i64 0, .int .i64 0]) (t := 23) ?_; intro gb148 hg w65 hbox hb; have hS := Stp.mk hb; have BK146 := (⟨fa⟩ : Fa (w65.heap[gb146]? = some (.cells #[.int .i64 a1_0, .int .i64 a1_1] 23 (0, 0)))); have BK147 := (⟨fa⟩ : Fa (w65.heap[gb147]? = some (.cells #[.int .i64 a2_0, .int .i64 a2_1] 23 (0, 0)))); have BK148 := Fa.mk (hbox); have GW148 := Fa.mk (gle hg : w.heap.size ≤ gb148); have GE148 := GW148; have NB146_148 := Fa.mk (gne (o := .cells #[.int .i64 a1_0, .int .i64 a1_1] 23 (0, 0)) hg : gb146 ≠ gb148); have NB148_146 := Fa.mk NB146_148.out.symm; have NB147_148 := Fa.mk (gne (o := .cells #[.int .i64 a2_0, .int .i64 a2_1] 23 (0, 0)) hg : gb147 ≠ gb148); have NB148_147 := Fa.mk NB147_148.out.symm; clear hb hbox hg; have hnb66 := NB146_147.out; have hnc66 := NB147_146.out; have hnb67 := NB146_148.out; have hnc67 := NB148_146.out; have hcz68_0 := jcell BK146.out (i := 0) rfl; have hcz68_1 := jcell BK146.out (i := 1) rfl; have hfz68_0 := blk_frozen BK146.out 0; have hfz68_1 := blk_frozen BK146.out 1; have hnb69 := NB147_148.out; have hnc69 := NB148_147.out; have hcz70_0 := jcell BK147.out (i := 0) rfl; have hcz70_1 := jcell BK147.out (i := 1) rfl; have hfz70_0 := blk_frozen BK147.out 0; have hfz70_1 := blk_frozen BK147.out 1) | ((with_reducible refine gate_dst (N := 15) rfl ?_); refine Kd.R_lit k23 _ 23 ?hg (N := 15) ?hd (xs := ([(⟨a1_0, a1_1⟩ : S23), (⟨a2_0, a2_1⟩ : S23)] : List (S23))) (inner := [.int .i64 a1_0, .int .i64 a1_1, .int .i64 a2_0, .int .i64 a2_1]) (ok := fun _ => True) (okp := fun _ => True) ?hr ?hp (fun _ hk => hk) trivial (Below.refl _ _) (Nat.le_refl _) (by simp) ?_; (case hd => rfl); (case hg => rfl); (case hr => first | (go_simp; done) | (go_simp; rfl)); (case hp => exact (Reps.c2 (show Kd.M k23 _ _ _ (⟨a1_0, a1_1⟩ : S23) [.int .i64 a1_0, .int .i64 a1_1] from (k23_mkM _ _ _ (⟨a1_0, a1_1⟩ : S23) )) (Reps.c2 (show Kd.M k23 _ _ _ (⟨a2_0, a2_1⟩ : S23) [.int .i64 a2_0, .int .i64 a2_1] from (k23_mkM _ _ _ (⟨a2_0, a2_1⟩ : S23) )) (Reps.none _ _)))); intro v150 w71 ho72 hb hg_ hnew_; clear hg_ hnew_; (first | rw [← Ny149.out] at ho72 | (simp only [Int.reduceToNat] at ho72; rw [← Ny149.out] at ho72)); have n0_ := Fa.mk (Kd.R_lower (Kd.R_newB (Kd.R_newB (Kd.R_newB ho72 (g := gb146) (o := .cells #[.int .i64 a1_0, .int .i64 a1_1] 23 (0, 0)) fa) (g := gb147) (o := .cells #[.int .i64 a2_0, .int .i64 a2_1] 23 (0, 0)) fa) (g := gb148) (o := .cells #[.int .i64 0, .int .i64 0] 23 (0, 0)) fa) (bsz w)); have n1_ := Fa.mk (blk_below (g := gb146) (o := .cells #[.int .i64 a1_0, .int .i64 a1_1] 23 (0, 0)) fa hb); have n2_ := Fa.mk (blk_below (g := gb147) (o := .cells #[.int .i64 a2_0, .int .i64 a2_1] 23 (0, 0)) fa hb); have n3_ := Fa.mk (blk_below (g := gb148) (o := .cells #[.int .i64 0, .int .i64 0] 23 (0, 0)) fa hb); have n4_ := Fa.mk (bst w hb); clear BK146; clear BK147; clear BK148; clear HB; have HO151 := n0_; have BK146 := n1_; have BK147 := n2_; have BK148 := n3_; have HB := n4_; clear n0_ n1_ n2_ n3_ n4_; clear hb ho72; obtain ⟨Ao73, co73, eo73⟩ := Kd.R_slice HO151.out; subst eo73) | ((with_reducible refine gate_callee (f := 103) rfl ?_); refine goesA (some 16) rfl rfl Tryz.func103 (by kernel_rfl) rfl #[.slice Ao73 y149.length co73] rfl ?_; (with_reducible refine (num_valid.calls k _ _ y149 true _ ?side1 ?side2 A5.out).mono ?_); (case side1 => repeat (first | exact (Kd.R_reads' HO151.out).2.2 | (with_reducible refine Kd.C_alloc ?_ _) | (with_reducible refine Kd.C_drewN ?_ _) | (with_reducible refine Kd.C_drew ?_))); (case side2 => exact (Kd.R_reads' HO151.out).2.1); rintro e w74 ⟨rfl, hb⟩; refine ⟨_, rfl, ?_⟩; have hS := Stp.mk hb; have HO151 := Fa.mk (Kd.R_below (by (with_reducible repeat (first | apply Kd.R_alloc | apply Kd.R_drewN | apply Kd.R_drew)); exact HO151.out) hb); have BK146 := (⟨fa⟩ : Fa (w74.heap[gb146]? = some (.cells #[.int .i64 a1_0, .int .i64 a1_1] 23 (0, 0)))); have BK147 := (⟨fa⟩ : Fa (w74.heap[gb147]? = some (.cells #[.int .i64 a2_0, .int .i64 a2_1] 23 (0, 0)))); clear hb; have hcz75_0 := jcell BK146.out (i := 0) rfl; have hcz75_1 := jcell BK146.out (i := 1) rfl; have hfz75_0 := blk_frozen BK146.out 0; have hfz75_1 := blk_frozen BK146.out 1; have hcz76_0 := jcell BK147.out (i := 0) rfl; have hcz76_1 := jcell BK147.out (i := 1) rfl; have hfz76_0 := blk_frozen BK147.out 0; have hfz76_1 := blk_frozen BK147.out 1) | ((with_reducible refine gate_callee (f := 104) rfl ?_); refine goesA (some 23) rfl rfl Tryz.func104 (by kernel_rfl) rfl #[.string a0, .agg #[.int .i64 a1_0, .int .i64 a1_1], .agg #[.int .i64 a2_0, .int .i64 a2_1]] rfl ?_; (with_reducible refine (num_quotient.calls a0 a1_0 a1_1 a2_0 a2_1 t153 t154 false _ A7.out).mono ?_); rintro e w77 ⟨rfl, hb⟩; refine ⟨_, rfl, ?_⟩; have hS := Stp.mk hb; have HO151 := Fa.mk (Kd.R_below (by (with_reducible repeat (first | apply Kd.R_alloc | apply Kd.R_drewN | apply Kd.R_drew)); exact HO151.out) hb); have BK148 := (⟨fa⟩ : Fa (w77.heap[gb148]? = some (.cells #[.int .i64 0, .int .i64 0] 23 (0, 0)))); clear hb; have hcz78_0 := jcell BK148.out (i := 0) rfl; have hcz78_1 := jcell BK148.out (i := 1) rfl; have hfz78_0 := blk_frozen BK148.out 0; have hfz78_1 := blk_frozen BK148.out 1))
   refine bodyPost_ret (results_ct rfl _ _ gb148 23 #[.int .i64 0, .int .i64 0] (0, 0) _ rfl (by (with_reducible repeat (first | refine blk_drewN ?_ _ | refine blk_drew ?_ | refine blk_alloc ?_ _)); refine blk_put (cs := #[.int .i64 0, .int .i64 0]) ?_ 1 _ rfl; (with_reducible repeat (first | refine blk_drewN ?_ _ | refine blk_drew ?_ | refine blk_alloc ?_ _)); refine blk_put (cs := #[.int .i64 0, .int .i64 0]) ?_ 0 _ rfl; (with_reducible repeat (first | refine blk_drewN ?_ _ | refine blk_drew ?_ | refine blk_alloc ?_ _)); exact fa) Tryz.underlying23 rfl (by kernel_rfl)) rfl ?_
   exact ⟨rfl, fa⟩
 ·
  replace c6 := Bool.eq_false_iff.mpr c6
  subst c6
  rw [if_neg (show ¬ (false = true) by decide)] at H
  simp only [Option.some.injEq, Prod.mk.injEq] at H
  obtain ⟨rfl, rfl, rfl⟩ := H
  go_enter Tryz.func82, Tryz.ntmps82
  go_wp2_with (first | ((with_reducible refine gate_dst (N := 5) rfl ?_); refine boxF (N := 5) (cs := #[.int .i64 a1_0, .int .i64 a1_1]) (t := 23) ?_; intro gb146 hg w79 hbox hb; have hS := Stp.mk hb; have BK146 := Fa.mk (hbox); have GW146 := Fa.mk (gle hg : w.heap.size ≤ gb146); have GE146 := GW146; clear hb hbox hg) | ((with_reducible refine gate_dst (N := 6) rfl ?_); refine boxF (N := 6) (cs := #[.int .i64 a2_0, .int .i64 a2_1]) (t := 23) ?_; intro gb147 hg w80 hbox hb; have hS := Stp.mk hb; have BK147 := Fa.mk (hbox); have GW147 := Fa.mk (gle hg : w.heap.size ≤ gb147); have GE147 := GW147; have NB146_147 := Fa.mk (gne (o := .cells #[.int .i64 a1_0, .int .i64 a1_1] 23 (0, 0)) hg : gb146 ≠ gb147); have NB147_146 := Fa.mk NB146_147.out.symm; clear hb hbox hg) | ((with_reducible refine gate_dst (N := 8) rfl ?_); refine boxF (N := 8) (cs := #[.int .i64 0, .int .i64 0]) (t := 23) ?_; intro gb148 hg w81 hbox hb; have hS := Stp.mk hb; have BK146 := (⟨fa⟩ : Fa (w81.heap[gb146]? = some (.cells #[.int .i64 a1_0, .int .i64 a1_1] 23 (0, 0)))); have BK147 := (⟨fa⟩ : Fa (w81.heap[gb147]? = some (.cells #[.int .i64 a2_0, .int .i64 a2_1] 23 (0, 0)))); have BK148 := Fa.mk (hbox); have GW148 := Fa.mk (gle hg : w.heap.size ≤ gb148); have GE148 := GW148; have NB146_148 := Fa.mk (gne (o := .cells #[.int .i64 a1_0, .int .i64 a1_1] 23 (0, 0)) hg : gb146 ≠ gb148); have NB148_146 := Fa.mk NB146_148.out.symm; have NB147_148 := Fa.mk (gne (o := .cells #[.int .i64 a2_0, .int .i64 a2_1] 23 (0, 0)) hg : gb147 ≠ gb148); have NB148_147 := Fa.mk NB147_148.out.symm; clear hb hbox hg; have hnb82 := NB146_147.out; have hnc82 := NB147_146.out; have hnb83 := NB146_148.out; have hnc83 := NB148_146.out; have hcz84_0 := jcell BK146.out (i := 0) rfl; have hcz84_1 := jcell BK146.out (i := 1) rfl; have hfz84_0 := blk_frozen BK146.out 0; have hfz84_1 := blk_frozen BK146.out 1; have hnb85 := NB147_148.out; have hnc85 := NB148_147.out; have hcz86_0 := jcell BK147.out (i := 0) rfl; have hcz86_1 := jcell BK147.out (i := 1) rfl; have hfz86_0 := blk_frozen BK147.out 0; have hfz86_1 := blk_frozen BK147.out 1) | ((with_reducible refine gate_dst (N := 15) rfl ?_); refine Kd.R_lit k23 _ 23 ?hg (N := 15) ?hd (xs := ([(⟨a1_0, a1_1⟩ : S23), (⟨a2_0, a2_1⟩ : S23)] : List (S23))) (inner := [.int .i64 a1_0, .int .i64 a1_1, .int .i64 a2_0, .int .i64 a2_1]) (ok := fun _ => True) (okp := fun _ => True) ?hr ?hp (fun _ hk => hk) trivial (Below.refl _ _) (Nat.le_refl _) (by simp) ?_; (case hd => rfl); (case hg => rfl); (case hr => first | (go_simp; done) | (go_simp; rfl)); (case hp => exact (Reps.c2 (show Kd.M k23 _ _ _ (⟨a1_0, a1_1⟩ : S23) [.int .i64 a1_0, .int .i64 a1_1] from (k23_mkM _ _ _ (⟨a1_0, a1_1⟩ : S23) )) (Reps.c2 (show Kd.M k23 _ _ _ (⟨a2_0, a2_1⟩ : S23) [.int .i64 a2_0, .int .i64 a2_1] from (k23_mkM _ _ _ (⟨a2_0, a2_1⟩ : S23) )) (Reps.none _ _)))); intro v150 w87 ho88 hb hg_ hnew_; clear hg_ hnew_; (first | rw [← Ny149.out] at ho88 | (simp only [Int.reduceToNat] at ho88; rw [← Ny149.out] at ho88)); have n0_ := Fa.mk (Kd.R_lower (Kd.R_newB (Kd.R_newB (Kd.R_newB ho88 (g := gb146) (o := .cells #[.int .i64 a1_0, .int .i64 a1_1] 23 (0, 0)) fa) (g := gb147) (o := .cells #[.int .i64 a2_0, .int .i64 a2_1] 23 (0, 0)) fa) (g := gb148) (o := .cells #[.int .i64 0, .int .i64 0] 23 (0, 0)) fa) (bsz w)); have n1_ := Fa.mk (blk_below (g := gb146) (o := .cells #[.int .i64 a1_0, .int .i64 a1_1] 23 (0, 0)) fa hb); have n2_ := Fa.mk (blk_below (g := gb147) (o := .cells #[.int .i64 a2_0, .int .i64 a2_1] 23 (0, 0)) fa hb); have n3_ := Fa.mk (blk_below (g := gb148) (o := .cells #[.int .i64 0, .int .i64 0] 23 (0, 0)) fa hb); have n4_ := Fa.mk (bst w hb); clear BK146; clear BK147; clear BK148; clear HB; have HO151 := n0_; have BK146 := n1_; have BK147 := n2_; have BK148 := n3_; have HB := n4_; clear n0_ n1_ n2_ n3_ n4_; clear hb ho88; obtain ⟨Ao89, co89, eo89⟩ := Kd.R_slice HO151.out; subst eo89) | ((with_reducible refine gate_callee (f := 103) rfl ?_); refine goesA (some 16) rfl rfl Tryz.func103 (by kernel_rfl) rfl #[.slice Ao89 y149.length co89] rfl ?_; (with_reducible refine (num_valid.calls k _ _ y149 false _ ?side1 ?side2 A5.out).mono ?_); (case side1 => repeat (first | exact (Kd.R_reads' HO151.out).2.2 | (with_reducible refine Kd.C_alloc ?_ _) | (with_reducible refine Kd.C_drewN ?_ _) | (with_reducible refine Kd.C_drew ?_))); (case side2 => exact (Kd.R_reads' HO151.out).2.1); rintro e w90 ⟨rfl, hb⟩; refine ⟨_, rfl, ?_⟩; have hS := Stp.mk hb; have HO151 := Fa.mk (Kd.R_below (by (with_reducible repeat (first | apply Kd.R_alloc | apply Kd.R_drewN | apply Kd.R_drew)); exact HO151.out) hb); have BK148 := (⟨fa⟩ : Fa (w90.heap[gb148]? = some (.cells #[.int .i64 0, .int .i64 0] 23 (0, 0)))); clear hb; have hcz91_0 := jcell BK148.out (i := 0) rfl; have hcz91_1 := jcell BK148.out (i := 1) rfl; have hfz91_0 := blk_frozen BK148.out 0; have hfz91_1 := blk_frozen BK148.out 1))
  refine bodyPost_ret (results_ct rfl _ _ gb148 23 #[.int .i64 0, .int .i64 0] (0, 0) _ rfl (by (with_reducible repeat (first | refine blk_drewN ?_ _ | refine blk_drew ?_ | refine blk_alloc ?_ _)); refine blk_put (cs := #[.int .i64 0, .int .i64 0]) ?_ 1 _ rfl; (with_reducible repeat (first | refine blk_drewN ?_ _ | refine blk_drew ?_ | refine blk_alloc ?_ _)); refine blk_put (cs := #[.int .i64 0, .int .i64 0]) ?_ 0 _ rfl; (with_reducible repeat (first | refine blk_drewN ?_ _ | refine blk_drew ?_ | refine blk_alloc ?_ _)); exact fa) Tryz.underlying23 rfl (by kernel_rfl)) rfl ?_
  exact ⟨rfl, fa⟩
def num_Near.f (k : Nat) (a0 : ByteArray) (a1_0 : Int) (a1_1 : Int) (a2_0 : Int) (a2_1 : Int) : Option (Int × Int × Int) := (num_do.f k a0 a1_0 a1_1 a2_0 a2_1 true).bind fun bt165 => (some (bt165.1, bt165.2.1, bt165.2.2))
theorem num_Near.mono : ∀ a0 a1 a2 a3 a4 k, LeO (num_Near.f k a0 a1 a2 a3 a4) (num_Near.f (k + 1) a0 a1 a2 a3 a4) := by
  intro a0 a1 a2 a3 a4 k
  unfold num_Near.f
  repeat' first
      | (with_reducible exact num_do.mono _ _ _ _ _ _ _)
      | (with_reducible exact LeO.refl _)
      | (with_reducible exact LeO.none _)
      | (with_reducible refine LeO.ite ?_ ?_)
      | (with_reducible refine LeO.bind ?_ (fun _ => ?_))
      | exact num_do.mono _ _ _ _ _ _ _
      | exact LeO.none _
      | refine LeO.ite ?_ ?_
      | refine LeO.bind ?_ (fun _ => ?_)
set_option maxHeartbeats 8000000 in
set_option maxRecDepth 100000 in
theorem num_Near.calls (k : Nat) (a0 : ByteArray) (a1_0 : Int) (a1_1 : Int) (a2_0 : Int) (a2_1 : Int) (r1 : Int) (r2 : Int) (r3 : Int) (w : World) (h : num_Near.f k a0 a1_0 a1_1 a2_0 a2_1 = some (r1, r2, r3)) :
  Calls Tryz.prog 56 #[.string a0, .agg #[.int .i64 a1_0, .int .i64 a1_1], .agg #[.int .i64 a2_0, .int .i64 a2_1]] w fun e w' => e = .returned (.tuple #[.agg #[.int .i64 r1, .int .i64 r2], .int .i64 r3]) ∧ Below w.heap.size w w' := by
 have hu23 := Tryz.underlying23
 have HB := Fa.mk (Below.refl w.heap.size w)
 have H : ((num_do.f k a0 a1_0 a1_1 a2_0 a2_1 true).bind fun bt165 => (some (bt165.1, bt165.2.1, bt165.2.2))) = some (r1, r2, r3) := h
 clear h
 replace H := Option.bind_eq_some_iff.mp H
 obtain ⟨⟨t165, t166, t167⟩, A40, H⟩ := H
 (try dsimp only at H)
 have A4 := Fa.mk A40
 clear A40
 simp only [Option.some.injEq, Prod.mk.injEq] at H
 obtain ⟨rfl, rfl, rfl⟩ := H
 go_enter Tryz.func56, Tryz.ntmps56
 go_wp2_with (first | ((with_reducible refine gate_dst (N := 4) rfl ?_); refine boxF (N := 4) (cs := #[.int .i64 a1_0, .int .i64 a1_1]) (t := 23) ?_; intro gb162 hg w5 hbox hb; have hS := Stp.mk hb; have BK162 := Fa.mk (hbox); have GW162 := Fa.mk (gle hg : w.heap.size ≤ gb162); have GE162 := GW162; clear hb hbox hg) | ((with_reducible refine gate_dst (N := 5) rfl ?_); refine boxF (N := 5) (cs := #[.int .i64 a2_0, .int .i64 a2_1]) (t := 23) ?_; intro gb163 hg w6 hbox hb; have hS := Stp.mk hb; have BK163 := Fa.mk (hbox); have GW163 := Fa.mk (gle hg : w.heap.size ≤ gb163); have GE163 := GW163; have NB162_163 := Fa.mk (gne (o := .cells #[.int .i64 a1_0, .int .i64 a1_1] 23 (0, 0)) hg : gb162 ≠ gb163); have NB163_162 := Fa.mk NB162_163.out.symm; clear hb hbox hg) | ((with_reducible refine gate_dst (N := 6) rfl ?_); refine boxF (N := 6) (cs := #[.int .i64 0, .int .i64 0]) (t := 23) ?_; intro gb164 hg w7 hbox hb; have hS := Stp.mk hb; have BK162 := (⟨fa⟩ : Fa (w7.heap[gb162]? = some (.cells #[.int .i64 a1_0, .int .i64 a1_1] 23 (0, 0)))); have BK163 := (⟨fa⟩ : Fa (w7.heap[gb163]? = some (.cells #[.int .i64 a2_0, .int .i64 a2_1] 23 (0, 0)))); have BK164 := Fa.mk (hbox); have GW164 := Fa.mk (gle hg : w.heap.size ≤ gb164); have GE164 := GW164; have NB162_164 := Fa.mk (gne (o := .cells #[.int .i64 a1_0, .int .i64 a1_1] 23 (0, 0)) hg : gb162 ≠ gb164); have NB164_162 := Fa.mk NB162_164.out.symm; have NB163_164 := Fa.mk (gne (o := .cells #[.int .i64 a2_0, .int .i64 a2_1] 23 (0, 0)) hg : gb163 ≠ gb164); have NB164_163 := Fa.mk NB163_164.out.symm; clear hb hbox hg; have hnb8 := NB162_163.out; have hnc8 := NB163_162.out; have hnb9 := NB162_164.out; have hnc9 := NB164_162.out; have hcz10_0 := jcell BK162.out (i := 0) rfl; have hcz10_1 := jcell BK162.out (i := 1) rfl; have hfz10_0 := blk_frozen BK162.out 0; have hfz10_1 := blk_frozen BK162.out 1; have hnb11 := NB163_164.out; have hnc11 := NB164_163.out; have hcz12_0 := jcell BK163.out (i := 0) rfl; have hcz12_1 := jcell BK163.out (i := 1) rfl; have hfz12_0 := blk_frozen BK163.out 0; have hfz12_1 := blk_frozen BK163.out 1) | ((with_reducible refine gate_callee (f := 82) rfl ?_); refine goesA (some 11) rfl rfl Tryz.func82 (by kernel_rfl) rfl #[.string a0, .agg #[.int .i64 a1_0, .int .i64 a1_1], .agg #[.int .i64 a2_0, .int .i64 a2_1], .bool true] rfl ?_; (with_reducible refine (num_do.calls k a0 a1_0 a1_1 a2_0 a2_1 true t165 t166 t167 _ A4.out).mono ?_); rintro e w13 ⟨rfl, hb⟩; refine ⟨_, rfl, ?_⟩; have hS := Stp.mk hb; have BK164 := (⟨fa⟩ : Fa (w13.heap[gb164]? = some (.cells #[.int .i64 0, .int .i64 0] 23 (0, 0)))); clear hb; have hcz14_0 := jcell BK164.out (i := 0) rfl; have hcz14_1 := jcell BK164.out (i := 1) rfl; have hfz14_0 := blk_frozen BK164.out 0; have hfz14_1 := blk_frozen BK164.out 1))
 refine bodyPost_ret (results_ct rfl _ _ gb164 23 #[.int .i64 t165, .int .i64 t166] (0, 0) _ rfl (by (with_reducible repeat (first | refine blk_drewN ?_ _ | refine blk_drew ?_ | refine blk_alloc ?_ _)); refine blk_put (cs := #[.int .i64 t165, .int .i64 0]) ?_ 1 _ rfl; (with_reducible repeat (first | refine blk_drewN ?_ _ | refine blk_drew ?_ | refine blk_alloc ?_ _)); refine blk_put (cs := #[.int .i64 0, .int .i64 0]) ?_ 0 _ rfl; (with_reducible repeat (first | refine blk_drewN ?_ _ | refine blk_drew ?_ | refine blk_alloc ?_ _)); exact fa) Tryz.underlying23 rfl (by kernel_rfl)) rfl ?_
 exact ⟨rfl, fa⟩
end Go.Proofs.YtilamkcpbibnmaaGreatDoor.P
