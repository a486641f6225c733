import Derived.Test.YtilamkcpbibnmaaGreatDoorZPx0
import Derived.Test.YtilamkcpbibnmaaGreatDoorZPxfleuronlaw08few
import Derived.Test.YtilamkcpbibnmaaGreatDoorZPxlinearrising
import Derived.Test.YtilamkcpbibnmaaGreatDoorZPxrationalNear
namespace Go.Proofs.YtilamkcpbibnmaaGreatDoor.P
open Go.RowKit Go.Proofs.YtilamkcpbibnmaaGreatDoorW.PrintWords Go.Proofs.YtilamkcpbibnmaaGreatDoorW.PrintLast Go.Proofs.YtilamkcpbibnmaaGreatDoorW.PrintMore
attribute [local go_sem] max2_int min2_int max_two min_two max_three min_three max_four min_four
set_option linter.unusedVariables false
set_option linter.unusedSimpArgs false
mutual
def linear_each.j0 : Nat → ByteArray → Bool → Int → Int → List (S47) → Int → Int → Option (Int × Int × (List (S47)) × Int)
  | 0, _, _, _, _, _, _, _ => none
  | k + 1, x0, x20, x191000, x191001, x191002, x192000, x192001 => if x20 = true then (some (0, 0, ([] : List (S47)), 2)) else ((num_Near.f k x0 x191000 x191001 x192000 x192001).bind fun bt195 => (if bt195.2.2 = 0 then (linear_each.l0 k x0 x191002 (x191002.length : Int) 0 x192000 x192001 bt195.1 bt195.2.1 ([] : List (S47))) else (some (0, 0, ([] : List (S47)), bt195.2.2))))
def linear_each.l0 : Nat → ByteArray → List (S47) → Int → Int → Int → Int → Int → Int → List (S47) → Option (Int × Int × (List (S47)) × Int)
  | 0, _, _, _, _, _, _, _, _, _ => none
  | k + 1, x0, x37, x38, x39, x192000, x192001, x200000, x200001, x200002 => if x39 < x38 then (if 0 ≤ x39 then (if x39 < (x37.length : Int) then ((num_Near.f k x0 ((rd_T47 x37 x39).f1.f0) ((rd_T47 x37 x39).f1.f1) x192000 x192001).bind fun bt202 => (if bt202.2.2 = 0 then (if bt202.1 = 0 then (linear_each.l0 k x0 x37 x38 (wrap64 (x39 + 1)) x192000 x192001 x200000 x200001 x200002) else (if x200002.length < 4398046511104 then (linear_each.l0 k x0 x37 x38 (wrap64 (x39 + 1)) x192000 x192001 x200000 x200001 (x200002 ++ [(⟨(rd_T47 x37 x39).f0, (⟨bt202.1, bt202.2.1⟩ : S23)⟩ : S47)])) else (none))) else (some (0, 0, ([] : List (S47)), bt202.2.2)))) else (none)) else (none)) else (some (x200000, x200001, x200002, 0))
end
def linear_each.f (k : Nat) (a0 : ByteArray) (a1_0 : Int) (a1_1 : Int) (l1_2 : List (S47)) (a2_0 : Int) (a2_1 : Int) : Option (Int × Int × (List (S47)) × Int) := (linear_Valid.f k a1_0 a1_1 l1_2).bind fun t193 => (if t193 = true then ((num_Valid.f k a2_0 a2_1).bind fun t194 => (linear_each.j0 k a0 (!t194) a1_0 a1_1 l1_2 a2_0 a2_1)) else (linear_each.j0 k a0 true a1_0 a1_1 l1_2 a2_0 a2_1))
theorem linear_each.mono_l : ∀ k, (∀ y0 y1 y2 y3 y4 y5 y6, LeO (linear_each.j0 k y0 y1 y2 y3 y4 y5 y6) (linear_each.j0 (k + 1) y0 y1 y2 y3 y4 y5 y6)) ∧ (∀ y0 y1 y2 y3 y4 y5 y6 y7 y8, LeO (linear_each.l0 k y0 y1 y2 y3 y4 y5 y6 y7 y8) (linear_each.l0 (k + 1) y0 y1 y2 y3 y4 y5 y6 y7 y8))
  | 0 => ⟨fun _ _ _ _ _ _ _ r h => by simp [linear_each.j0] at h, fun _ _ _ _ _ _ _ _ _ r h => by simp [linear_each.l0] at h⟩
  | k + 1 => by
    obtain ⟨ih0, ih1⟩ := linear_each.mono_l k
    refine ⟨?_, ?_⟩
    all_goals intros
    all_goals first | unfold linear_each.j0 | unfold linear_each.l0
    all_goals repeat' first | (with_reducible exact ih0 _ _ _ _ _ _ _) | (with_reducible exact ih1 _ _ _ _ _ _ _ _ _) | (with_reducible exact linear_Valid.mono _ _ _ _) | (with_reducible exact num_Near.mono _ _ _ _ _ _) | (with_reducible exact num_Valid.mono _ _ _) | (with_reducible exact LeO.refl _) | (with_reducible exact LeO.none _) | (with_reducible refine LeO.ite ?_ ?_) | (with_reducible refine LeO.bind ?_ (fun _ => ?_)) | exact ih0 _ _ _ _ _ _ _ | exact ih1 _ _ _ _ _ _ _ _ _ | exact linear_Valid.mono _ _ _ _ | exact num_Near.mono _ _ _ _ _ _ | exact num_Valid.mono _ _ _ | exact LeO.none _ | refine LeO.ite ?_ ?_ | refine LeO.bind ?_ (fun _ => ?_)
theorem linear_each.mono : ∀ a0 a1 a2 a3 a4 a5 k, LeO (linear_each.f k a0 a1 a2 a3 a4 a5) (linear_each.f (k + 1) a0 a1 a2 a3 a4 a5) := by
  intro a0 a1 a2 a3 a4 a5 k
  obtain ⟨ih0, ih1⟩ := linear_each.mono_l k
  unfold linear_each.f
  repeat' first
      | (with_reducible exact ih0 _ _ _ _ _ _ _)
      | (with_reducible exact ih1 _ _ _ _ _ _ _ _ _)
      | (with_reducible exact linear_Valid.mono _ _ _ _)
      | (with_reducible exact num_Near.mono _ _ _ _ _ _)
      | (with_reducible exact num_Valid.mono _ _ _)
      | (with_reducible exact LeO.refl _)
      | (with_reducible exact LeO.none _)
      | (with_reducible refine LeO.ite ?_ ?_)
      | (with_reducible refine LeO.bind ?_ (fun _ => ?_))
      | exact ih0 _ _ _ _ _ _ _
      | exact ih1 _ _ _ _ _ _ _ _ _
      | exact linear_Valid.mono _ _ _ _
      | exact num_Near.mono _ _ _ _ _ _
      | exact num_Valid.mono _ _ _
      | exact LeO.none _
      | refine LeO.ite ?_ ?_
      | refine LeO.bind ?_ (fun _ => ?_)
set_option maxHeartbeats 8000000 in
set_option maxRecDepth 100000 in
theorem linear_each.calls (k : Nat) (a0 : ByteArray) (a1_0 : Int) (a1_1 : Int) (A1_2 : Option Addr) (c1_2 : Nat) (l1_2 : List (S47)) (a2_0 : Int) (a2_1 : Int) (r1 : Int) (r2 : Int) (r3 : List (S47)) (r4 : Int) (w : World) (hr1_2 : Kd.C k47 w A1_2 l1_2.length l1_2) (hc1_2 : l1_2.length ≤ c1_2) (h : linear_each.f k a0 a1_0 a1_1 l1_2 a2_0 a2_1 = some (r1, r2, r3, r4)) :
  Calls Tryz.prog 49 #[.string a0, .agg #[.int .i64 a1_0, .int .i64 a1_1, .slice A1_2 l1_2.length c1_2], .agg #[.int .i64 a2_0, .int .i64 a2_1]] w fun e w' => ∃ v2_ : Value, e = .returned (.tuple #[.agg #[.int .i64 r1, .int .i64 r2, v2_], .int .i64 r4]) ∧ Kd.R k47 47 w' w.heap.size (fun _ => True) v2_ r3 ∧ Below w.heap.size w w' := by
 have hu26 := Tryz.underlying26
 have hu23 := Tryz.underlying23
 have hu47 := Tryz.underlying47
 have HR1_2 := Fa.mk hr1_2
 have HC1_2 := Fa.mk hc1_2
 clear hr1_2 hc1_2
 have HB := Fa.mk (Below.refl w.heap.size w)
 have H : ((linear_Valid.f k a1_0 a1_1 l1_2).bind fun t193 => (if t193 = true then ((num_Valid.f k a2_0 a2_1).bind fun t194 => (linear_each.j0 k a0 (!t194) a1_0 a1_1 l1_2 a2_0 a2_1)) else (linear_each.j0 k a0 true a1_0 a1_1 l1_2 a2_0 a2_1))) = some (r1, r2, r3, r4) := h
 clear h
 have HC4 := Fa.mk H
 clear H
 go_enter Tryz.func49, Tryz.ntmps49
 go_upto_region 1 with (first | ((with_reducible refine gate_dst (N := 4) rfl ?_); refine boxF (N := 4) (cs := #[.int .i64 a1_0, .int .i64 a1_1, .slice A1_2 l1_2.length c1_2]) (t := 26) ?_; intro gb190 hg w5 hbox hb; have hS := Stp.mk hb; have BK190 := Fa.mk (hbox); have GW190 := Fa.mk (gle hg : w.heap.size ≤ gb190); have GE190 := GW190; clear hb hbox hg) | ((with_reducible refine gate_dst (N := 5) rfl ?_); refine boxF (N := 5) (cs := #[.int .i64 a2_0, .int .i64 a2_1]) (t := 23) ?_; intro gb191 hg w6 hbox hb; have hS := Stp.mk hb; have BK191 := Fa.mk (hbox); have GW191 := Fa.mk (gle hg : w.heap.size ≤ gb191); have GE191 := GW191; have NB190_191 := Fa.mk (gne (o := .cells #[.int .i64 a1_0, .int .i64 a1_1, .slice A1_2 l1_2.length c1_2] 26 (0, 0)) hg : gb190 ≠ gb191); have NB191_190 := Fa.mk NB190_191.out.symm; clear hb hbox hg) | ((with_reducible refine gate_dst (N := 6) rfl ?_); refine boxF (N := 6) (cs := #[.int .i64 0, .int .i64 0, .slice none 0 0]) (t := 26) ?_; intro gb192 hg w7 hbox hb; have hS := Stp.mk hb; have BK192 := Fa.mk (hbox); have GW192 := Fa.mk (gle hg : w.heap.size ≤ gb192); have GE192 := GW192; have NB190_192 := Fa.mk (gne (o := .cells #[.int .i64 a1_0, .int .i64 a1_1, .slice A1_2 l1_2.length c1_2] 26 (0, 0)) hg : gb190 ≠ gb192); have NB192_190 := Fa.mk NB190_192.out.symm; have NB191_192 := Fa.mk (gne (o := .cells #[.int .i64 a2_0, .int .i64 a2_1] 23 (0, 0)) hg : gb191 ≠ gb192); have NB192_191 := Fa.mk NB191_192.out.symm; clear hb hbox hg))
 (try simp only [Act.put, List.setIfInBounds_toArray, List.set_cons_zero, List.set_cons_succ])
 go_cut [20] (fun v20 wc => ∃ (kq : Nat) (x20_3 : Bool), v20 = .bool x20_3 ∧ Fa (linear_each.j0 kq a0 x20_3 a1_0 a1_1 l1_2 a2_0 a2_1 = some (r1, r2, r3, r4)) ∧ Fa (kq ≤ k) ∧ Fa (wc.heap[gb190]? = some (.cells #[.int .i64 a1_0, .int .i64 a1_1, (.slice A1_2 l1_2.length c1_2)] 26 (0, 0))) ∧ Fa (wc.heap[gb191]? = some (.cells #[.int .i64 a2_0, .int .i64 a2_1] 23 (0, 0))) ∧ Fa (wc.heap[gb192]? = some (.cells #[.int .i64 0, .int .i64 0, (.slice none 0 0)] 26 (0, 0))) ∧ Fa (Below w.heap.size w wc))
 case first =>
  have H := HC4.out
  clear HC4
  replace H := Option.bind_eq_some_iff.mp H
  obtain ⟨t193, A80, H⟩ := H
  (try dsimp only at H)
  have A8 := Fa.mk A80
  clear A80
  by_cases c9 : t193 = true
  ·
   subst c9
   rw [if_pos rfl] at H
   replace H := Option.bind_eq_some_iff.mp H
   obtain ⟨t194, A100, H⟩ := H
   (try dsimp only at H)
   have A10 := Fa.mk A100
   clear A100
   have H' := Fa.mk H
   clear H
   have hnb11 := NB190_191.out
   have hnc11 := NB191_190.out
   have hnb12 := NB190_192.out
   have hnc12 := NB192_190.out
   have BK190 : Fa (w7.heap[gb190]? = some (.cells #[.int .i64 a1_0, .int .i64 a1_1, .slice A1_2 l1_2.length c1_2] 26 (0, 0))) := ⟨fa⟩
   have hcz13_0 := jcell BK190.out (i := 0) rfl
   have hcz13_1 := jcell BK190.out (i := 1) rfl
   have hcz13_2 := jcell BK190.out (i := 2) rfl
   have hfz13_0 := blk_frozen BK190.out 0
   have hfz13_1 := blk_frozen BK190.out 1
   have hfz13_2 := blk_frozen BK190.out 2
   go_wp2_with (first | ((with_reducible refine gate_callee (f := 17) rfl ?_); refine goesA (some 14) rfl rfl Tryz.func17 (by kernel_rfl) rfl #[.agg #[.int .i64 a1_0, .int .i64 a1_1, .slice A1_2 l1_2.length c1_2]] rfl ?_; (with_reducible refine (linear_Valid.calls k a1_0 a1_1 _ _ l1_2 true _ ?side1 ?side2 A8.out).mono ?_); (case side1 => repeat (first | exact (Kd.C_below HR1_2.out fa) | (with_reducible refine Kd.C_alloc ?_ _) | (with_reducible refine Kd.C_drewN ?_ _) | (with_reducible refine Kd.C_drew ?_))); (case side2 => exact HC1_2.out); rintro e w14 ⟨rfl, hb⟩; refine ⟨_, rfl, ?_⟩; have hS := Stp.mk hb; have BK191 := (⟨fa⟩ : Fa (w14.heap[gb191]? = some (.cells #[.int .i64 a2_0, .int .i64 a2_1] 23 (0, 0)))); clear hb; have hnb15 := NB191_192.out; have hnc15 := NB192_191.out; have hcz16_0 := jcell BK191.out (i := 0) rfl; have hcz16_1 := jcell BK191.out (i := 1) rfl; have hfz16_0 := blk_frozen BK191.out 0; have hfz16_1 := blk_frozen BK191.out 1) | (go_at_call 44; (with_reducible refine (num_Valid.calls k a2_0 a2_1 t194 _ A10.out).mono ?_); rintro e w17 ⟨rfl, hb⟩; have hS := Stp.mk hb; clear hb))
   go_meet
   case rel => exact ⟨_, (!t194), (by first | rfl | (simp; done) | (simp [*]; done)), H', ⟨by first | omega | exact Nat.le_refl _⟩, ⟨fa⟩, ⟨fa⟩, ⟨fa⟩, ⟨fa⟩⟩
  ·
   replace c9 := Bool.eq_false_iff.mpr c9
   subst c9
   rw [if_neg (show ¬ (false = true) by decide)] at H
   have H' := Fa.mk H
   clear H
   have hnb18 := NB190_191.out
   have hnc18 := NB191_190.out
   have hnb19 := NB190_192.out
   have hnc19 := NB192_190.out
   have BK190 : Fa (w7.heap[gb190]? = some (.cells #[.int .i64 a1_0, .int .i64 a1_1, .slice A1_2 l1_2.length c1_2] 26 (0, 0))) := ⟨fa⟩
   have hcz20_0 := jcell BK190.out (i := 0) rfl
   have hcz20_1 := jcell BK190.out (i := 1) rfl
   have hcz20_2 := jcell BK190.out (i := 2) rfl
   have hfz20_0 := blk_frozen BK190.out 0
   have hfz20_1 := blk_frozen BK190.out 1
   have hfz20_2 := blk_frozen BK190.out 2
   go_wp2_with (first | ((with_reducible refine gate_callee (f := 17) rfl ?_); refine goesA (some 14) rfl rfl Tryz.func17 (by kernel_rfl) rfl #[.agg #[.int .i64 a1_0, .int .i64 a1_1, .slice A1_2 l1_2.length c1_2]] rfl ?_; (with_reducible refine (linear_Valid.calls k a1_0 a1_1 _ _ l1_2 false _ ?side1 ?side2 A8.out).mono ?_); (case side1 => repeat (first | exact (Kd.C_below HR1_2.out fa) | (with_reducible refine Kd.C_alloc ?_ _) | (with_reducible refine Kd.C_drewN ?_ _) | (with_reducible refine Kd.C_drew ?_))); (case side2 => exact HC1_2.out); rintro e w21 ⟨rfl, hb⟩; refine ⟨_, rfl, ?_⟩; have hS := Stp.mk hb; clear hb))
   go_meet
   case rel => exact ⟨_, (true), (by first | rfl | (simp; done) | (simp [*]; done)), H', ⟨by first | omega | exact Nat.le_refl _⟩, ⟨fa⟩, ⟨fa⟩, ⟨fa⟩, ⟨fa⟩⟩
 case rest =>
  clear HC4
  (try clear c1);(try clear p2);(try clear c4);(try clear c9);(try clear c11);(try clear c12);(try clear c15);(try clear c17);(try clear c18);(try clear c19);(try clear hcz13_0);(try clear hcz13_1);(try clear hcz13_2);(try clear hcz16_0);(try clear hcz16_1);(try clear hcz20_0);(try clear hcz20_1);(try clear hcz20_2);(try clear hfz13_0);(try clear hfz13_1);(try clear hfz13_2);(try clear hfz16_0);(try clear hfz16_1);(try clear hfz20_0);(try clear hfz20_1);(try clear hfz20_2)
  obtain ⟨kq, x20_3, rfl, HA, HJ3, BK190, BK191, BK192, HB⟩ := hcut
  cases kq with
  | zero => exact absurd HA.out (by simp [linear_each.j0])
  | succ kj3 =>
   have H := HA.out
   clear HA
   simp only [linear_each.j0] at H
   by_cases c22 : x20_3 = true
   ·
    subst c22
    rw [if_pos rfl] at H
    simp only [Option.some.injEq, Prod.mk.injEq] at H
    obtain ⟨rfl, rfl, rfl, rfl⟩ := H
    have hnb23 := NB192_190.out
    have hnc23 := NB190_192.out
    have hnb24 := NB192_191.out
    have hnc24 := NB191_192.out
    have hcz25_0 := jcell BK192.out (i := 0) rfl
    have hcz25_1 := jcell BK192.out (i := 1) rfl
    have hcz25_2 := jcell BK192.out (i := 2) rfl
    have hfz25_0 := blk_frozen BK192.out 0
    have hfz25_1 := blk_frozen BK192.out 1
    have hfz25_2 := blk_frozen BK192.out 2
    go_wp2
    refine bodyPost_ret (results_ct rfl _ _ gb192 26 #[.int .i64 0, .int .i64 0, .slice none 0 0] (0, 0) _ rfl (by (with_reducible repeat (first | refine blk_drewN ?_ _ | refine blk_drew ?_ | refine blk_alloc ?_ _)); refine blk_put (cs := #[.int .i64 0, .int .i64 0, .slice none 0 0]) ?_ 2 _ rfl; (with_reducible repeat (first | refine blk_drewN ?_ _ | refine blk_drew ?_ | refine blk_alloc ?_ _)); refine blk_put (cs := #[.int .i64 0, .int .i64 0, .slice none 0 0]) ?_ 1 _ rfl; (with_reducible repeat (first | refine blk_drewN ?_ _ | refine blk_drew ?_ | refine blk_alloc ?_ _)); refine blk_put (cs := #[.int .i64 0, .int .i64 0, .slice none 0 0]) ?_ 0 _ rfl; (with_reducible repeat (first | refine blk_drewN ?_ _ | refine blk_drew ?_ | refine blk_alloc ?_ _)); exact fa) Tryz.underlying26 rfl (by kernel_rfl)) rfl ?_
    exact ⟨_, rfl, Kd.R_nil _ _ _ _ _, fa⟩
   ·
    replace c22 := Bool.eq_false_iff.mpr c22
    subst c22
    rw [if_neg (show ¬ (false = true) by decide)] at H
    replace H := Option.bind_eq_some_iff.mp H
    obtain ⟨⟨t195, t196, t197⟩, A260, H⟩ := H
    (try dsimp only at H)
    have A26 := Fa.mk A260
    clear A260
    by_cases c27 : t197 = 0
    ·
     rw [if_pos c27] at H
     have c27b0 : (t197 == 0) = true := beq_iff_eq.mpr c27
     have c27b1 : (t197 != 0) = false := bne_eq_false_iff_eq.mpr c27
     clear c27
     have H' := Fa.mk H
     clear H
     have hnb28 := NB190_191.out
     have hnc28 := NB191_190.out
     have hnb29 := NB190_192.out
     have hnc29 := NB192_190.out
     have hcz30_0 := jcell BK190.out (i := 0) rfl
     have hcz30_1 := jcell BK190.out (i := 1) rfl
     have hcz30_2 := jcell BK190.out (i := 2) rfl
     have hfz30_0 := blk_frozen BK190.out 0
     have hfz30_1 := blk_frozen BK190.out 1
     have hfz30_2 := blk_frozen BK190.out 2
     have hnb31 := NB191_192.out
     have hnc31 := NB192_191.out
     have hcz32_0 := jcell BK191.out (i := 0) rfl
     have hcz32_1 := jcell BK191.out (i := 1) rfl
     have hfz32_0 := blk_frozen BK191.out 0
     have hfz32_1 := blk_frozen BK191.out 1
     go_wp2_with (first | ((with_reducible refine gate_callee (f := 56) rfl ?_); refine goesA (some 27) rfl rfl Tryz.func56 (by kernel_rfl) rfl #[.string a0, .agg #[.int .i64 a1_0, .int .i64 a1_1], .agg #[.int .i64 a2_0, .int .i64 a2_1]] rfl ?_; (with_reducible refine (num_Near.calls kj3 a0 a1_0 a1_1 a2_0 a2_1 t195 t196 t197 _ A26.out).mono ?_); rintro e w33 ⟨rfl, hb⟩; refine ⟨_, rfl, ?_⟩; have hS := Stp.mk hb; clear hb) | ((with_reducible refine gate_dst (N := 8) rfl ?_); refine boxF (N := 8) (cs := #[.int .i64 0, .int .i64 0]) (t := 23) ?_; intro gb198 hg w34 hbox hb; have hS := Stp.mk hb; have BK198 := Fa.mk (hbox); have GW198 := Fa.mk (gle hg : w.heap.size ≤ gb198); have GE198 := GW198; have NB190_198 := Fa.mk (gne (o := .cells #[.int .i64 a1_0, .int .i64 a1_1, .slice A1_2 l1_2.length c1_2] 26 (0, 0)) hg : gb190 ≠ gb198); have NB198_190 := Fa.mk NB190_198.out.symm; have NB191_198 := Fa.mk (gne (o := .cells #[.int .i64 a2_0, .int .i64 a2_1] 23 (0, 0)) hg : gb191 ≠ gb198); have NB198_191 := Fa.mk NB191_198.out.symm; have NB192_198 := Fa.mk (gne (o := .cells #[.int .i64 0, .int .i64 0, .slice none 0 0] 26 (0, 0)) hg : gb192 ≠ gb198); have NB198_192 := Fa.mk NB192_198.out.symm; clear hb hbox hg; have hnb35 := NB198_190.out; have hnc35 := NB190_198.out; have hnb36 := NB198_191.out; have hnc36 := NB191_198.out; have hnb37 := NB198_192.out; have hnc37 := NB192_198.out; have hcz38_0 := jcell BK198.out (i := 0) rfl; have hcz38_1 := jcell BK198.out (i := 1) rfl; have hfz38_0 := blk_frozen BK198.out 0; have hfz38_1 := blk_frozen BK198.out 1) | ((with_reducible refine gate_dst (N := 10) rfl ?_); refine boxF (N := 10) (cs := #[.int .i64 0, .int .i64 0, .slice none 0 0]) (t := 26) ?_; intro gb199 hg w39 hbox hb; have hS := Stp.mk hb; have BK190 := (⟨fa⟩ : Fa (w39.heap[gb190]? = some (.cells #[.int .i64 a1_0, .int .i64 a1_1, .slice A1_2 l1_2.length c1_2] 26 (0, 0)))); have BK198 := Fa.mk (blk_below (g := gb198) (o := .cells #[.int .i64 t195, .int .i64 t196] 23 (0, 0)) (by (with_reducible repeat (first | refine blk_drewN ?_ _ | refine blk_drew ?_ | refine blk_alloc ?_ _)); refine blk_put (cs := #[.int .i64 t195, .int .i64 0]) ?_ 1 _ rfl; (with_reducible repeat (first | refine blk_drewN ?_ _ | refine blk_drew ?_ | refine blk_alloc ?_ _)); refine blk_put (cs := #[.int .i64 0, .int .i64 0]) ?_ 0 _ rfl; (with_reducible repeat (first | refine blk_drewN ?_ _ | refine blk_drew ?_ | refine blk_alloc ?_ _)); exact fa) hb); have BK199 := Fa.mk (hbox); have GW199 := Fa.mk (gle hg : w.heap.size ≤ gb199); have GE199 := GW199; have NB190_199 := Fa.mk ((by rw [hg]; exact Nat.ne_of_lt (blk_lt (g := gb190) (o := .cells #[.int .i64 a1_0, .int .i64 a1_1, .slice A1_2 l1_2.length c1_2] 26 (0, 0)) (by (with_reducible repeat (first | refine blk_drewN ?_ _ | refine blk_drew ?_ | refine blk_alloc ?_ _)); refine blk_far ?_ NB190_198.out _; (with_reducible repeat (first | refine blk_drewN ?_ _ | refine blk_drew ?_ | refine blk_alloc ?_ _)); refine blk_far ?_ NB190_198.out _; (with_reducible repeat (first | refine blk_drewN ?_ _ | refine blk_drew ?_ | refine blk_alloc ?_ _)); exact fa)) : gb190 ≠ gb199)); have NB199_190 := Fa.mk ((by rw [hg]; exact Nat.ne_of_gt (blk_lt (g := gb190) (o := .cells #[.int .i64 a1_0, .int .i64 a1_1, .slice A1_2 l1_2.length c1_2] 26 (0, 0)) (by (with_reducible repeat (first | refine blk_drewN ?_ _ | refine blk_drew ?_ | refine blk_alloc ?_ _)); refine blk_far ?_ NB190_198.out _; (with_reducible repeat (first | refine blk_drewN ?_ _ | refine blk_drew ?_ | refine blk_alloc ?_ _)); refine blk_far ?_ NB190_198.out _; (with_reducible repeat (first | refine blk_drewN ?_ _ | refine blk_drew ?_ | refine blk_alloc ?_ _)); exact fa)) : gb199 ≠ gb190)); have NB191_199 := Fa.mk ((by rw [hg]; exact Nat.ne_of_lt (blk_lt (g := gb191) (o := .cells #[.int .i64 a2_0, .int .i64 a2_1] 23 (0, 0)) (by (with_reducible repeat (first | refine blk_drewN ?_ _ | refine blk_drew ?_ | refine blk_alloc ?_ _)); refine blk_far ?_ NB191_198.out _; (with_reducible repeat (first | refine blk_drewN ?_ _ | refine blk_drew ?_ | refine blk_alloc ?_ _)); refine blk_far ?_ NB191_198.out _; (with_reducible repeat (first | refine blk_drewN ?_ _ | refine blk_drew ?_ | refine blk_alloc ?_ _)); exact fa)) : gb191 ≠ gb199)); have NB199_191 := Fa.mk ((by rw [hg]; exact Nat.ne_of_gt (blk_lt (g := gb191) (o := .cells #[.int .i64 a2_0, .int .i64 a2_1] 23 (0, 0)) (by (with_reducible repeat (first | refine blk_drewN ?_ _ | refine blk_drew ?_ | refine blk_alloc ?_ _)); refine blk_far ?_ NB191_198.out _; (with_reducible repeat (first | refine blk_drewN ?_ _ | refine blk_drew ?_ | refine blk_alloc ?_ _)); refine blk_far ?_ NB191_198.out _; (with_reducible repeat (first | refine blk_drewN ?_ _ | refine blk_drew ?_ | refine blk_alloc ?_ _)); exact fa)) : gb199 ≠ gb191)); have NB192_199 := Fa.mk ((by rw [hg]; exact Nat.ne_of_lt (blk_lt (g := gb192) (o := .cells #[.int .i64 0, .int .i64 0, .slice none 0 0] 26 (0, 0)) (by (with_reducible repeat (first | refine blk_drewN ?_ _ | refine blk_drew ?_ | refine blk_alloc ?_ _)); refine blk_far ?_ NB192_198.out _; (with_reducible repeat (first | refine blk_drewN ?_ _ | refine blk_drew ?_ | refine blk_alloc ?_ _)); refine blk_far ?_ NB192_198.out _; (with_reducible repeat (first | refine blk_drewN ?_ _ | refine blk_drew ?_ | refine blk_alloc ?_ _)); exact fa)) : gb192 ≠ gb199)); have NB199_192 := Fa.mk ((by rw [hg]; exact Nat.ne_of_gt (blk_lt (g := gb192) (o := .cells #[.int .i64 0, .int .i64 0, .slice none 0 0] 26 (0, 0)) (by (with_reducible repeat (first | refine blk_drewN ?_ _ | refine blk_drew ?_ | refine blk_alloc ?_ _)); refine blk_far ?_ NB192_198.out _; (with_reducible repeat (first | refine blk_drewN ?_ _ | refine blk_drew ?_ | refine blk_alloc ?_ _)); refine blk_far ?_ NB192_198.out _; (with_reducible repeat (first | refine blk_drewN ?_ _ | refine blk_drew ?_ | refine blk_alloc ?_ _)); exact fa)) : gb199 ≠ gb192)); have NB198_199 := Fa.mk ((by rw [hg]; exact Nat.ne_of_lt (blk_lt (g := gb198) (o := .cells #[.int .i64 t195, .int .i64 t196] 23 (0, 0)) (by (with_reducible repeat (first | refine blk_drewN ?_ _ | refine blk_drew ?_ | refine blk_alloc ?_ _)); refine blk_put (cs := #[.int .i64 t195, .int .i64 0]) ?_ 1 _ rfl; (with_reducible repeat (first | refine blk_drewN ?_ _ | refine blk_drew ?_ | refine blk_alloc ?_ _)); refine blk_put (cs := #[.int .i64 0, .int .i64 0]) ?_ 0 _ rfl; (with_reducible repeat (first | refine blk_drewN ?_ _ | refine blk_drew ?_ | refine blk_alloc ?_ _)); exact fa)) : gb198 ≠ gb199)); have NB199_198 := Fa.mk ((by rw [hg]; exact Nat.ne_of_gt (blk_lt (g := gb198) (o := .cells #[.int .i64 t195, .int .i64 t196] 23 (0, 0)) (by (with_reducible repeat (first | refine blk_drewN ?_ _ | refine blk_drew ?_ | refine blk_alloc ?_ _)); refine blk_put (cs := #[.int .i64 t195, .int .i64 0]) ?_ 1 _ rfl; (with_reducible repeat (first | refine blk_drewN ?_ _ | refine blk_drew ?_ | refine blk_alloc ?_ _)); refine blk_put (cs := #[.int .i64 0, .int .i64 0]) ?_ 0 _ rfl; (with_reducible repeat (first | refine blk_drewN ?_ _ | refine blk_drew ?_ | refine blk_alloc ?_ _)); exact fa)) : gb199 ≠ gb198)); clear hb hbox hg; have hnb40 := NB199_190.out; have hnc40 := NB190_199.out; have hnb41 := NB199_191.out; have hnc41 := NB191_199.out; have hnb42 := NB199_192.out; have hnc42 := NB192_199.out; have hnb43 := NB199_198.out; have hnc43 := NB198_199.out; have hcz44_0 := jcell BK199.out (i := 0) rfl; have hcz44_1 := jcell BK199.out (i := 1) rfl; have hcz44_2 := jcell BK199.out (i := 2) rfl; have hfz44_0 := blk_frozen BK199.out 0; have hfz44_1 := blk_frozen BK199.out 1; have hfz44_2 := blk_frozen BK199.out 2; have hcz45_0 := jcell BK190.out (i := 0) rfl; have hcz45_1 := jcell BK190.out (i := 1) rfl; have hcz45_2 := jcell BK190.out (i := 2) rfl; have hfz45_0 := blk_frozen BK190.out 0; have hfz45_1 := blk_frozen BK190.out 1; have hfz45_2 := blk_frozen BK190.out 2))
     go_loopg [39] kj3 (fun kq v39 w' => ∃ (x39_2 : Int) (x193000_2 : Int) (x193001_2 : Int) (x200002_2 : List (S47)) (u200002 : Value), v39 = .int .i64 x39_2 ∧ Fa (linear_each.l0 kq a0 l1_2 (l1_2.length : Int) x39_2 a2_0 a2_1 t195 t196 x200002_2 = some (r1, r2, r3, r4)) ∧ Fa (kq ≤ kj3) ∧ Fa (Kd.R k47 47 w' w.heap.size (fun _ => True) u200002 x200002_2) ∧ Fa (w'.heap[gb190]? = some (.cells #[.int .i64 a1_0, .int .i64 a1_1, (.slice A1_2 l1_2.length c1_2)] 26 (0, 0))) ∧ Fa (w'.heap[gb191]? = some (.cells #[.int .i64 a2_0, .int .i64 a2_1] 23 (0, 0))) ∧ Fa (w'.heap[gb192]? = some (.cells #[.int .i64 x193000_2, .int .i64 x193001_2, (.slice none 0 0)] 26 (0, 0))) ∧ Fa (w'.heap[gb198]? = some (.cells #[.int .i64 t195, .int .i64 t196] 23 (0, 0))) ∧ Fa (w'.heap[gb199]? = some (.cells #[.int .i64 t195, .int .i64 t196, u200002] 26 (0, 0))) ∧ Fa (Below w.heap.size w w'))
     case atStart => exact ⟨(0), (0), (0), (([] : List (S47))), (.slice none 0 0), (by first | rfl | (simp; done) | (simp [*]; done)), H', ⟨Nat.le_refl _⟩, ⟨Kd.R_nil _ _ _ _ _⟩, ⟨by (with_reducible repeat (first | refine blk_drewN ?_ _ | refine blk_drew ?_ | refine blk_alloc ?_ _)); refine blk_far ?_ NB190_199.out _; (with_reducible repeat (first | refine blk_drewN ?_ _ | refine blk_drew ?_ | refine blk_alloc ?_ _)); refine blk_far ?_ NB190_199.out _; (with_reducible repeat (first | refine blk_drewN ?_ _ | refine blk_drew ?_ | refine blk_alloc ?_ _)); refine blk_far ?_ NB190_199.out _; (with_reducible repeat (first | refine blk_drewN ?_ _ | refine blk_drew ?_ | refine blk_alloc ?_ _)); exact fa⟩, ⟨by (with_reducible repeat (first | refine blk_drewN ?_ _ | refine blk_drew ?_ | refine blk_alloc ?_ _)); refine blk_far ?_ NB191_199.out _; (with_reducible repeat (first | refine blk_drewN ?_ _ | refine blk_drew ?_ | refine blk_alloc ?_ _)); refine blk_far ?_ NB191_199.out _; (with_reducible repeat (first | refine blk_drewN ?_ _ | refine blk_drew ?_ | refine blk_alloc ?_ _)); refine blk_far ?_ NB191_199.out _; (with_reducible repeat (first | refine blk_drewN ?_ _ | refine blk_drew ?_ | refine blk_alloc ?_ _)); exact fa⟩, ⟨by (with_reducible repeat (first | refine blk_drewN ?_ _ | refine blk_drew ?_ | refine blk_alloc ?_ _)); refine blk_far ?_ NB192_199.out _; (with_reducible repeat (first | refine blk_drewN ?_ _ | refine blk_drew ?_ | refine blk_alloc ?_ _)); refine blk_far ?_ NB192_199.out _; (with_reducible repeat (first | refine blk_drewN ?_ _ | refine blk_drew ?_ | refine blk_alloc ?_ _)); refine blk_far ?_ NB192_199.out _; (with_reducible repeat (first | refine blk_drewN ?_ _ | refine blk_drew ?_ | refine blk_alloc ?_ _)); exact fa⟩, ⟨by (with_reducible repeat (first | refine blk_drewN ?_ _ | refine blk_drew ?_ | refine blk_alloc ?_ _)); refine blk_far ?_ NB198_199.out _; (with_reducible repeat (first | refine blk_drewN ?_ _ | refine blk_drew ?_ | refine blk_alloc ?_ _)); refine blk_far ?_ NB198_199.out _; (with_reducible repeat (first | refine blk_drewN ?_ _ | refine blk_drew ?_ | refine blk_alloc ?_ _)); refine blk_far ?_ NB198_199.out _; (with_reducible repeat (first | refine blk_drewN ?_ _ | refine blk_drew ?_ | refine blk_alloc ?_ _)); exact fa⟩, ⟨by (with_reducible repeat (first | refine blk_drewN ?_ _ | refine blk_drew ?_ | refine blk_alloc ?_ _)); refine blk_put (cs := #[.int .i64 t195, .int .i64 t196, .slice none 0 0]) ?_ 2 _ rfl; (with_reducible repeat (first | refine blk_drewN ?_ _ | refine blk_drew ?_ | refine blk_alloc ?_ _)); refine blk_put (cs := #[.int .i64 t195, .int .i64 0, .slice none 0 0]) ?_ 1 _ rfl; (with_reducible repeat (first | refine blk_drewN ?_ _ | refine blk_drew ?_ | refine blk_alloc ?_ _)); refine blk_put (cs := #[.int .i64 0, .int .i64 0, .slice none 0 0]) ?_ 0 _ rfl; (with_reducible repeat (first | refine blk_drewN ?_ _ | refine blk_drew ?_ | refine blk_alloc ?_ _)); exact fa⟩, ⟨fa⟩⟩
     case round =>
      clear H'
      (try clear c1);(try clear c2);(try clear p2);(try clear c3);(try clear c4);(try clear c5);(try clear c9);(try clear c11);(try clear c12);(try clear c15);(try clear c17);(try clear c18);(try clear c19);(try clear c22);(try clear c23);(try clear c24);(try clear c27);(try clear c27b0);(try clear c27b1);(try clear c28);(try clear c29);(try clear c31);(try clear c35);(try clear c36);(try clear c37);(try clear c40);(try clear c41);(try clear c42);(try clear c43);(try clear hcz13_0);(try clear hcz13_1);(try clear hcz13_2);(try clear hcz16_0);(try clear hcz16_1);(try clear hcz20_0);(try clear hcz20_1);(try clear hcz20_2);(try clear hcz25_0);(try clear hcz25_1);(try clear hcz25_2);(try clear hcz30_0);(try clear hcz30_1);(try clear hcz30_2);(try clear hcz32_0);(try clear hcz32_1);(try clear hcz38_0);(try clear hcz38_1);(try clear hcz44_0);(try clear hcz44_1);(try clear hcz44_2);(try clear hcz45_0);(try clear hcz45_1);(try clear hcz45_2);(try clear hfz13_0);(try clear hfz13_1);(try clear hfz13_2);(try clear hfz16_0);(try clear hfz16_1);(try clear hfz20_0);(try clear hfz20_1);(try clear hfz20_2);(try clear hfz25_0);(try clear hfz25_1);(try clear hfz25_2);(try clear hfz30_0);(try clear hfz30_1);(try clear hfz30_2);(try clear hfz32_0);(try clear hfz32_1);(try clear hfz38_0);(try clear hfz38_1);(try clear hfz44_0);(try clear hfz44_1);(try clear hfz44_2);(try clear hfz45_0);(try clear hfz45_1);(try clear hfz45_2);(try clear p2)
      obtain ⟨x39_2, x193000_2, x193001_2, x200002_2, u200002, rfl, HA, HK2, HO_200002, BK190, BK191, BK192, BK198, BK199, HB⟩ := hrel
      cases gk with
      | zero => exact absurd HA.out (by simp [linear_each.l0])
      | succ k2 =>
       have H := HA.out
       clear HA
       simp only [linear_each.l0] at H
       by_cases c46 : x39_2 < (l1_2.length : Int)
       ·
        rw [if_pos c46] at H
        have c46b0 : decide (x39_2 < (l1_2.length : Int)) = true := decide_eq_true c46
        clear c46
        by_cases c47 : 0 ≤ x39_2
        ·
         rw [if_pos c47] at H
         have c47b0 : decide (0 ≤ x39_2) = true := decide_eq_true c47
         clear c47
         by_cases c48 : x39_2 < (l1_2.length : Int)
         ·
          rw [if_pos c48] at H
          have c48b0 : decide (x39_2 < (l1_2.length : Int)) = true := decide_eq_true c48
          clear c48
          replace H := Option.bind_eq_some_iff.mp H
          obtain ⟨⟨t202, t203, t204⟩, A490, H⟩ := H
          (try dsimp only at H)
          have A49 := Fa.mk A490
          clear A490
          by_cases c50 : t204 = 0
          ·
           rw [if_pos c50] at H
           have c50b0 : (t204 == 0) = true := beq_iff_eq.mpr c50
           have c50b1 : (t204 != 0) = false := bne_eq_false_iff_eq.mpr c50
           clear c50
           by_cases c51 : t202 = 0
           ·
            rw [if_pos c51] at H
            have c51b0 : (t202 == 0) = true := beq_iff_eq.mpr c51
            have c51b1 : (t202 != 0) = false := bne_eq_false_iff_eq.mpr c51
            clear c51
            have H' := Fa.mk H
            clear H
            have p200 : 0 ≤ (x39_2 : Int) := of_decide_eq_true (by first | (with_reducible assumption) | assumption)
            have q200 : x39_2 < (l1_2.length : Int) := of_decide_eq_true (by first | (with_reducible assumption) | assumption)
            obtain ⟨ad200, e200, hx200_0, hx200_1, hx200_2⟩ := at_T47 HR1_2.out x39_2 p200 q200
            cases e200
            replace hx200_0 := (HB.out.cell (World.block_lt_of_cell? w _ hx200_0)).trans hx200_0
            replace hx200_1 := (HB.out.cell (World.block_lt_of_cell? w _ hx200_1)).trans hx200_1
            replace hx200_2 := (HB.out.cell (World.block_lt_of_cell? w _ hx200_2)).trans hx200_2
            replace p200 := eq_true p200
            replace q200 := eq_true q200
            go_wp2_with (first | ((with_reducible refine gate_dst (N := 12) rfl ?_); refine boxF (N := 12) (cs := #[.string (⟨#[]⟩ : ByteArray), .int .i64 0, .int .i64 0]) (t := 47) ?_; intro gb201 hg w52 hbox hb; have hS := Stp.mk hb; have HO_200002 := Fa.mk (Kd.R_below (Kd.R_elderB (by (with_reducible repeat (first | apply Kd.R_alloc | apply Kd.R_drewN | apply Kd.R_drew)); exact HO_200002.out) gb201 (Nat.le_of_eq hg.symm)) hb); have BK191 := (⟨fa⟩ : Fa (w52.heap[gb191]? = some (.cells #[.int .i64 a2_0, .int .i64 a2_1] 23 (0, 0)))); have BK201 := Fa.mk (hbox); have GW201 := Fa.mk (gle hg : w.heap.size ≤ gb201); have GE201 := GW201; have NB190_201 := Fa.mk (gne (o := .cells #[.int .i64 a1_0, .int .i64 a1_1, .slice (some ad200) l1_2.length c1_2] 26 (0, 0)) hg : gb190 ≠ gb201); have NB201_190 := Fa.mk NB190_201.out.symm; have NB191_201 := Fa.mk (gne (o := .cells #[.int .i64 a2_0, .int .i64 a2_1] 23 (0, 0)) hg : gb191 ≠ gb201); have NB201_191 := Fa.mk NB191_201.out.symm; have NB192_201 := Fa.mk (gne (o := .cells #[.int .i64 x193000_2, .int .i64 x193001_2, .slice none 0 0] 26 (0, 0)) hg : gb192 ≠ gb201); have NB201_192 := Fa.mk NB192_201.out.symm; have NB198_201 := Fa.mk (gne (o := .cells #[.int .i64 t195, .int .i64 t196] 23 (0, 0)) hg : gb198 ≠ gb201); have NB201_198 := Fa.mk NB198_201.out.symm; have NB199_201 := Fa.mk (gne (o := .cells #[.int .i64 t195, .int .i64 t196, u200002] 26 (0, 0)) hg : gb199 ≠ gb201); have NB201_199 := Fa.mk NB199_201.out.symm; clear hb hbox hg; have hnb53 := NB201_190.out; have hnc53 := NB190_201.out; have hnb54 := NB201_191.out; have hnc54 := NB191_201.out; have hnb55 := NB201_192.out; have hnc55 := NB192_201.out; have hnb56 := NB201_198.out; have hnc56 := NB198_201.out; have hnb57 := NB201_199.out; have hnc57 := NB199_201.out; have hcz58_0 := jcell BK201.out (i := 0) rfl; have hcz58_1 := jcell BK201.out (i := 1) rfl; have hcz58_2 := jcell BK201.out (i := 2) rfl; have hfz58_0 := blk_frozen BK201.out 0; have hfz58_1 := blk_frozen BK201.out 1; have hfz58_2 := blk_frozen BK201.out 2; have hnb59 := NB191_190.out; have hnc59 := NB190_191.out; have hnb60 := NB191_192.out; have hnc60 := NB192_191.out; have hnb61 := NB191_198.out; have hnc61 := NB198_191.out; have hnb62 := NB191_199.out; have hnc62 := NB199_191.out; have hcz63_0 := jcell BK191.out (i := 0) rfl; have hcz63_1 := jcell BK191.out (i := 1) rfl; have hfz63_0 := blk_frozen BK191.out 0; have hfz63_1 := blk_frozen BK191.out 1) | ((with_reducible refine gate_callee (f := 56) rfl ?_); refine goesA (some 48) rfl rfl Tryz.func56 (by kernel_rfl) rfl #[.string a0, .agg #[.int .i64 ((rd_T47 l1_2 x39_2).f1.f0), .int .i64 ((rd_T47 l1_2 x39_2).f1.f1)], .agg #[.int .i64 a2_0, .int .i64 a2_1]] rfl ?_; (with_reducible refine (num_Near.calls k2 a0 ((rd_T47 l1_2 x39_2).f1.f0) ((rd_T47 l1_2 x39_2).f1.f1) a2_0 a2_1 t202 t203 t204 _ A49.out).mono ?_); rintro e w64 ⟨rfl, hb⟩; refine ⟨_, rfl, ?_⟩; have hS := Stp.mk hb; have HO_200002 := Fa.mk (Kd.R_below (by (with_reducible repeat (first | apply Kd.R_alloc | apply Kd.R_drewN | apply Kd.R_drew)); exact (Kd.R_mono (Kd.R_far (p := ⟨gb201, 2, none⟩) (Kd.R_far (p := ⟨gb201, 1, none⟩) (Kd.R_far (p := ⟨gb201, 0, none⟩) (Kd.R_mono HO_200002.out (fun k_ hk => (⟨hk, hk.2⟩ : _ ∧ k_ ≠ gb201))) (fun _ hk => hk.2) (.string ((rd_T47 l1_2 x39_2).f0))) (fun _ hk => hk.2) (.int .i64 ((rd_T47 l1_2 x39_2).f1.f0))) (fun _ hk => hk.2) (.int .i64 ((rd_T47 l1_2 x39_2).f1.f1))) (fun _ h_ => h_.1))) hb); have BK201 := Fa.mk (blk_below (g := gb201) (o := .cells #[.string ((rd_T47 l1_2 x39_2).f0), .int .i64 ((rd_T47 l1_2 x39_2).f1.f0), .int .i64 ((rd_T47 l1_2 x39_2).f1.f1)] 47 (0, 0)) (by (with_reducible repeat (first | refine blk_drewN ?_ _ | refine blk_drew ?_ | refine blk_alloc ?_ _)); refine blk_put (cs := #[.string ((rd_T47 l1_2 x39_2).f0), .int .i64 ((rd_T47 l1_2 x39_2).f1.f0), .int .i64 0]) ?_ 2 _ rfl; (with_reducible repeat (first | refine blk_drewN ?_ _ | refine blk_drew ?_ | refine blk_alloc ?_ _)); refine blk_put (cs := #[.string ((rd_T47 l1_2 x39_2).f0), .int .i64 0, .int .i64 0]) ?_ 1 _ rfl; (with_reducible repeat (first | refine blk_drewN ?_ _ | refine blk_drew ?_ | refine blk_alloc ?_ _)); refine blk_put (cs := #[.string (⟨#[]⟩ : ByteArray), .int .i64 0, .int .i64 0]) ?_ 0 _ rfl; (with_reducible repeat (first | refine blk_drewN ?_ _ | refine blk_drew ?_ | refine blk_alloc ?_ _)); exact fa) hb); clear hb; have hcz65_0 : w64.cell? ⟨gb201, 0, none⟩ = some (.string ((rd_T47 l1_2 x39_2).f0)) := (blk_cell BK201.out 0).trans rfl; have hcz65_1 : w64.cell? ⟨gb201, 1, none⟩ = some (.int .i64 ((rd_T47 l1_2 x39_2).f1.f0)) := (blk_cell BK201.out 1).trans rfl; have hcz65_2 : w64.cell? ⟨gb201, 2, none⟩ = some (.int .i64 ((rd_T47 l1_2 x39_2).f1.f1)) := (blk_cell BK201.out 2).trans rfl; have hfz65_0 := blk_frozen BK201.out 0; have hfz65_1 := blk_frozen BK201.out 1; have hfz65_2 := blk_frozen BK201.out 2))
            go_roundg k2
            case measure => have := HJ3.out; have := HK2.out; omega
            case rel => exact ⟨(wrap64 (x39_2 + 1)), (x193000_2), (x193001_2), (x200002_2), (u200002), (by first | rfl | (simp; done) | (simp [*]; done)), H', ⟨by have := HJ3.out; have := HK2.out; omega⟩, ⟨by (with_reducible repeat (first | apply Kd.R_alloc | apply Kd.R_drewN | apply Kd.R_drew)); exact Kd.R_mono (Kd.R_far (p := ⟨gb201, 2, none⟩) (Kd.R_far (p := ⟨gb201, 1, none⟩) (Kd.R_mono HO_200002.out (fun k_ hk => (⟨hk, hk.2⟩ : _ ∧ k_ ≠ gb201))) (fun _ hk => hk.2) (.int .i64 t202)) (fun _ hk => hk.2) (.int .i64 t203)) (fun _ hk => trivial)⟩, ⟨by (with_reducible repeat (first | refine blk_drewN ?_ _ | refine blk_drew ?_ | refine blk_alloc ?_ _)); refine blk_far ?_ NB190_201.out _; (with_reducible repeat (first | refine blk_drewN ?_ _ | refine blk_drew ?_ | refine blk_alloc ?_ _)); refine blk_far ?_ NB190_201.out _; (with_reducible repeat (first | refine blk_drewN ?_ _ | refine blk_drew ?_ | refine blk_alloc ?_ _)); exact fa⟩, ⟨by (with_reducible repeat (first | refine blk_drewN ?_ _ | refine blk_drew ?_ | refine blk_alloc ?_ _)); refine blk_far ?_ NB191_201.out _; (with_reducible repeat (first | refine blk_drewN ?_ _ | refine blk_drew ?_ | refine blk_alloc ?_ _)); refine blk_far ?_ NB191_201.out _; (with_reducible repeat (first | refine blk_drewN ?_ _ | refine blk_drew ?_ | refine blk_alloc ?_ _)); exact fa⟩, ⟨by (with_reducible repeat (first | refine blk_drewN ?_ _ | refine blk_drew ?_ | refine blk_alloc ?_ _)); refine blk_far ?_ NB192_201.out _; (with_reducible repeat (first | refine blk_drewN ?_ _ | refine blk_drew ?_ | refine blk_alloc ?_ _)); refine blk_far ?_ NB192_201.out _; (with_reducible repeat (first | refine blk_drewN ?_ _ | refine blk_drew ?_ | refine blk_alloc ?_ _)); exact fa⟩, ⟨by (with_reducible repeat (first | refine blk_drewN ?_ _ | refine blk_drew ?_ | refine blk_alloc ?_ _)); refine blk_far ?_ NB198_201.out _; (with_reducible repeat (first | refine blk_drewN ?_ _ | refine blk_drew ?_ | refine blk_alloc ?_ _)); refine blk_far ?_ NB198_201.out _; (with_reducible repeat (first | refine blk_drewN ?_ _ | refine blk_drew ?_ | refine blk_alloc ?_ _)); exact fa⟩, ⟨by (with_reducible repeat (first | refine blk_drewN ?_ _ | refine blk_drew ?_ | refine blk_alloc ?_ _)); refine blk_far ?_ NB199_201.out _; (with_reducible repeat (first | refine blk_drewN ?_ _ | refine blk_drew ?_ | refine blk_alloc ?_ _)); refine blk_far ?_ NB199_201.out _; (with_reducible repeat (first | refine blk_drewN ?_ _ | refine blk_drew ?_ | refine blk_alloc ?_ _)); exact fa⟩, ⟨fa⟩⟩
           ·
            rw [if_neg c51] at H
            have c51b0 : (t202 == 0) = false := beq_eq_false_iff_ne.mpr c51
            have c51b1 : (t202 != 0) = true := bne_iff_ne.mpr c51
            by_cases c66 : x200002_2.length < 4398046511104
            ·
             rw [if_pos c66] at H
             have LMc66 := Fa.mk c66
             clear c66
             obtain ⟨y205, hy205⟩ : ∃ y_ : List (S47), y_ = (x200002_2 ++ [(⟨(rd_T47 l1_2 x39_2).f0, (⟨t202, t203⟩ : S23)⟩ : S47)]) := ⟨_, rfl⟩
             replace H : (linear_each.l0 k2 a0 l1_2 (l1_2.length : Int) (wrap64 (x39_2 + 1)) a2_0 a2_1 t195 t196 y205) = some (r1, r2, r3, r4) := by first | (rw [hy205]; with_reducible exact H) | (have H2_ := (Option.bind_some _ _).symm.trans H; rw [hy205]; with_reducible exact H2_) | (have H2_ := (Option.bind_some _ _).symm.trans H; with_reducible exact H2_) | with_reducible exact H | (rw [hy205]; exact H) | exact H
             have Ny205 := Fa.mk hy205
             clear hy205
             have H' := Fa.mk H
             clear H
             have p200 : 0 ≤ (x39_2 : Int) := of_decide_eq_true (by first | (with_reducible assumption) | assumption)
             have q200 : x39_2 < (l1_2.length : Int) := of_decide_eq_true (by first | (with_reducible assumption) | assumption)
             obtain ⟨ad200, e200, hx200_0, hx200_1, hx200_2⟩ := at_T47 HR1_2.out x39_2 p200 q200
             cases e200
             replace hx200_0 := (HB.out.cell (World.block_lt_of_cell? w _ hx200_0)).trans hx200_0
             replace hx200_1 := (HB.out.cell (World.block_lt_of_cell? w _ hx200_1)).trans hx200_1
             replace hx200_2 := (HB.out.cell (World.block_lt_of_cell? w _ hx200_2)).trans hx200_2
             replace p200 := eq_true p200
             replace q200 := eq_true q200
             go_wp2_with (first | ((with_reducible refine gate_dst (N := 12) rfl ?_); refine boxF (N := 12) (cs := #[.string (⟨#[]⟩ : ByteArray), .int .i64 0, .int .i64 0]) (t := 47) ?_; intro gb201 hg w67 hbox hb; have hS := Stp.mk hb; have HO_200002 := Fa.mk (Kd.R_below (Kd.R_elderB (by (with_reducible repeat (first | apply Kd.R_alloc | apply Kd.R_drewN | apply Kd.R_drew)); exact HO_200002.out) gb201 (Nat.le_of_eq hg.symm)) hb); have BK191 := (⟨fa⟩ : Fa (w67.heap[gb191]? = some (.cells #[.int .i64 a2_0, .int .i64 a2_1] 23 (0, 0)))); have BK201 := Fa.mk (hbox); have GW201 := Fa.mk (gle hg : w.heap.size ≤ gb201); have GE201 := GW201; have NB190_201 := Fa.mk (gne (o := .cells #[.int .i64 a1_0, .int .i64 a1_1, .slice (some ad200) l1_2.length c1_2] 26 (0, 0)) hg : gb190 ≠ gb201); have NB201_190 := Fa.mk NB190_201.out.symm; have NB191_201 := Fa.mk (gne (o := .cells #[.int .i64 a2_0, .int .i64 a2_1] 23 (0, 0)) hg : gb191 ≠ gb201); have NB201_191 := Fa.mk NB191_201.out.symm; have NB192_201 := Fa.mk (gne (o := .cells #[.int .i64 x193000_2, .int .i64 x193001_2, .slice none 0 0] 26 (0, 0)) hg : gb192 ≠ gb201); have NB201_192 := Fa.mk NB192_201.out.symm; have NB198_201 := Fa.mk (gne (o := .cells #[.int .i64 t195, .int .i64 t196] 23 (0, 0)) hg : gb198 ≠ gb201); have NB201_198 := Fa.mk NB198_201.out.symm; have NB199_201 := Fa.mk (gne (o := .cells #[.int .i64 t195, .int .i64 t196, u200002] 26 (0, 0)) hg : gb199 ≠ gb201); have NB201_199 := Fa.mk NB199_201.out.symm; clear hb hbox hg; have hnb68 := NB201_190.out; have hnc68 := NB190_201.out; have hnb69 := NB201_191.out; have hnc69 := NB191_201.out; have hnb70 := NB201_192.out; have hnc70 := NB192_201.out; have hnb71 := NB201_198.out; have hnc71 := NB198_201.out; have hnb72 := NB201_199.out; have hnc72 := NB199_201.out; have hcz73_0 := jcell BK201.out (i := 0) rfl; have hcz73_1 := jcell BK201.out (i := 1) rfl; have hcz73_2 := jcell BK201.out (i := 2) rfl; have hfz73_0 := blk_frozen BK201.out 0; have hfz73_1 := blk_frozen BK201.out 1; have hfz73_2 := blk_frozen BK201.out 2; have hnb74 := NB191_190.out; have hnc74 := NB190_191.out; have hnb75 := NB191_192.out; have hnc75 := NB192_191.out; have hnb76 := NB191_198.out; have hnc76 := NB198_191.out; have hnb77 := NB191_199.out; have hnc77 := NB199_191.out; have hcz78_0 := jcell BK191.out (i := 0) rfl; have hcz78_1 := jcell BK191.out (i := 1) rfl; have hfz78_0 := blk_frozen BK191.out 0; have hfz78_1 := blk_frozen BK191.out 1) | ((with_reducible refine gate_callee (f := 56) rfl ?_); refine goesA (some 48) rfl rfl Tryz.func56 (by kernel_rfl) rfl #[.string a0, .agg #[.int .i64 ((rd_T47 l1_2 x39_2).f1.f0), .int .i64 ((rd_T47 l1_2 x39_2).f1.f1)], .agg #[.int .i64 a2_0, .int .i64 a2_1]] rfl ?_; (with_reducible refine (num_Near.calls k2 a0 ((rd_T47 l1_2 x39_2).f1.f0) ((rd_T47 l1_2 x39_2).f1.f1) a2_0 a2_1 t202 t203 t204 _ A49.out).mono ?_); rintro e w79 ⟨rfl, hb⟩; refine ⟨_, rfl, ?_⟩; have hS := Stp.mk hb; have HO_200002 := Fa.mk (Kd.R_below (by (with_reducible repeat (first | apply Kd.R_alloc | apply Kd.R_drewN | apply Kd.R_drew)); exact (Kd.R_mono (Kd.R_far (p := ⟨gb201, 2, none⟩) (Kd.R_far (p := ⟨gb201, 1, none⟩) (Kd.R_far (p := ⟨gb201, 0, none⟩) (Kd.R_mono HO_200002.out (fun k_ hk => (⟨hk, hk.2⟩ : _ ∧ k_ ≠ gb201))) (fun _ hk => hk.2) (.string ((rd_T47 l1_2 x39_2).f0))) (fun _ hk => hk.2) (.int .i64 ((rd_T47 l1_2 x39_2).f1.f0))) (fun _ hk => hk.2) (.int .i64 ((rd_T47 l1_2 x39_2).f1.f1))) (fun _ h_ => h_.1))) hb); have BK199 := (⟨fa⟩ : Fa (w79.heap[gb199]? = some (.cells #[.int .i64 t195, .int .i64 t196, u200002] 26 (0, 0)))); have BK201 := Fa.mk (blk_below (g := gb201) (o := .cells #[.string ((rd_T47 l1_2 x39_2).f0), .int .i64 ((rd_T47 l1_2 x39_2).f1.f0), .int .i64 ((rd_T47 l1_2 x39_2).f1.f1)] 47 (0, 0)) (by (with_reducible repeat (first | refine blk_drewN ?_ _ | refine blk_drew ?_ | refine blk_alloc ?_ _)); refine blk_put (cs := #[.string ((rd_T47 l1_2 x39_2).f0), .int .i64 ((rd_T47 l1_2 x39_2).f1.f0), .int .i64 0]) ?_ 2 _ rfl; (with_reducible repeat (first | refine blk_drewN ?_ _ | refine blk_drew ?_ | refine blk_alloc ?_ _)); refine blk_put (cs := #[.string ((rd_T47 l1_2 x39_2).f0), .int .i64 0, .int .i64 0]) ?_ 1 _ rfl; (with_reducible repeat (first | refine blk_drewN ?_ _ | refine blk_drew ?_ | refine blk_alloc ?_ _)); refine blk_put (cs := #[.string (⟨#[]⟩ : ByteArray), .int .i64 0, .int .i64 0]) ?_ 0 _ rfl; (with_reducible repeat (first | refine blk_drewN ?_ _ | refine blk_drew ?_ | refine blk_alloc ?_ _)); exact fa) hb); clear hb; have hcz80_0 : w79.cell? ⟨gb201, 0, none⟩ = some (.string ((rd_T47 l1_2 x39_2).f0)) := (blk_cell BK201.out 0).trans rfl; have hcz80_1 : w79.cell? ⟨gb201, 1, none⟩ = some (.int .i64 ((rd_T47 l1_2 x39_2).f1.f0)) := (blk_cell BK201.out 1).trans rfl; have hcz80_2 : w79.cell? ⟨gb201, 2, none⟩ = some (.int .i64 ((rd_T47 l1_2 x39_2).f1.f1)) := (blk_cell BK201.out 2).trans rfl; have hfz80_0 := blk_frozen BK201.out 0; have hfz80_1 := blk_frozen BK201.out 1; have hfz80_2 := blk_frozen BK201.out 2; have hnb81 := NB199_190.out; have hnc81 := NB190_199.out; have hnb82 := NB199_192.out; have hnc82 := NB192_199.out; have hnb83 := NB199_198.out; have hnc83 := NB198_199.out; have hcz84_0 := jcell BK199.out (i := 0) rfl; have hcz84_1 := jcell BK199.out (i := 1) rfl; have hcz84_2 := jcell BK199.out (i := 2) rfl; have hfz84_0 := blk_frozen BK199.out 0; have hfz84_1 := blk_frozen BK199.out 1; have hfz84_2 := blk_frozen BK199.out 2) | ((with_reducible refine gate_builtin (b := .append) (xs := #[.tmp 61, .tmp 63]) rfl ?_); have BK190 := (⟨fa⟩ : Fa (w79.heap[gb190]? = some (.cells #[.int .i64 a1_0, .int .i64 a1_1, .slice (some ad200) l1_2.length c1_2] 26 (0, 0)))); have BK191 := (⟨fa⟩ : Fa (w79.heap[gb191]? = some (.cells #[.int .i64 a2_0, .int .i64 a2_1] 23 (0, 0)))); have BK192 := (⟨fa⟩ : Fa (w79.heap[gb192]? = some (.cells #[.int .i64 x193000_2, .int .i64 x193001_2, .slice none 0 0] 26 (0, 0)))); have BK198 := (⟨fa⟩ : Fa (w79.heap[gb198]? = some (.cells #[.int .i64 t195, .int .i64 t196] 23 (0, 0)))); at_builtin; refine Kd.R_append k47 (w0 := w) w.heap.size rfl (.tmp 61) (.tmp 63) 24 47 (.agg #[(.string ⟨#[]⟩), (.int .i64 0), (.int .i64 0)]) 32 rfl Tryz.underlying24 info47 rfl (by decide) (by omega) u200002 x200002_2 (⟨(rd_T47 l1_2 x39_2).f0, (⟨t202, t203⟩ : S23)⟩ : S47) [.string ((rd_T47 l1_2 x39_2).f0), .int .i64 t202, .int .i64 t203] (fun k_ => k_ ≠ gb201) (fun _ => False) rfl (by first | (go_simp; done) | (go_simp; rfl)) ?aP (fun _ hk => hk.elim) ?aF ?aO ?aB ?aS ?aL ?_; (case aP => exact k47_mkM _ _ _ (⟨(rd_T47 l1_2 x39_2).f0, (⟨t202, t203⟩ : S23)⟩ : S47)); (case aB => exact fa); (case aF => exact (fun k_ hk => Kd.freshB (g := gb201) (o := .cells #[.string ((rd_T47 l1_2 x39_2).f0), .int .i64 t202, .int .i64 t203] 47 (0, 0)) (by (with_reducible repeat (first | refine blk_drewN ?_ _ | refine blk_drew ?_ | refine blk_alloc ?_ _)); refine blk_put (cs := #[.string ((rd_T47 l1_2 x39_2).f0), .int .i64 t202, .int .i64 ((rd_T47 l1_2 x39_2).f1.f1)]) ?_ 2 _ rfl; (with_reducible repeat (first | refine blk_drewN ?_ _ | refine blk_drew ?_ | refine blk_alloc ?_ _)); refine blk_put (cs := #[.string ((rd_T47 l1_2 x39_2).f0), .int .i64 ((rd_T47 l1_2 x39_2).f1.f0), .int .i64 ((rd_T47 l1_2 x39_2).f1.f1)]) ?_ 1 _ rfl; (with_reducible repeat (first | refine blk_drewN ?_ _ | refine blk_drew ?_ | refine blk_alloc ?_ _)); exact BK201.out) k_ hk)); (case aO => exact (by (with_reducible repeat (first | apply Kd.R_alloc | apply Kd.R_drewN | apply Kd.R_drew)); exact Kd.R_mono (Kd.R_far (p := ⟨gb201, 2, none⟩) (Kd.R_far (p := ⟨gb201, 1, none⟩) (Kd.R_mono HO_200002.out (fun k_ hk => (⟨hk, hk.2⟩ : _ ∧ k_ ≠ gb201))) (fun _ hk => hk.2) (.int .i64 t202)) (fun _ hk => hk.2) (.int .i64 t203)) (fun _ hk => hk.1.2))); (case aS => exact (bsz w)); (case aL => have := LMc66.out; omega); intro v206 w85 ho hb hg hat; rw [← Ny205.out] at ho; have n0_ := Fa.mk (blk_grown (g := gb190) (o := .cells #[.int .i64 a1_0, .int .i64 a1_1, .slice (some ad200) l1_2.length c1_2] 26 (0, 0)) (by (with_reducible repeat (first | refine blk_drewN ?_ _ | refine blk_drew ?_ | refine blk_alloc ?_ _)); refine blk_far ?_ NB190_201.out _; (with_reducible repeat (first | refine blk_drewN ?_ _ | refine blk_drew ?_ | refine blk_alloc ?_ _)); refine blk_far ?_ NB190_201.out _; (with_reducible repeat (first | refine blk_drewN ?_ _ | refine blk_drew ?_ | refine blk_alloc ?_ _)); exact BK190.out) hg (Kd.R_ne HO_200002.out BK190.out (by decide))); have n1_ := Fa.mk (blk_grown (g := gb191) (o := .cells #[.int .i64 a2_0, .int .i64 a2_1] 23 (0, 0)) (by (with_reducible repeat (first | refine blk_drewN ?_ _ | refine blk_drew ?_ | refine blk_alloc ?_ _)); refine blk_far ?_ NB191_201.out _; (with_reducible repeat (first | refine blk_drewN ?_ _ | refine blk_drew ?_ | refine blk_alloc ?_ _)); refine blk_far ?_ NB191_201.out _; (with_reducible repeat (first | refine blk_drewN ?_ _ | refine blk_drew ?_ | refine blk_alloc ?_ _)); exact BK191.out) hg (Kd.R_ne HO_200002.out BK191.out (by decide))); have n2_ := Fa.mk (blk_grown (g := gb192) (o := .cells #[.int .i64 x193000_2, .int .i64 x193001_2, .slice none 0 0] 26 (0, 0)) (by (with_reducible repeat (first | refine blk_drewN ?_ _ | refine blk_drew ?_ | refine blk_alloc ?_ _)); refine blk_far ?_ NB192_201.out _; (with_reducible repeat (first | refine blk_drewN ?_ _ | refine blk_drew ?_ | refine blk_alloc ?_ _)); refine blk_far ?_ NB192_201.out _; (with_reducible repeat (first | refine blk_drewN ?_ _ | refine blk_drew ?_ | refine blk_alloc ?_ _)); exact BK192.out) hg (Kd.R_ne HO_200002.out BK192.out (by decide))); have n3_ := Fa.mk (blk_grown (g := gb198) (o := .cells #[.int .i64 t195, .int .i64 t196] 23 (0, 0)) (by (with_reducible repeat (first | refine blk_drewN ?_ _ | refine blk_drew ?_ | refine blk_alloc ?_ _)); refine blk_far ?_ NB198_201.out _; (with_reducible repeat (first | refine blk_drewN ?_ _ | refine blk_drew ?_ | refine blk_alloc ?_ _)); refine blk_far ?_ NB198_201.out _; (with_reducible repeat (first | refine blk_drewN ?_ _ | refine blk_drew ?_ | refine blk_alloc ?_ _)); exact BK198.out) hg (Kd.R_ne HO_200002.out BK198.out (by decide))); have n4_ := Fa.mk (blk_grown (g := gb199) (o := .cells #[.int .i64 t195, .int .i64 t196, u200002] 26 (0, 0)) (by (with_reducible repeat (first | refine blk_drewN ?_ _ | refine blk_drew ?_ | refine blk_alloc ?_ _)); refine blk_far ?_ NB199_201.out _; (with_reducible repeat (first | refine blk_drewN ?_ _ | refine blk_drew ?_ | refine blk_alloc ?_ _)); refine blk_far ?_ NB199_201.out _; (with_reducible repeat (first | refine blk_drewN ?_ _ | refine blk_drew ?_ | refine blk_alloc ?_ _)); exact BK199.out) hg (Kd.R_ne HO_200002.out BK199.out (by decide))); have n5_ := Fa.mk (blk_grown (g := gb201) (o := .cells #[.string ((rd_T47 l1_2 x39_2).f0), .int .i64 t202, .int .i64 t203] 47 (0, 0)) (by (with_reducible repeat (first | refine blk_drewN ?_ _ | refine blk_drew ?_ | refine blk_alloc ?_ _)); refine blk_put (cs := #[.string ((rd_T47 l1_2 x39_2).f0), .int .i64 t202, .int .i64 ((rd_T47 l1_2 x39_2).f1.f1)]) ?_ 2 _ rfl; (with_reducible repeat (first | refine blk_drewN ?_ _ | refine blk_drew ?_ | refine blk_alloc ?_ _)); refine blk_put (cs := #[.string ((rd_T47 l1_2 x39_2).f0), .int .i64 ((rd_T47 l1_2 x39_2).f1.f0), .int .i64 ((rd_T47 l1_2 x39_2).f1.f1)]) ?_ 1 _ rfl; (with_reducible repeat (first | refine blk_drewN ?_ _ | refine blk_drew ?_ | refine blk_alloc ?_ _)); exact BK201.out) hg (Kd.R_away HO_200002.out (fun _ hk => hk.2))); have n6_ := Fa.mk (hb); have n7_ := Fa.mk (ho); clear BK190; clear BK191; clear BK192; clear BK198; clear BK199; clear BK201; clear HB; clear HO_200002; have BK190 := n0_; have BK191 := n1_; have BK192 := n2_; have BK198 := n3_; have BK199 := n4_; have BK201 := n5_; have HB := n6_; have HO207 := n7_; clear n0_ n1_ n2_ n3_ n4_ n5_ n6_ n7_; clear ho hb hg hat; obtain ⟨Ao86, co86, eo86⟩ := Kd.R_slice HO207.out; subst eo86; have hcz87_0 := jcell BK199.out (i := 0) rfl; have hcz87_1 := jcell BK199.out (i := 1) rfl; have hcz87_2 := jcell BK199.out (i := 2) rfl; have hfz87_0 := blk_frozen BK199.out 0; have hfz87_1 := blk_frozen BK199.out 1; have hfz87_2 := blk_frozen BK199.out 2))
             go_roundg k2
             case measure => have := HJ3.out; have := HK2.out; omega
             case rel => exact ⟨(wrap64 (x39_2 + 1)), (x193000_2), (x193001_2), (y205), (.slice Ao86 y205.length co86), (by first | rfl | (simp; done) | (simp [*]; done)), H', ⟨by have := HJ3.out; have := HK2.out; omega⟩, ⟨by (with_reducible repeat (first | apply Kd.R_alloc | apply Kd.R_drewN | apply Kd.R_drew)); exact Kd.R_mono (Kd.R_far (p := ⟨gb199, 2, none⟩) (Kd.R_types HO207.out BK199.out (by decide)) (fun _ hk => hk.2) (.slice Ao86 y205.length co86)) (fun _ hk => trivial)⟩, ⟨by (with_reducible repeat (first | refine blk_drewN ?_ _ | refine blk_drew ?_ | refine blk_alloc ?_ _)); refine blk_far ?_ NB190_199.out _; (with_reducible repeat (first | refine blk_drewN ?_ _ | refine blk_drew ?_ | refine blk_alloc ?_ _)); exact fa⟩, ⟨by (with_reducible repeat (first | refine blk_drewN ?_ _ | refine blk_drew ?_ | refine blk_alloc ?_ _)); refine blk_far ?_ NB191_199.out _; (with_reducible repeat (first | refine blk_drewN ?_ _ | refine blk_drew ?_ | refine blk_alloc ?_ _)); exact fa⟩, ⟨by (with_reducible repeat (first | refine blk_drewN ?_ _ | refine blk_drew ?_ | refine blk_alloc ?_ _)); refine blk_far ?_ NB192_199.out _; (with_reducible repeat (first | refine blk_drewN ?_ _ | refine blk_drew ?_ | refine blk_alloc ?_ _)); exact fa⟩, ⟨by (with_reducible repeat (first | refine blk_drewN ?_ _ | refine blk_drew ?_ | refine blk_alloc ?_ _)); refine blk_far ?_ NB198_199.out _; (with_reducible repeat (first | refine blk_drewN ?_ _ | refine blk_drew ?_ | refine blk_alloc ?_ _)); exact fa⟩, ⟨by (with_reducible repeat (first | refine blk_drewN ?_ _ | refine blk_drew ?_ | refine blk_alloc ?_ _)); refine blk_put (cs := #[.int .i64 t195, .int .i64 t196, u200002]) ?_ 2 _ rfl; (with_reducible repeat (first | refine blk_drewN ?_ _ | refine blk_drew ?_ | refine blk_alloc ?_ _)); exact fa⟩, ⟨fa⟩⟩
            ·
             rw [if_neg c66] at H
             exact absurd H (by simp)
          ·
           rw [if_neg c50] at H
           have c50b0 : (t204 == 0) = false := beq_eq_false_iff_ne.mpr c50
           have c50b1 : (t204 != 0) = true := bne_iff_ne.mpr c50
           simp only [Option.some.injEq, Prod.mk.injEq] at H
           obtain ⟨rfl, rfl, rfl, rfl⟩ := H
           have p200 : 0 ≤ (x39_2 : Int) := of_decide_eq_true (by first | (with_reducible assumption) | assumption)
           have q200 : x39_2 < (l1_2.length : Int) := of_decide_eq_true (by first | (with_reducible assumption) | assumption)
           obtain ⟨ad200, e200, hx200_0, hx200_1, hx200_2⟩ := at_T47 HR1_2.out x39_2 p200 q200
           cases e200
           replace hx200_0 := (HB.out.cell (World.block_lt_of_cell? w _ hx200_0)).trans hx200_0
           replace hx200_1 := (HB.out.cell (World.block_lt_of_cell? w _ hx200_1)).trans hx200_1
           replace hx200_2 := (HB.out.cell (World.block_lt_of_cell? w _ hx200_2)).trans hx200_2
           replace p200 := eq_true p200
           replace q200 := eq_true q200
           go_wp2_with (first | ((with_reducible refine gate_dst (N := 12) rfl ?_); refine boxF (N := 12) (cs := #[.string (⟨#[]⟩ : ByteArray), .int .i64 0, .int .i64 0]) (t := 47) ?_; intro gb201 hg w88 hbox hb; have hS := Stp.mk hb; have HO_200002 := Fa.mk (Kd.R_below (Kd.R_elderB (by (with_reducible repeat (first | apply Kd.R_alloc | apply Kd.R_drewN | apply Kd.R_drew)); exact HO_200002.out) gb201 (Nat.le_of_eq hg.symm)) hb); have BK191 := (⟨fa⟩ : Fa (w88.heap[gb191]? = some (.cells #[.int .i64 a2_0, .int .i64 a2_1] 23 (0, 0)))); have BK201 := Fa.mk (hbox); have GW201 := Fa.mk (gle hg : w.heap.size ≤ gb201); have GE201 := GW201; have NB190_201 := Fa.mk (gne (o := .cells #[.int .i64 a1_0, .int .i64 a1_1, .slice (some ad200) l1_2.length c1_2] 26 (0, 0)) hg : gb190 ≠ gb201); have NB201_190 := Fa.mk NB190_201.out.symm; have NB191_201 := Fa.mk (gne (o := .cells #[.int .i64 a2_0, .int .i64 a2_1] 23 (0, 0)) hg : gb191 ≠ gb201); have NB201_191 := Fa.mk NB191_201.out.symm; have NB192_201 := Fa.mk (gne (o := .cells #[.int .i64 x193000_2, .int .i64 x193001_2, .slice none 0 0] 26 (0, 0)) hg : gb192 ≠ gb201); have NB201_192 := Fa.mk NB192_201.out.symm; have NB198_201 := Fa.mk (gne (o := .cells #[.int .i64 t195, .int .i64 t196] 23 (0, 0)) hg : gb198 ≠ gb201); have NB201_198 := Fa.mk NB198_201.out.symm; have NB199_201 := Fa.mk (gne (o := .cells #[.int .i64 t195, .int .i64 t196, u200002] 26 (0, 0)) hg : gb199 ≠ gb201); have NB201_199 := Fa.mk NB199_201.out.symm; clear hb hbox hg; have hnb89 := NB201_190.out; have hnc89 := NB190_201.out; have hnb90 := NB201_191.out; have hnc90 := NB191_201.out; have hnb91 := NB201_192.out; have hnc91 := NB192_201.out; have hnb92 := NB201_198.out; have hnc92 := NB198_201.out; have hnb93 := NB201_199.out; have hnc93 := NB199_201.out; have hcz94_0 := jcell BK201.out (i := 0) rfl; have hcz94_1 := jcell BK201.out (i := 1) rfl; have hcz94_2 := jcell BK201.out (i := 2) rfl; have hfz94_0 := blk_frozen BK201.out 0; have hfz94_1 := blk_frozen BK201.out 1; have hfz94_2 := blk_frozen BK201.out 2; have hnb95 := NB191_190.out; have hnc95 := NB190_191.out; have hnb96 := NB191_192.out; have hnc96 := NB192_191.out; have hnb97 := NB191_198.out; have hnc97 := NB198_191.out; have hnb98 := NB191_199.out; have hnc98 := NB199_191.out; have hcz99_0 := jcell BK191.out (i := 0) rfl; have hcz99_1 := jcell BK191.out (i := 1) rfl; have hfz99_0 := blk_frozen BK191.out 0; have hfz99_1 := blk_frozen BK191.out 1) | ((with_reducible refine gate_callee (f := 56) rfl ?_); refine goesA (some 48) rfl rfl Tryz.func56 (by kernel_rfl) rfl #[.string a0, .agg #[.int .i64 ((rd_T47 l1_2 x39_2).f1.f0), .int .i64 ((rd_T47 l1_2 x39_2).f1.f1)], .agg #[.int .i64 a2_0, .int .i64 a2_1]] rfl ?_; (with_reducible refine (num_Near.calls k2 a0 ((rd_T47 l1_2 x39_2).f1.f0) ((rd_T47 l1_2 x39_2).f1.f1) a2_0 a2_1 t202 t203 t204 _ A49.out).mono ?_); rintro e w100 ⟨rfl, hb⟩; refine ⟨_, rfl, ?_⟩; have hS := Stp.mk hb; have HO_200002 := Fa.mk (Kd.R_below (by (with_reducible repeat (first | apply Kd.R_alloc | apply Kd.R_drewN | apply Kd.R_drew)); exact (Kd.R_mono (Kd.R_far (p := ⟨gb201, 2, none⟩) (Kd.R_far (p := ⟨gb201, 1, none⟩) (Kd.R_far (p := ⟨gb201, 0, none⟩) (Kd.R_mono HO_200002.out (fun k_ hk => (⟨hk, hk.2⟩ : _ ∧ k_ ≠ gb201))) (fun _ hk => hk.2) (.string ((rd_T47 l1_2 x39_2).f0))) (fun _ hk => hk.2) (.int .i64 ((rd_T47 l1_2 x39_2).f1.f0))) (fun _ hk => hk.2) (.int .i64 ((rd_T47 l1_2 x39_2).f1.f1))) (fun _ h_ => h_.1))) hb); have BK192 := (⟨fa⟩ : Fa (w100.heap[gb192]? = some (.cells #[.int .i64 x193000_2, .int .i64 x193001_2, .slice none 0 0] 26 (0, 0)))); have BK201 := Fa.mk (blk_below (g := gb201) (o := .cells #[.string ((rd_T47 l1_2 x39_2).f0), .int .i64 ((rd_T47 l1_2 x39_2).f1.f0), .int .i64 ((rd_T47 l1_2 x39_2).f1.f1)] 47 (0, 0)) (by (with_reducible repeat (first | refine blk_drewN ?_ _ | refine blk_drew ?_ | refine blk_alloc ?_ _)); refine blk_put (cs := #[.string ((rd_T47 l1_2 x39_2).f0), .int .i64 ((rd_T47 l1_2 x39_2).f1.f0), .int .i64 0]) ?_ 2 _ rfl; (with_reducible repeat (first | refine blk_drewN ?_ _ | refine blk_drew ?_ | refine blk_alloc ?_ _)); refine blk_put (cs := #[.string ((rd_T47 l1_2 x39_2).f0), .int .i64 0, .int .i64 0]) ?_ 1 _ rfl; (with_reducible repeat (first | refine blk_drewN ?_ _ | refine blk_drew ?_ | refine blk_alloc ?_ _)); refine blk_put (cs := #[.string (⟨#[]⟩ : ByteArray), .int .i64 0, .int .i64 0]) ?_ 0 _ rfl; (with_reducible repeat (first | refine blk_drewN ?_ _ | refine blk_drew ?_ | refine blk_alloc ?_ _)); exact fa) hb); clear hb; have hcz101_0 : w100.cell? ⟨gb201, 0, none⟩ = some (.string ((rd_T47 l1_2 x39_2).f0)) := (blk_cell BK201.out 0).trans rfl; have hcz101_1 : w100.cell? ⟨gb201, 1, none⟩ = some (.int .i64 ((rd_T47 l1_2 x39_2).f1.f0)) := (blk_cell BK201.out 1).trans rfl; have hcz101_2 : w100.cell? ⟨gb201, 2, none⟩ = some (.int .i64 ((rd_T47 l1_2 x39_2).f1.f1)) := (blk_cell BK201.out 2).trans rfl; have hfz101_0 := blk_frozen BK201.out 0; have hfz101_1 := blk_frozen BK201.out 1; have hfz101_2 := blk_frozen BK201.out 2; have hnb102 := NB192_190.out; have hnc102 := NB190_192.out; have hnb103 := NB192_198.out; have hnc103 := NB198_192.out; have hnb104 := NB192_199.out; have hnc104 := NB199_192.out; have hcz105_0 := jcell BK192.out (i := 0) rfl; have hcz105_1 := jcell BK192.out (i := 1) rfl; have hcz105_2 := jcell BK192.out (i := 2) rfl; have hfz105_0 := blk_frozen BK192.out 0; have hfz105_1 := blk_frozen BK192.out 1; have hfz105_2 := blk_frozen BK192.out 2))
           refine bodyPost_ret (results_ct rfl _ _ gb192 26 #[.int .i64 0, .int .i64 0, .slice none 0 0] (0, 0) _ rfl (by (with_reducible repeat (first | refine blk_drewN ?_ _ | refine blk_drew ?_ | refine blk_alloc ?_ _)); refine blk_put (cs := #[.int .i64 0, .int .i64 0, .slice none 0 0]) ?_ 2 _ rfl; (with_reducible repeat (first | refine blk_drewN ?_ _ | refine blk_drew ?_ | refine blk_alloc ?_ _)); refine blk_put (cs := #[.int .i64 0, .int .i64 x193001_2, .slice none 0 0]) ?_ 1 _ rfl; (with_reducible repeat (first | refine blk_drewN ?_ _ | refine blk_drew ?_ | refine blk_alloc ?_ _)); refine blk_put (cs := #[.int .i64 x193000_2, .int .i64 x193001_2, .slice none 0 0]) ?_ 0 _ rfl; (with_reducible repeat (first | refine blk_drewN ?_ _ | refine blk_drew ?_ | refine blk_alloc ?_ _)); refine blk_far ?_ NB192_201.out _; (with_reducible repeat (first | refine blk_drewN ?_ _ | refine blk_drew ?_ | refine blk_alloc ?_ _)); refine blk_far ?_ NB192_201.out _; (with_reducible repeat (first | refine blk_drewN ?_ _ | refine blk_drew ?_ | refine blk_alloc ?_ _)); exact fa) Tryz.underlying26 rfl (by kernel_rfl)) rfl ?_
           exact ⟨_, rfl, Kd.R_nil _ _ _ _ _, fa⟩
         ·
          rw [if_neg c48] at H
          exact absurd H (by simp)
        ·
         rw [if_neg c47] at H
         exact absurd H (by simp)
       ·
        rw [if_neg c46] at H
        have c46b0 : decide (x39_2 < (l1_2.length : Int)) = false := decide_eq_false c46
        clear c46
        simp only [Option.some.injEq, Prod.mk.injEq] at H
        obtain ⟨rfl, rfl, rfl, rfl⟩ := H
        have hnb106 := NB199_190.out
        have hnc106 := NB190_199.out
        have hnb107 := NB199_191.out
        have hnc107 := NB191_199.out
        have hnb108 := NB199_192.out
        have hnc108 := NB192_199.out
        have hnb109 := NB199_198.out
        have hnc109 := NB198_199.out
        have hcz110_0 := jcell BK199.out (i := 0) rfl
        have hcz110_1 := jcell BK199.out (i := 1) rfl
        have hcz110_2 := jcell BK199.out (i := 2) rfl
        have hfz110_0 := blk_frozen BK199.out 0
        have hfz110_1 := blk_frozen BK199.out 1
        have hfz110_2 := blk_frozen BK199.out 2
        have hnb111 := NB192_190.out
        have hnc111 := NB190_192.out
        have hnb112 := NB192_191.out
        have hnc112 := NB191_192.out
        have hnb113 := NB192_198.out
        have hnc113 := NB198_192.out
        have hcz114_0 := jcell BK192.out (i := 0) rfl
        have hcz114_1 := jcell BK192.out (i := 1) rfl
        have hcz114_2 := jcell BK192.out (i := 2) rfl
        have hfz114_0 := blk_frozen BK192.out 0
        have hfz114_1 := blk_frozen BK192.out 1
        have hfz114_2 := blk_frozen BK192.out 2
        obtain ⟨Ao115, co115, eo115⟩ := Kd.R_slice HO_200002.out
        subst eo115
        go_wp2
        refine bodyPost_ret (results_ct rfl _ _ gb192 26 #[.int .i64 t195, .int .i64 t196, .slice Ao115 x200002_2.length co115] (0, 0) _ rfl (by (with_reducible repeat (first | refine blk_drewN ?_ _ | refine blk_drew ?_ | refine blk_alloc ?_ _)); refine blk_put (cs := #[.int .i64 t195, .int .i64 t196, .slice none 0 0]) ?_ 2 _ rfl; (with_reducible repeat (first | refine blk_drewN ?_ _ | refine blk_drew ?_ | refine blk_alloc ?_ _)); refine blk_put (cs := #[.int .i64 t195, .int .i64 x193001_2, .slice none 0 0]) ?_ 1 _ rfl; (with_reducible repeat (first | refine blk_drewN ?_ _ | refine blk_drew ?_ | refine blk_alloc ?_ _)); refine blk_put (cs := #[.int .i64 x193000_2, .int .i64 x193001_2, .slice none 0 0]) ?_ 0 _ rfl; (with_reducible repeat (first | refine blk_drewN ?_ _ | refine blk_drew ?_ | refine blk_alloc ?_ _)); exact fa) Tryz.underlying26 rfl (by kernel_rfl)) rfl ?_
        exact ⟨_, rfl, by (with_reducible repeat (first | apply Kd.R_alloc | apply Kd.R_drewN | apply Kd.R_drew)); exact Kd.R_mono (Kd.R_far (p := ⟨gb192, 2, none⟩) (Kd.R_far (p := ⟨gb192, 1, none⟩) (Kd.R_far (p := ⟨gb192, 0, none⟩) (Kd.R_types HO_200002.out BK192.out (by decide)) (fun _ hk => hk.2) (.int .i64 t195)) (fun _ hk => hk.2) (.int .i64 t196)) (fun _ hk => hk.2) (.slice Ao115 x200002_2.length co115)) (fun _ hk => trivial), fa⟩
    ·
     rw [if_neg c27] at H
     have c27b0 : (t197 == 0) = false := beq_eq_false_iff_ne.mpr c27
     have c27b1 : (t197 != 0) = true := bne_iff_ne.mpr c27
     simp only [Option.some.injEq, Prod.mk.injEq] at H
     obtain ⟨rfl, rfl, rfl, rfl⟩ := H
     have hnb116 := NB190_191.out
     have hnc116 := NB191_190.out
     have hnb117 := NB190_192.out
     have hnc117 := NB192_190.out
     have hcz118_0 := jcell BK190.out (i := 0) rfl
     have hcz118_1 := jcell BK190.out (i := 1) rfl
     have hcz118_2 := jcell BK190.out (i := 2) rfl
     have hfz118_0 := blk_frozen BK190.out 0
     have hfz118_1 := blk_frozen BK190.out 1
     have hfz118_2 := blk_frozen BK190.out 2
     have hnb119 := NB191_192.out
     have hnc119 := NB192_191.out
     have hcz120_0 := jcell BK191.out (i := 0) rfl
     have hcz120_1 := jcell BK191.out (i := 1) rfl
     have hfz120_0 := blk_frozen BK191.out 0
     have hfz120_1 := blk_frozen BK191.out 1
     go_wp2_with (first | ((with_reducible refine gate_callee (f := 56) rfl ?_); refine goesA (some 27) rfl rfl Tryz.func56 (by kernel_rfl) rfl #[.string a0, .agg #[.int .i64 a1_0, .int .i64 a1_1], .agg #[.int .i64 a2_0, .int .i64 a2_1]] rfl ?_; (with_reducible refine (num_Near.calls kj3 a0 a1_0 a1_1 a2_0 a2_1 t195 t196 t197 _ A26.out).mono ?_); rintro e w121 ⟨rfl, hb⟩; refine ⟨_, rfl, ?_⟩; have hS := Stp.mk hb; clear hb) | ((with_reducible refine gate_dst (N := 8) rfl ?_); refine boxF (N := 8) (cs := #[.int .i64 0, .int .i64 0]) (t := 23) ?_; intro gb198 hg w122 hbox hb; have hS := Stp.mk hb; have BK192 := (⟨fa⟩ : Fa (w122.heap[gb192]? = some (.cells #[.int .i64 0, .int .i64 0, .slice none 0 0] 26 (0, 0)))); have BK198 := Fa.mk (hbox); have GW198 := Fa.mk (gle hg : w.heap.size ≤ gb198); have GE198 := GW198; have NB190_198 := Fa.mk (gne (o := .cells #[.int .i64 a1_0, .int .i64 a1_1, .slice A1_2 l1_2.length c1_2] 26 (0, 0)) hg : gb190 ≠ gb198); have NB198_190 := Fa.mk NB190_198.out.symm; have NB191_198 := Fa.mk (gne (o := .cells #[.int .i64 a2_0, .int .i64 a2_1] 23 (0, 0)) hg : gb191 ≠ gb198); have NB198_191 := Fa.mk NB191_198.out.symm; have NB192_198 := Fa.mk (gne (o := .cells #[.int .i64 0, .int .i64 0, .slice none 0 0] 26 (0, 0)) hg : gb192 ≠ gb198); have NB198_192 := Fa.mk NB192_198.out.symm; clear hb hbox hg; have hnb123 := NB198_190.out; have hnc123 := NB190_198.out; have hnb124 := NB198_191.out; have hnc124 := NB191_198.out; have hnb125 := NB198_192.out; have hnc125 := NB192_198.out; have hcz126_0 := jcell BK198.out (i := 0) rfl; have hcz126_1 := jcell BK198.out (i := 1) rfl; have hfz126_0 := blk_frozen BK198.out 0; have hfz126_1 := blk_frozen BK198.out 1; have hcz127_0 := jcell BK192.out (i := 0) rfl; have hcz127_1 := jcell BK192.out (i := 1) rfl; have hcz127_2 := jcell BK192.out (i := 2) rfl; have hfz127_0 := blk_frozen BK192.out 0; have hfz127_1 := blk_frozen BK192.out 1; have hfz127_2 := blk_frozen BK192.out 2))
     refine bodyPost_ret (results_ct rfl _ _ gb192 26 #[.int .i64 0, .int .i64 0, .slice none 0 0] (0, 0) _ rfl (by (with_reducible repeat (first | refine blk_drewN ?_ _ | refine blk_drew ?_ | refine blk_alloc ?_ _)); refine blk_put (cs := #[.int .i64 0, .int .i64 0, .slice none 0 0]) ?_ 2 _ rfl; (with_reducible repeat (first | refine blk_drewN ?_ _ | refine blk_drew ?_ | refine blk_alloc ?_ _)); refine blk_put (cs := #[.int .i64 0, .int .i64 0, .slice none 0 0]) ?_ 1 _ rfl; (with_reducible repeat (first | refine blk_drewN ?_ _ | refine blk_drew ?_ | refine blk_alloc ?_ _)); refine blk_put (cs := #[.int .i64 0, .int .i64 0, .slice none 0 0]) ?_ 0 _ rfl; (with_reducible repeat (first | refine blk_drewN ?_ _ | refine blk_drew ?_ | refine blk_alloc ?_ _)); refine blk_far ?_ NB192_198.out _; (with_reducible repeat (first | refine blk_drewN ?_ _ | refine blk_drew ?_ | refine blk_alloc ?_ _)); refine blk_far ?_ NB192_198.out _; (with_reducible repeat (first | refine blk_drewN ?_ _ | refine blk_drew ?_ | refine blk_alloc ?_ _)); exact fa) Tryz.underlying26 rfl (by kernel_rfl)) rfl ?_
     exact ⟨_, rfl, Kd.R_nil _ _ _ _ _, fa⟩
def linear_Times.f (k : Nat) (a0_0 : Int) (a0_1 : Int) (l0_2 : List (S47)) (a1_0 : Int) (a1_1 : Int) : Option (Int × Int × (List (S47)) × Int) := (linear_each.f k (⟨#[42]⟩ : ByteArray) a0_0 a0_1 l0_2 a1_0 a1_1).bind fun bt211 => (some (bt211.1, bt211.2.1, bt211.2.2.1, bt211.2.2.2))
theorem linear_Times.mono : ∀ a0 a1 a2 a3 a4 k, LeO (linear_Times.f k a0 a1 a2 a3 a4) (linear_Times.f (k + 1) a0 a1 a2 a3 a4) := by
  intro a0 a1 a2 a3 a4 k
  unfold linear_Times.f
  repeat' first
      | (with_reducible exact linear_each.mono _ _ _ _ _ _ _)
      | (with_reducible exact LeO.refl _)
      | (with_reducible exact LeO.none _)
      | (with_reducible refine LeO.ite ?_ ?_)
      | (with_reducible refine LeO.bind ?_ (fun _ => ?_))
      | exact linear_each.mono _ _ _ _ _ _ _
      | exact LeO.none _
      | refine LeO.ite ?_ ?_
      | refine LeO.bind ?_ (fun _ => ?_)
set_option maxHeartbeats 8000000 in
set_option maxRecDepth 100000 in
theorem linear_Times.calls (k : Nat) (a0_0 : Int) (a0_1 : Int) (A0_2 : Option Addr) (c0_2 : Nat) (l0_2 : List (S47)) (a1_0 : Int) (a1_1 : Int) (r1 : Int) (r2 : Int) (r3 : List (S47)) (r4 : Int) (w : World) (hr0_2 : Kd.C k47 w A0_2 l0_2.length l0_2) (hc0_2 : l0_2.length ≤ c0_2) (h : linear_Times.f k a0_0 a0_1 l0_2 a1_0 a1_1 = some (r1, r2, r3, r4)) :
  Calls Tryz.prog 20 #[.agg #[.int .i64 a0_0, .int .i64 a0_1, .slice A0_2 l0_2.length c0_2], .agg #[.int .i64 a1_0, .int .i64 a1_1]] w fun e w' => ∃ v2_ : Value, e = .returned (.tuple #[.agg #[.int .i64 r1, .int .i64 r2, v2_], .int .i64 r4]) ∧ Kd.R k47 47 w' w.heap.size (fun _ => True) v2_ r3 ∧ Below w.heap.size w w' := by
 have hu26 := Tryz.underlying26
 have hu23 := Tryz.underlying23
 have HR0_2 := Fa.mk hr0_2
 have HC0_2 := Fa.mk hc0_2
 clear hr0_2 hc0_2
 have HB := Fa.mk (Below.refl w.heap.size w)
 have H : ((linear_each.f k (⟨#[42]⟩ : ByteArray) a0_0 a0_1 l0_2 a1_0 a1_1).bind fun bt211 => (some (bt211.1, bt211.2.1, bt211.2.2.1, bt211.2.2.2))) = some (r1, r2, r3, r4) := h
 clear h
 replace H := Option.bind_eq_some_iff.mp H
 obtain ⟨⟨t211, t212, t213, t216⟩, A30, H⟩ := H
 (try dsimp only at H)
 have A3 := Fa.mk A30
 clear A30
 simp only [Option.some.injEq, Prod.mk.injEq] at H
 obtain ⟨rfl, rfl, rfl, rfl⟩ := H
 go_enter Tryz.func20, Tryz.ntmps20
 go_wp2_with (first | ((with_reducible refine gate_dst (N := 2) rfl ?_); refine boxF (N := 2) (cs := #[.int .i64 a0_0, .int .i64 a0_1, .slice A0_2 l0_2.length c0_2]) (t := 26) ?_; intro gb208 hg w4 hbox hb; have hS := Stp.mk hb; have BK208 := Fa.mk (hbox); have GW208 := Fa.mk (gle hg : w.heap.size ≤ gb208); have GE208 := GW208; clear hb hbox hg) | ((with_reducible refine gate_dst (N := 3) rfl ?_); refine boxF (N := 3) (cs := #[.int .i64 a1_0, .int .i64 a1_1]) (t := 23) ?_; intro gb209 hg w5 hbox hb; have hS := Stp.mk hb; have BK209 := Fa.mk (hbox); have GW209 := Fa.mk (gle hg : w.heap.size ≤ gb209); have GE209 := GW209; have NB208_209 := Fa.mk (gne (o := .cells #[.int .i64 a0_0, .int .i64 a0_1, .slice A0_2 l0_2.length c0_2] 26 (0, 0)) hg : gb208 ≠ gb209); have NB209_208 := Fa.mk NB208_209.out.symm; clear hb hbox hg) | ((with_reducible refine gate_dst (N := 4) rfl ?_); refine boxF (N := 4) (cs := #[.int .i64 0, .int .i64 0, .slice none 0 0]) (t := 26) ?_; intro gb210 hg w6 hbox hb; have hS := Stp.mk hb; have BK208 := (⟨fa⟩ : Fa (w6.heap[gb208]? = some (.cells #[.int .i64 a0_0, .int .i64 a0_1, .slice A0_2 l0_2.length c0_2] 26 (0, 0)))); have BK209 := (⟨fa⟩ : Fa (w6.heap[gb209]? = some (.cells #[.int .i64 a1_0, .int .i64 a1_1] 23 (0, 0)))); have BK210 := Fa.mk (hbox); have GW210 := Fa.mk (gle hg : w.heap.size ≤ gb210); have GE210 := GW210; have NB208_210 := Fa.mk (gne (o := .cells #[.int .i64 a0_0, .int .i64 a0_1, .slice A0_2 l0_2.length c0_2] 26 (0, 0)) hg : gb208 ≠ gb210); have NB210_208 := Fa.mk NB208_210.out.symm; have NB209_210 := Fa.mk (gne (o := .cells #[.int .i64 a1_0, .int .i64 a1_1] 23 (0, 0)) hg : gb209 ≠ gb210); have NB210_209 := Fa.mk NB209_210.out.symm; clear hb hbox hg; have hnb7 := NB208_209.out; have hnc7 := NB209_208.out; have hnb8 := NB208_210.out; have hnc8 := NB210_208.out; have hcz9_0 := jcell BK208.out (i := 0) rfl; have hcz9_1 := jcell BK208.out (i := 1) rfl; have hcz9_2 := jcell BK208.out (i := 2) rfl; have hfz9_0 := blk_frozen BK208.out 0; have hfz9_1 := blk_frozen BK208.out 1; have hfz9_2 := blk_frozen BK208.out 2; have hnb10 := NB209_210.out; have hnc10 := NB210_209.out; have hcz11_0 := jcell BK209.out (i := 0) rfl; have hcz11_1 := jcell BK209.out (i := 1) rfl; have hfz11_0 := blk_frozen BK209.out 0; have hfz11_1 := blk_frozen BK209.out 1) | ((with_reducible refine gate_callee (f := 49) rfl ?_); refine goesA (some 8) rfl rfl Tryz.func49 (by kernel_rfl) rfl #[.string (⟨#[42]⟩ : ByteArray), .agg #[.int .i64 a0_0, .int .i64 a0_1, .slice A0_2 l0_2.length c0_2], .agg #[.int .i64 a1_0, .int .i64 a1_1]] rfl ?_; (with_reducible refine (linear_each.calls k (⟨#[42]⟩ : ByteArray) a0_0 a0_1 _ _ l0_2 a1_0 a1_1 t211 t212 t213 t216 _ ?side1 ?side2 A3.out).mono ?_); (case side1 => repeat (first | exact (Kd.C_below HR0_2.out fa) | (with_reducible refine Kd.C_alloc ?_ _) | (with_reducible refine Kd.C_drewN ?_ _) | (with_reducible refine Kd.C_drew ?_))); (case side2 => exact HC0_2.out); rintro e w12 ⟨v214, rfl, ho0, hb⟩; refine ⟨_, rfl, ?_⟩; have n0_ := Fa.mk (Kd.R_lower ho0 (bsz w)); have n1_ := Fa.mk (blk_below (g := gb208) (o := .cells #[.int .i64 a0_0, .int .i64 a0_1, .slice A0_2 l0_2.length c0_2] 26 (0, 0)) fa hb); have n2_ := Fa.mk (blk_below (g := gb209) (o := .cells #[.int .i64 a1_0, .int .i64 a1_1] 23 (0, 0)) fa hb); have n3_ := Fa.mk (blk_below (g := gb210) (o := .cells #[.int .i64 0, .int .i64 0, .slice none 0 0] 26 (0, 0)) fa hb); have n4_ := Fa.mk (bst w hb); clear BK208; clear BK209; clear BK210; clear HB; have HO215 := n0_; have BK208 := n1_; have BK209 := n2_; have BK210 := n3_; have HB := n4_; clear n0_ n1_ n2_ n3_ n4_; (try clear hb); (try clear hb2); (try clear hk); (try clear hi); (try clear ho0); have hcz13_0 := jcell BK210.out (i := 0) rfl; have hcz13_1 := jcell BK210.out (i := 1) rfl; have hcz13_2 := jcell BK210.out (i := 2) rfl; have hfz13_0 := blk_frozen BK210.out 0; have hfz13_1 := blk_frozen BK210.out 1; have hfz13_2 := blk_frozen BK210.out 2; obtain ⟨Ao14, co14, eo14⟩ := Kd.R_slice HO215.out; subst eo14))
 refine bodyPost_ret (results_ct rfl _ _ gb210 26 #[.int .i64 t211, .int .i64 t212, .slice Ao14 t213.length co14] (0, 0) _ rfl (by (with_reducible repeat (first | refine blk_drewN ?_ _ | refine blk_drew ?_ | refine blk_alloc ?_ _)); refine blk_put (cs := #[.int .i64 t211, .int .i64 t212, .slice none 0 0]) ?_ 2 _ rfl; (with_reducible repeat (first | refine blk_drewN ?_ _ | refine blk_drew ?_ | refine blk_alloc ?_ _)); refine blk_put (cs := #[.int .i64 t211, .int .i64 0, .slice none 0 0]) ?_ 1 _ rfl; (with_reducible repeat (first | refine blk_drewN ?_ _ | refine blk_drew ?_ | refine blk_alloc ?_ _)); refine blk_put (cs := #[.int .i64 0, .int .i64 0, .slice none 0 0]) ?_ 0 _ rfl; (with_reducible repeat (first | refine blk_drewN ?_ _ | refine blk_drew ?_ | refine blk_alloc ?_ _)); exact fa) Tryz.underlying26 rfl (by kernel_rfl)) rfl ?_
 exact ⟨_, rfl, by (with_reducible repeat (first | apply Kd.R_alloc | apply Kd.R_drewN | apply Kd.R_drew)); exact Kd.R_mono (Kd.R_far (p := ⟨gb210, 2, none⟩) (Kd.R_far (p := ⟨gb210, 1, none⟩) (Kd.R_far (p := ⟨gb210, 0, none⟩) (Kd.R_types HO215.out BK210.out (by decide)) (fun _ hk => hk.2) (.int .i64 t211)) (fun _ hk => hk.2) (.int .i64 t212)) (fun _ hk => hk.2) (.slice Ao14 t213.length co14)) (fun _ hk => trivial), fa⟩
end Go.Proofs.YtilamkcpbibnmaaGreatDoor.P
