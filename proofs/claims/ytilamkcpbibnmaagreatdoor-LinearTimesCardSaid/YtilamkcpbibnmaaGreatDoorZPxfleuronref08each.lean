import Derived.Test.YtilamkcpbibnmaaGreatDoorZPx0
import Derived.Test.YtilamkcpbibnmaaGreatDoorZPxfleuronref01gcd
import Derived.Test.YtilamkcpbibnmaaGreatDoorZPxfleuronref08Valid
import Derived.Test.YtilamkcpbibnmaaGreatDoorZPxfleuronref01Near
namespace Go.Proofs.YtilamkcpbibnmaaGreatDoor.P
open Go.RowKit Go.Proofs.YtilamkcpbibnmaaGreatDoorW.PrintWords Go.Proofs.YtilamkcpbibnmaaGreatDoorW.PrintLast Go.Proofs.YtilamkcpbibnmaaGreatDoorW.PrintMore
attribute [local go_sem] max2_int min2_int max_two min_two max_three min_three max_four min_four
set_option linter.unusedVariables false
set_option linter.unusedSimpArgs false
mutual
def fleuronref08_each.j0 : Nat → ByteArray → Bool → Int → Int → List (S47) → Int → Int → Option (Int × Int × (List (S47)) × Int)
  | 0, _, _, _, _, _, _, _ => none
  | k + 1, x0, x22, x364000, x364001, x364002, x365000, x365001 => if x22 = true then (some (0, 0, ([] : List (S47)), 2)) else ((fleuronref01_Near.f k x0 x364000 x364001 x365000 x365001).bind fun bt368 => (if bt368.2.2 = 0 then (fleuronref08_each.l0 k x0 x364002 (x364002.length : Int) 0 x365000 x365001 bt368.1 bt368.2.1 ([] : List (S47))) else (some (0, 0, ([] : List (S47)), bt368.2.2))))
def fleuronref08_each.l0 : Nat → ByteArray → List (S47) → Int → Int → Int → Int → Int → Int → List (S47) → Option (Int × Int × (List (S47)) × Int)
  | 0, _, _, _, _, _, _, _, _, _ => none
  | k + 1, x0, x39, x40, x41, x365000, x365001, x373000, x373001, x373002 => if x41 < x40 then (if 0 ≤ x41 then (if x41 < (x39.length : Int) then ((fleuronref01_Near.f k x0 ((rd_T47 x39 x41).f1.f0) ((rd_T47 x39 x41).f1.f1) x365000 x365001).bind fun bt375 => (if bt375.2.2 = 0 then (if bt375.1 = 0 then (fleuronref08_each.l0 k x0 x39 x40 (wrap64 (x41 + 1)) x365000 x365001 x373000 x373001 x373002) else (if x373002.length < 4398046511104 then (fleuronref08_each.l0 k x0 x39 x40 (wrap64 (x41 + 1)) x365000 x365001 x373000 x373001 (x373002 ++ [(⟨(rd_T47 x39 x41).f0, (⟨bt375.1, bt375.2.1⟩ : S23)⟩ : S47)])) else (none))) else (some (0, 0, ([] : List (S47)), bt375.2.2)))) else (none)) else (none)) else (some (x373000, x373001, x373002, 0))
end
def fleuronref08_each.f (k : Nat) (a0 : ByteArray) (a1_0 : Int) (a1_1 : Int) (l1_2 : List (S47)) (a2_0 : Int) (a2_1 : Int) : Option (Int × Int × (List (S47)) × Int) := (fleuronref08_Valid.f k a1_0 a1_1 l1_2).bind fun t366 => (if t366 = true then ((fleuronref01_Valid.f k a2_0 a2_1).bind fun t367 => (fleuronref08_each.j0 k a0 (!t367) a1_0 a1_1 l1_2 a2_0 a2_1)) else (fleuronref08_each.j0 k a0 true a1_0 a1_1 l1_2 a2_0 a2_1))
set_option maxHeartbeats 8000000 in
set_option maxRecDepth 100000 in
theorem fleuronref08_each.calls (k : Nat) (a0 : ByteArray) (a1_0 : Int) (a1_1 : Int) (A1_2 : Option Addr) (c1_2 : Nat) (l1_2 : List (S47)) (a2_0 : Int) (a2_1 : Int) (r1 : Int) (r2 : Int) (r3 : List (S47)) (r4 : Int) (w : World) (hr1_2 : Kd.C k47 w A1_2 l1_2.length l1_2) (hc1_2 : l1_2.length ≤ c1_2) (h : fleuronref08_each.f k a0 a1_0 a1_1 l1_2 a2_0 a2_1 = some (r1, r2, r3, r4)) :
  Calls Tryz.prog 50 #[.string a0, .agg #[.int .i64 a1_0, .int .i64 a1_1, .slice A1_2 l1_2.length c1_2], .agg #[.int .i64 a2_0, .int .i64 a2_1]] w fun e w' => ∃ v2_ : Value, e = .returned (.tuple #[.agg #[.int .i64 r1, .int .i64 r2, v2_], .int .i64 r4]) ∧ Kd.R k47 47 w' w.heap.size (fun _ => True) v2_ r3 ∧ Below w.heap.size w w' := by
 have hu26 := Tryz.underlying26
 have hu23 := Tryz.underlying23
 have hu47 := Tryz.underlying47
 have HR1_2 := Fa.mk hr1_2
 have HC1_2 := Fa.mk hc1_2
 clear hr1_2 hc1_2
 have HB := Fa.mk (Below.refl w.heap.size w)
 have H : ((fleuronref08_Valid.f k a1_0 a1_1 l1_2).bind fun t366 => (if t366 = true then ((fleuronref01_Valid.f k a2_0 a2_1).bind fun t367 => (fleuronref08_each.j0 k a0 (!t367) a1_0 a1_1 l1_2 a2_0 a2_1)) else (fleuronref08_each.j0 k a0 true a1_0 a1_1 l1_2 a2_0 a2_1))) = some (r1, r2, r3, r4) := h
 clear h
 have HC4 := Fa.mk H
 clear H
 go_enter Tryz.func50, Tryz.ntmps50
 go_upto_region 1 with (first | ((with_reducible refine gate_dst (N := 4) rfl ?_); refine boxF (N := 4) (cs := #[.int .i64 a1_0, .int .i64 a1_1, .slice A1_2 l1_2.length c1_2]) (t := 26) ?_; intro gb363 hg w5 hbox hb; have hS := Stp.mk hb; have BK363 := Fa.mk (hbox); have GW363 := Fa.mk (gle hg : w.heap.size ≤ gb363); have GE363 := GW363; clear hb hbox hg) | ((with_reducible refine gate_dst (N := 5) rfl ?_); refine boxF (N := 5) (cs := #[.int .i64 a2_0, .int .i64 a2_1]) (t := 23) ?_; intro gb364 hg w6 hbox hb; have hS := Stp.mk hb; have BK364 := Fa.mk (hbox); have GW364 := Fa.mk (gle hg : w.heap.size ≤ gb364); have GE364 := GW364; have NB363_364 := Fa.mk (gne (o := .cells #[.int .i64 a1_0, .int .i64 a1_1, .slice A1_2 l1_2.length c1_2] 26 (0, 0)) hg : gb363 ≠ gb364); have NB364_363 := Fa.mk NB363_364.out.symm; clear hb hbox hg) | ((with_reducible refine gate_dst (N := 6) rfl ?_); refine boxF (N := 6) (cs := #[.int .i64 0, .int .i64 0, .slice none 0 0]) (t := 26) ?_; intro gb365 hg w7 hbox hb; have hS := Stp.mk hb; have BK365 := Fa.mk (hbox); have GW365 := Fa.mk (gle hg : w.heap.size ≤ gb365); have GE365 := GW365; have NB363_365 := Fa.mk (gne (o := .cells #[.int .i64 a1_0, .int .i64 a1_1, .slice A1_2 l1_2.length c1_2] 26 (0, 0)) hg : gb363 ≠ gb365); have NB365_363 := Fa.mk NB363_365.out.symm; have NB364_365 := Fa.mk (gne (o := .cells #[.int .i64 a2_0, .int .i64 a2_1] 23 (0, 0)) hg : gb364 ≠ gb365); have NB365_364 := Fa.mk NB364_365.out.symm; clear hb hbox hg))
 (try simp only [Act.put, List.setIfInBounds_toArray, List.set_cons_zero, List.set_cons_succ])
 go_cut [22] (fun v22 wc => ∃ (kq : Nat) (x22_3 : Bool), v22 = .bool x22_3 ∧ Fa (fleuronref08_each.j0 kq a0 x22_3 a1_0 a1_1 l1_2 a2_0 a2_1 = some (r1, r2, r3, r4)) ∧ Fa (kq ≤ k) ∧ Fa (wc.heap[gb363]? = some (.cells #[.int .i64 a1_0, .int .i64 a1_1, (.slice A1_2 l1_2.length c1_2)] 26 (0, 0))) ∧ Fa (wc.heap[gb364]? = some (.cells #[.int .i64 a2_0, .int .i64 a2_1] 23 (0, 0))) ∧ Fa (wc.heap[gb365]? = some (.cells #[.int .i64 0, .int .i64 0, (.slice none 0 0)] 26 (0, 0))) ∧ Fa (Below w.heap.size w wc))
 case first =>
  have H := HC4.out
  clear HC4
  replace H := Option.bind_eq_some_iff.mp H
  obtain ⟨t366, A80, H⟩ := H
  (try dsimp only at H)
  have A8 := Fa.mk A80
  clear A80
  by_cases c9 : t366 = true
  ·
   subst c9
   rw [if_pos rfl] at H
   replace H := Option.bind_eq_some_iff.mp H
   obtain ⟨t367, A100, H⟩ := H
   (try dsimp only at H)
   have A10 := Fa.mk A100
   clear A100
   have H' := Fa.mk H
   clear H
   have hnb11 := NB363_364.out
   have hnc11 := NB364_363.out
   have hnb12 := NB363_365.out
   have hnc12 := NB365_363.out
   have BK363 : Fa (w7.heap[gb363]? = some (.cells #[.int .i64 a1_0, .int .i64 a1_1, .slice A1_2 l1_2.length c1_2] 26 (0, 0))) := ⟨fa⟩
   have hcz13_0 := jcell BK363.out (i := 0) rfl
   have hcz13_1 := jcell BK363.out (i := 1) rfl
   have hcz13_2 := jcell BK363.out (i := 2) rfl
   have hfz13_0 := blk_frozen BK363.out 0
   have hfz13_1 := blk_frozen BK363.out 1
   have hfz13_2 := blk_frozen BK363.out 2
   go_wp2_with (first | ((with_reducible refine gate_callee (f := 18) rfl ?_); refine goesA (some 16) rfl rfl Tryz.func18 (by kernel_rfl) rfl #[.agg #[.int .i64 a1_0, .int .i64 a1_1, .slice A1_2 l1_2.length c1_2]] rfl ?_; (with_reducible refine (fleuronref08_Valid.calls k a1_0 a1_1 _ _ l1_2 true _ ?side1 ?side2 A8.out).mono ?_); (case side1 => repeat (first | exact (Kd.C_below HR1_2.out fa) | (with_reducible refine Kd.C_alloc ?_ _) | (with_reducible refine Kd.C_drewN ?_ _) | (with_reducible refine Kd.C_drew ?_))); (case side2 => exact HC1_2.out); rintro e w14 ⟨rfl, hb⟩; refine ⟨_, rfl, ?_⟩; have hS := Stp.mk hb; have BK364 := (⟨fa⟩ : Fa (w14.heap[gb364]? = some (.cells #[.int .i64 a2_0, .int .i64 a2_1] 23 (0, 0)))); clear hb; have hnb15 := NB364_365.out; have hnc15 := NB365_364.out; have hcz16_0 := jcell BK364.out (i := 0) rfl; have hcz16_1 := jcell BK364.out (i := 1) rfl; have hfz16_0 := blk_frozen BK364.out 0; have hfz16_1 := blk_frozen BK364.out 1) | (go_at_call 34; (with_reducible refine (fleuronref01_Valid.calls k a2_0 a2_1 t367 _ A10.out).mono ?_); rintro e w17 ⟨rfl, hb⟩; have hS := Stp.mk hb; clear hb))
   go_meet
   case rel => exact ⟨_, (!t367), (by first | rfl | (simp; done) | (simp [*]; done)), H', ⟨by first | omega | exact Nat.le_refl _⟩, ⟨fa⟩, ⟨fa⟩, ⟨fa⟩, ⟨fa⟩⟩
  ·
   replace c9 := Bool.eq_false_iff.mpr c9
   subst c9
   rw [if_neg (show ¬ (false = true) by decide)] at H
   have H' := Fa.mk H
   clear H
   have hnb18 := NB363_364.out
   have hnc18 := NB364_363.out
   have hnb19 := NB363_365.out
   have hnc19 := NB365_363.out
   have BK363 : Fa (w7.heap[gb363]? = some (.cells #[.int .i64 a1_0, .int .i64 a1_1, .slice A1_2 l1_2.length c1_2] 26 (0, 0))) := ⟨fa⟩
   have hcz20_0 := jcell BK363.out (i := 0) rfl
   have hcz20_1 := jcell BK363.out (i := 1) rfl
   have hcz20_2 := jcell BK363.out (i := 2) rfl
   have hfz20_0 := blk_frozen BK363.out 0
   have hfz20_1 := blk_frozen BK363.out 1
   have hfz20_2 := blk_frozen BK363.out 2
   go_wp2_with (first | ((with_reducible refine gate_callee (f := 18) rfl ?_); refine goesA (some 16) rfl rfl Tryz.func18 (by kernel_rfl) rfl #[.agg #[.int .i64 a1_0, .int .i64 a1_1, .slice A1_2 l1_2.length c1_2]] rfl ?_; (with_reducible refine (fleuronref08_Valid.calls k a1_0 a1_1 _ _ l1_2 false _ ?side1 ?side2 A8.out).mono ?_); (case side1 => repeat (first | exact (Kd.C_below HR1_2.out fa) | (with_reducible refine Kd.C_alloc ?_ _) | (with_reducible refine Kd.C_drewN ?_ _) | (with_reducible refine Kd.C_drew ?_))); (case side2 => exact HC1_2.out); rintro e w21 ⟨rfl, hb⟩; refine ⟨_, rfl, ?_⟩; have hS := Stp.mk hb; clear hb))
   go_meet
   case rel => exact ⟨_, (true), (by first | rfl | (simp; done) | (simp [*]; done)), H', ⟨by first | omega | exact Nat.le_refl _⟩, ⟨fa⟩, ⟨fa⟩, ⟨fa⟩, ⟨fa⟩⟩
 case rest =>
  clear HC4
  try clear c1
  try clear p2
  try clear c5
  try clear c9
  try clear c11
  try clear c12
  try clear c15
  try clear c18
  try clear c19
  try clear hcz13_0
  try clear hcz13_1
  try clear hcz13_2
  try clear hcz16_0
  try clear hcz16_1
  try clear hcz20_0
  try clear hcz20_1
  try clear hcz20_2
  try clear hfz13_0
  try clear hfz13_1
  try clear hfz13_2
  try clear hfz16_0
  try clear hfz16_1
  try clear hfz20_0
  try clear hfz20_1
  try clear hfz20_2
  obtain ⟨kq, x22_3, rfl, HA, HJ3, BK363, BK364, BK365, HB⟩ := hcut
  cases kq with
  | zero => exact absurd HA.out (by simp [fleuronref08_each.j0])
  | succ kj3 =>
   have H := HA.out
   clear HA
   simp only [fleuronref08_each.j0] at H
   by_cases c22 : x22_3 = true
   ·
    subst c22
    rw [if_pos rfl] at H
    simp only [Option.some.injEq, Prod.mk.injEq] at H
    obtain ⟨rfl, rfl, rfl, rfl⟩ := H
    have hnb23 := NB365_363.out
    have hnc23 := NB363_365.out
    have hnb24 := NB365_364.out
    have hnc24 := NB364_365.out
    have hcz25_0 := jcell BK365.out (i := 0) rfl
    have hcz25_1 := jcell BK365.out (i := 1) rfl
    have hcz25_2 := jcell BK365.out (i := 2) rfl
    have hfz25_0 := blk_frozen BK365.out 0
    have hfz25_1 := blk_frozen BK365.out 1
    have hfz25_2 := blk_frozen BK365.out 2
    go_wp2
    refine bodyPost_ret (results_ct rfl _ _ gb365 26 #[.int .i64 0, .int .i64 0, .slice none 0 0] (0, 0) _ rfl (by (with_reducible repeat (first | refine blk_drewN ?_ _ | refine blk_drew ?_ | refine blk_alloc ?_ _)); refine blk_put (cs := #[.int .i64 0, .int .i64 0, .slice none 0 0]) ?_ 2 _ rfl; (with_reducible repeat (first | refine blk_drewN ?_ _ | refine blk_drew ?_ | refine blk_alloc ?_ _)); refine blk_put (cs := #[.int .i64 0, .int .i64 0, .slice none 0 0]) ?_ 1 _ rfl; (with_reducible repeat (first | refine blk_drewN ?_ _ | refine blk_drew ?_ | refine blk_alloc ?_ _)); refine blk_put (cs := #[.int .i64 0, .int .i64 0, .slice none 0 0]) ?_ 0 _ rfl; (with_reducible repeat (first | refine blk_drewN ?_ _ | refine blk_drew ?_ | refine blk_alloc ?_ _)); exact fa) Tryz.underlying26 rfl (by kernel_rfl)) rfl ?_
    exact ⟨_, rfl, Kd.R_nil _ _ _ _ _, fa⟩
   ·
    replace c22 := Bool.eq_false_iff.mpr c22
    subst c22
    rw [if_neg (show ¬ (false = true) by decide)] at H
    replace H := Option.bind_eq_some_iff.mp H
    obtain ⟨⟨t368, t369, t370⟩, A260, H⟩ := H
    (try dsimp only at H)
    have A26 := Fa.mk A260
    clear A260
    by_cases c27 : t370 = 0
    ·
     rw [if_pos c27] at H
     have c27b0 : (t370 == 0) = true := beq_iff_eq.mpr c27
     have c27b1 : (t370 != 0) = false := bne_eq_false_iff_eq.mpr c27
     clear c27
     have H' := Fa.mk H
     clear H
     have hnb28 := NB363_364.out
     have hnc28 := NB364_363.out
     have hnb29 := NB363_365.out
     have hnc29 := NB365_363.out
     have hcz30_0 := jcell BK363.out (i := 0) rfl
     have hcz30_1 := jcell BK363.out (i := 1) rfl
     have hcz30_2 := jcell BK363.out (i := 2) rfl
     have hfz30_0 := blk_frozen BK363.out 0
     have hfz30_1 := blk_frozen BK363.out 1
     have hfz30_2 := blk_frozen BK363.out 2
     have hnb31 := NB364_365.out
     have hnc31 := NB365_364.out
     have hcz32_0 := jcell BK364.out (i := 0) rfl
     have hcz32_1 := jcell BK364.out (i := 1) rfl
     have hfz32_0 := blk_frozen BK364.out 0
     have hfz32_1 := blk_frozen BK364.out 1
     go_wp2_with (first | ((with_reducible refine gate_callee (f := 57) rfl ?_); refine goesA (some 29) rfl rfl Tryz.func57 (by kernel_rfl) rfl #[.string a0, .agg #[.int .i64 a1_0, .int .i64 a1_1], .agg #[.int .i64 a2_0, .int .i64 a2_1]] rfl ?_; (with_reducible refine (fleuronref01_Near.calls kj3 a0 a1_0 a1_1 a2_0 a2_1 t368 t369 t370 _ A26.out).mono ?_); rintro e w33 ⟨rfl, hb⟩; refine ⟨_, rfl, ?_⟩; have hS := Stp.mk hb; clear hb) | ((with_reducible refine gate_dst (N := 8) rfl ?_); refine boxF (N := 8) (cs := #[.int .i64 0, .int .i64 0]) (t := 23) ?_; intro gb371 hg w34 hbox hb; have hS := Stp.mk hb; have BK371 := Fa.mk (hbox); have GW371 := Fa.mk (gle hg : w.heap.size ≤ gb371); have GE371 := GW371; have NB363_371 := Fa.mk (gne (o := .cells #[.int .i64 a1_0, .int .i64 a1_1, .slice A1_2 l1_2.length c1_2] 26 (0, 0)) hg : gb363 ≠ gb371); have NB371_363 := Fa.mk NB363_371.out.symm; have NB364_371 := Fa.mk (gne (o := .cells #[.int .i64 a2_0, .int .i64 a2_1] 23 (0, 0)) hg : gb364 ≠ gb371); have NB371_364 := Fa.mk NB364_371.out.symm; have NB365_371 := Fa.mk (gne (o := .cells #[.int .i64 0, .int .i64 0, .slice none 0 0] 26 (0, 0)) hg : gb365 ≠ gb371); have NB371_365 := Fa.mk NB365_371.out.symm; clear hb hbox hg; have hnb35 := NB371_363.out; have hnc35 := NB363_371.out; have hnb36 := NB371_364.out; have hnc36 := NB364_371.out; have hnb37 := NB371_365.out; have hnc37 := NB365_371.out; have hcz38_0 := jcell BK371.out (i := 0) rfl; have hcz38_1 := jcell BK371.out (i := 1) rfl; have hfz38_0 := blk_frozen BK371.out 0; have hfz38_1 := blk_frozen BK371.out 1) | ((with_reducible refine gate_dst (N := 10) rfl ?_); refine boxF (N := 10) (cs := #[.int .i64 0, .int .i64 0, .slice none 0 0]) (t := 26) ?_; intro gb372 hg w39 hbox hb; have hS := Stp.mk hb; have BK363 := (⟨fa⟩ : Fa (w39.heap[gb363]? = some (.cells #[.int .i64 a1_0, .int .i64 a1_1, .slice A1_2 l1_2.length c1_2] 26 (0, 0)))); have BK371 := Fa.mk (blk_below (g := gb371) (o := .cells #[.int .i64 t368, .int .i64 t369] 23 (0, 0)) (by (with_reducible repeat (first | refine blk_drewN ?_ _ | refine blk_drew ?_ | refine blk_alloc ?_ _)); refine blk_put (cs := #[.int .i64 t368, .int .i64 0]) ?_ 1 _ rfl; (with_reducible repeat (first | refine blk_drewN ?_ _ | refine blk_drew ?_ | refine blk_alloc ?_ _)); refine blk_put (cs := #[.int .i64 0, .int .i64 0]) ?_ 0 _ rfl; (with_reducible repeat (first | refine blk_drewN ?_ _ | refine blk_drew ?_ | refine blk_alloc ?_ _)); exact fa) hb); have BK372 := Fa.mk (hbox); have GW372 := Fa.mk (gle hg : w.heap.size ≤ gb372); have GE372 := GW372; have NB363_372 := Fa.mk ((by rw [hg]; exact Nat.ne_of_lt (blk_lt (g := gb363) (o := .cells #[.int .i64 a1_0, .int .i64 a1_1, .slice A1_2 l1_2.length c1_2] 26 (0, 0)) (by (with_reducible repeat (first | refine blk_drewN ?_ _ | refine blk_drew ?_ | refine blk_alloc ?_ _)); refine blk_far ?_ NB363_371.out _; (with_reducible repeat (first | refine blk_drewN ?_ _ | refine blk_drew ?_ | refine blk_alloc ?_ _)); refine blk_far ?_ NB363_371.out _; (with_reducible repeat (first | refine blk_drewN ?_ _ | refine blk_drew ?_ | refine blk_alloc ?_ _)); exact fa)) : gb363 ≠ gb372)); have NB372_363 := Fa.mk ((by rw [hg]; exact Nat.ne_of_gt (blk_lt (g := gb363) (o := .cells #[.int .i64 a1_0, .int .i64 a1_1, .slice A1_2 l1_2.length c1_2] 26 (0, 0)) (by (with_reducible repeat (first | refine blk_drewN ?_ _ | refine blk_drew ?_ | refine blk_alloc ?_ _)); refine blk_far ?_ NB363_371.out _; (with_reducible repeat (first | refine blk_drewN ?_ _ | refine blk_drew ?_ | refine blk_alloc ?_ _)); refine blk_far ?_ NB363_371.out _; (with_reducible repeat (first | refine blk_drewN ?_ _ | refine blk_drew ?_ | refine blk_alloc ?_ _)); exact fa)) : gb372 ≠ gb363)); have NB364_372 := Fa.mk ((by rw [hg]; exact Nat.ne_of_lt (blk_lt (g := gb364) (o := .cells #[.int .i64 a2_0, .int .i64 a2_1] 23 (0, 0)) (by (with_reducible repeat (first | refine blk_drewN ?_ _ | refine blk_drew ?_ | refine blk_alloc ?_ _)); refine blk_far ?_ NB364_371.out _; (with_reducible repeat (first | refine blk_drewN ?_ _ | refine blk_drew ?_ | refine blk_alloc ?_ _)); refine blk_far ?_ NB364_371.out _; (with_reducible repeat (first | refine blk_drewN ?_ _ | refine blk_drew ?_ | refine blk_alloc ?_ _)); exact fa)) : gb364 ≠ gb372)); have NB372_364 := Fa.mk ((by rw [hg]; exact Nat.ne_of_gt (blk_lt (g := gb364) (o := .cells #[.int .i64 a2_0, .int .i64 a2_1] 23 (0, 0)) (by (with_reducible repeat (first | refine blk_drewN ?_ _ | refine blk_drew ?_ | refine blk_alloc ?_ _)); refine blk_far ?_ NB364_371.out _; (with_reducible repeat (first | refine blk_drewN ?_ _ | refine blk_drew ?_ | refine blk_alloc ?_ _)); refine blk_far ?_ NB364_371.out _; (with_reducible repeat (first | refine blk_drewN ?_ _ | refine blk_drew ?_ | refine blk_alloc ?_ _)); exact fa)) : gb372 ≠ gb364)); have NB365_372 := Fa.mk ((by rw [hg]; exact Nat.ne_of_lt (blk_lt (g := gb365) (o := .cells #[.int .i64 0, .int .i64 0, .slice none 0 0] 26 (0, 0)) (by (with_reducible repeat (first | refine blk_drewN ?_ _ | refine blk_drew ?_ | refine blk_alloc ?_ _)); refine blk_far ?_ NB365_371.out _; (with_reducible repeat (first | refine blk_drewN ?_ _ | refine blk_drew ?_ | refine blk_alloc ?_ _)); refine blk_far ?_ NB365_371.out _; (with_reducible repeat (first | refine blk_drewN ?_ _ | refine blk_drew ?_ | refine blk_alloc ?_ _)); exact fa)) : gb365 ≠ gb372)); have NB372_365 := Fa.mk ((by rw [hg]; exact Nat.ne_of_gt (blk_lt (g := gb365) (o := .cells #[.int .i64 0, .int .i64 0, .slice none 0 0] 26 (0, 0)) (by (with_reducible repeat (first | refine blk_drewN ?_ _ | refine blk_drew ?_ | refine blk_alloc ?_ _)); refine blk_far ?_ NB365_371.out _; (with_reducible repeat (first | refine blk_drewN ?_ _ | refine blk_drew ?_ | refine blk_alloc ?_ _)); refine blk_far ?_ NB365_371.out _; (with_reducible repeat (first | refine blk_drewN ?_ _ | refine blk_drew ?_ | refine blk_alloc ?_ _)); exact fa)) : gb372 ≠ gb365)); have NB371_372 := Fa.mk ((by rw [hg]; exact Nat.ne_of_lt (blk_lt (g := gb371) (o := .cells #[.int .i64 t368, .int .i64 t369] 23 (0, 0)) (by (with_reducible repeat (first | refine blk_drewN ?_ _ | refine blk_drew ?_ | refine blk_alloc ?_ _)); refine blk_put (cs := #[.int .i64 t368, .int .i64 0]) ?_ 1 _ rfl; (with_reducible repeat (first | refine blk_drewN ?_ _ | refine blk_drew ?_ | refine blk_alloc ?_ _)); refine blk_put (cs := #[.int .i64 0, .int .i64 0]) ?_ 0 _ rfl; (with_reducible repeat (first | refine blk_drewN ?_ _ | refine blk_drew ?_ | refine blk_alloc ?_ _)); exact fa)) : gb371 ≠ gb372)); have NB372_371 := Fa.mk ((by rw [hg]; exact Nat.ne_of_gt (blk_lt (g := gb371) (o := .cells #[.int .i64 t368, .int .i64 t369] 23 (0, 0)) (by (with_reducible repeat (first | refine blk_drewN ?_ _ | refine blk_drew ?_ | refine blk_alloc ?_ _)); refine blk_put (cs := #[.int .i64 t368, .int .i64 0]) ?_ 1 _ rfl; (with_reducible repeat (first | refine blk_drewN ?_ _ | refine blk_drew ?_ | refine blk_alloc ?_ _)); refine blk_put (cs := #[.int .i64 0, .int .i64 0]) ?_ 0 _ rfl; (with_reducible repeat (first | refine blk_drewN ?_ _ | refine blk_drew ?_ | refine blk_alloc ?_ _)); exact fa)) : gb372 ≠ gb371)); clear hb hbox hg; have hnb40 := NB372_363.out; have hnc40 := NB363_372.out; have hnb41 := NB372_364.out; have hnc41 := NB364_372.out; have hnb42 := NB372_365.out; have hnc42 := NB365_372.out; have hnb43 := NB372_371.out; have hnc43 := NB371_372.out; have hcz44_0 := jcell BK372.out (i := 0) rfl; have hcz44_1 := jcell BK372.out (i := 1) rfl; have hcz44_2 := jcell BK372.out (i := 2) rfl; have hfz44_0 := blk_frozen BK372.out 0; have hfz44_1 := blk_frozen BK372.out 1; have hfz44_2 := blk_frozen BK372.out 2; have hcz45_0 := jcell BK363.out (i := 0) rfl; have hcz45_1 := jcell BK363.out (i := 1) rfl; have hcz45_2 := jcell BK363.out (i := 2) rfl; have hfz45_0 := blk_frozen BK363.out 0; have hfz45_1 := blk_frozen BK363.out 1; have hfz45_2 := blk_frozen BK363.out 2))
     go_loopg [41] kj3 (fun kq v41 w' => ∃ (x41_2 : Int) (x366000_2 : Int) (x366001_2 : Int) (x373002_2 : List (S47)) (u373002 : Value), v41 = .int .i64 x41_2 ∧ Fa (fleuronref08_each.l0 kq a0 l1_2 (l1_2.length : Int) x41_2 a2_0 a2_1 t368 t369 x373002_2 = some (r1, r2, r3, r4)) ∧ Fa (kq ≤ kj3) ∧ Fa (Kd.R k47 47 w' w.heap.size (fun _ => True) u373002 x373002_2) ∧ Fa (w'.heap[gb363]? = some (.cells #[.int .i64 a1_0, .int .i64 a1_1, (.slice A1_2 l1_2.length c1_2)] 26 (0, 0))) ∧ Fa (w'.heap[gb364]? = some (.cells #[.int .i64 a2_0, .int .i64 a2_1] 23 (0, 0))) ∧ Fa (w'.heap[gb365]? = some (.cells #[.int .i64 x366000_2, .int .i64 x366001_2, (.slice none 0 0)] 26 (0, 0))) ∧ Fa (w'.heap[gb371]? = some (.cells #[.int .i64 t368, .int .i64 t369] 23 (0, 0))) ∧ Fa (w'.heap[gb372]? = some (.cells #[.int .i64 t368, .int .i64 t369, u373002] 26 (0, 0))) ∧ Fa (Below w.heap.size w w'))
     case atStart => exact ⟨(0), (0), (0), (([] : List (S47))), (.slice none 0 0), (by first | rfl | (simp; done) | (simp [*]; done)), H', ⟨Nat.le_refl _⟩, ⟨Kd.R_nil _ _ _ _ _⟩, ⟨by (with_reducible repeat (first | refine blk_drewN ?_ _ | refine blk_drew ?_ | refine blk_alloc ?_ _)); refine blk_far ?_ NB363_372.out _; (with_reducible repeat (first | refine blk_drewN ?_ _ | refine blk_drew ?_ | refine blk_alloc ?_ _)); refine blk_far ?_ NB363_372.out _; (with_reducible repeat (first | refine blk_drewN ?_ _ | refine blk_drew ?_ | refine blk_alloc ?_ _)); refine blk_far ?_ NB363_372.out _; (with_reducible repeat (first | refine blk_drewN ?_ _ | refine blk_drew ?_ | refine blk_alloc ?_ _)); exact fa⟩, ⟨by (with_reducible repeat (first | refine blk_drewN ?_ _ | refine blk_drew ?_ | refine blk_alloc ?_ _)); refine blk_far ?_ NB364_372.out _; (with_reducible repeat (first | refine blk_drewN ?_ _ | refine blk_drew ?_ | refine blk_alloc ?_ _)); refine blk_far ?_ NB364_372.out _; (with_reducible repeat (first | refine blk_drewN ?_ _ | refine blk_drew ?_ | refine blk_alloc ?_ _)); refine blk_far ?_ NB364_372.out _; (with_reducible repeat (first | refine blk_drewN ?_ _ | refine blk_drew ?_ | refine blk_alloc ?_ _)); exact fa⟩, ⟨by (with_reducible repeat (first | refine blk_drewN ?_ _ | refine blk_drew ?_ | refine blk_alloc ?_ _)); refine blk_far ?_ NB365_372.out _; (with_reducible repeat (first | refine blk_drewN ?_ _ | refine blk_drew ?_ | refine blk_alloc ?_ _)); refine blk_far ?_ NB365_372.out _; (with_reducible repeat (first | refine blk_drewN ?_ _ | refine blk_drew ?_ | refine blk_alloc ?_ _)); refine blk_far ?_ NB365_372.out _; (with_reducible repeat (first | refine blk_drewN ?_ _ | refine blk_drew ?_ | refine blk_alloc ?_ _)); exact fa⟩, ⟨by (with_reducible repeat (first | refine blk_drewN ?_ _ | refine blk_drew ?_ | refine blk_alloc ?_ _)); refine blk_far ?_ NB371_372.out _; (with_reducible repeat (first | refine blk_drewN ?_ _ | refine blk_drew ?_ | refine blk_alloc ?_ _)); refine blk_far ?_ NB371_372.out _; (with_reducible repeat (first | refine blk_drewN ?_ _ | refine blk_drew ?_ | refine blk_alloc ?_ _)); refine blk_far ?_ NB371_372.out _; (with_reducible repeat (first | refine blk_drewN ?_ _ | refine blk_drew ?_ | refine blk_alloc ?_ _)); exact fa⟩, ⟨by (with_reducible repeat (first | refine blk_drewN ?_ _ | refine blk_drew ?_ | refine blk_alloc ?_ _)); refine blk_put (cs := #[.int .i64 t368, .int .i64 t369, .slice none 0 0]) ?_ 2 _ rfl; (with_reducible repeat (first | refine blk_drewN ?_ _ | refine blk_drew ?_ | refine blk_alloc ?_ _)); refine blk_put (cs := #[.int .i64 t368, .int .i64 0, .slice none 0 0]) ?_ 1 _ rfl; (with_reducible repeat (first | refine blk_drewN ?_ _ | refine blk_drew ?_ | refine blk_alloc ?_ _)); refine blk_put (cs := #[.int .i64 0, .int .i64 0, .slice none 0 0]) ?_ 0 _ rfl; (with_reducible repeat (first | refine blk_drewN ?_ _ | refine blk_drew ?_ | refine blk_alloc ?_ _)); exact fa⟩, ⟨fa⟩⟩
     case round =>
      clear H'
      try clear c1
      try clear c2
      try clear p2
      try clear c3
      try clear c4
      try clear c5
      try clear c9
      try clear c11
      try clear c12
      try clear c15
      try clear c18
      try clear c19
      try clear c22
      try clear c23
      try clear c24
      try clear c27
      try clear c27b0
      try clear c27b1
      try clear c28
      try clear c29
      try clear c31
      try clear c35
      try clear c36
      try clear c37
      try clear c40
      try clear c41
      try clear c42
      try clear c43
      try clear hcz13_0
      try clear hcz13_1
      try clear hcz13_2
      try clear hcz16_0
      try clear hcz16_1
      try clear hcz20_0
      try clear hcz20_1
      try clear hcz20_2
      try clear hcz25_0
      try clear hcz25_1
      try clear hcz25_2
      try clear hcz30_0
      try clear hcz30_1
      try clear hcz30_2
      try clear hcz32_0
      try clear hcz32_1
      try clear hcz38_0
      try clear hcz38_1
      try clear hcz44_0
      try clear hcz44_1
      try clear hcz44_2
      try clear hcz45_0
      try clear hcz45_1
      try clear hcz45_2
      try clear hfz13_0
      try clear hfz13_1
      try clear hfz13_2
      try clear hfz16_0
      try clear hfz16_1
      try clear hfz20_0
      try clear hfz20_1
      try clear hfz20_2
      try clear hfz25_0
      try clear hfz25_1
      try clear hfz25_2
      try clear hfz30_0
      try clear hfz30_1
      try clear hfz30_2
      try clear hfz32_0
      try clear hfz32_1
      try clear hfz38_0
      try clear hfz38_1
      try clear hfz44_0
      try clear hfz44_1
      try clear hfz44_2
      try clear hfz45_0
      try clear hfz45_1
      try clear hfz45_2
      try clear p2
      obtain ⟨x41_2, x366000_2, x366001_2, x373002_2, u373002, rfl, HA, HK2, HO_373002, BK363, BK364, BK365, BK371, BK372, HB⟩ := hrel
      cases gk with
      | zero => exact absurd HA.out (by simp [fleuronref08_each.l0])
      | succ k2 =>
       have H := HA.out
       clear HA
       simp only [fleuronref08_each.l0] at H
       by_cases c46 : x41_2 < (l1_2.length : Int)
       ·
        rw [if_pos c46] at H
        have c46b0 : decide (x41_2 < (l1_2.length : Int)) = true := decide_eq_true c46
        clear c46
        by_cases c47 : 0 ≤ x41_2
        ·
         rw [if_pos c47] at H
         have c47b0 : decide (0 ≤ x41_2) = true := decide_eq_true c47
         clear c47
         by_cases c48 : x41_2 < (l1_2.length : Int)
         ·
          rw [if_pos c48] at H
          have c48b0 : decide (x41_2 < (l1_2.length : Int)) = true := decide_eq_true c48
          clear c48
          replace H := Option.bind_eq_some_iff.mp H
          obtain ⟨⟨t375, t376, t377⟩, A490, H⟩ := H
          (try dsimp only at H)
          have A49 := Fa.mk A490
          clear A490
          by_cases c50 : t377 = 0
          ·
           rw [if_pos c50] at H
           have c50b0 : (t377 == 0) = true := beq_iff_eq.mpr c50
           have c50b1 : (t377 != 0) = false := bne_eq_false_iff_eq.mpr c50
           clear c50
           by_cases c51 : t375 = 0
           ·
            rw [if_pos c51] at H
            have c51b0 : (t375 == 0) = true := beq_iff_eq.mpr c51
            have c51b1 : (t375 != 0) = false := bne_eq_false_iff_eq.mpr c51
            clear c51
            have H' := Fa.mk H
            clear H
            have p373 : 0 ≤ (x41_2 : Int) := of_decide_eq_true (by first | (with_reducible assumption) | assumption)
            have q373 : x41_2 < (l1_2.length : Int) := of_decide_eq_true (by first | (with_reducible assumption) | assumption)
            obtain ⟨ad373, e373, hx373_0, hx373_1, hx373_2⟩ := at_T47 HR1_2.out x41_2 p373 q373
            cases e373
            replace hx373_0 := (HB.out.cell (World.block_lt_of_cell? w _ hx373_0)).trans hx373_0
            replace hx373_1 := (HB.out.cell (World.block_lt_of_cell? w _ hx373_1)).trans hx373_1
            replace hx373_2 := (HB.out.cell (World.block_lt_of_cell? w _ hx373_2)).trans hx373_2
            replace p373 := eq_true p373
            replace q373 := eq_true q373
            go_wp2_with (first | ((with_reducible refine gate_dst (N := 12) rfl ?_); refine boxF (N := 12) (cs := #[.string (⟨#[]⟩ : ByteArray), .int .i64 0, .int .i64 0]) (t := 47) ?_; intro gb374 hg w52 hbox hb; have hS := Stp.mk hb; have HO_373002 := Fa.mk (Kd.R_below (Kd.R_elderB (by (with_reducible repeat (first | apply Kd.R_alloc | apply Kd.R_drewN | apply Kd.R_drew)); exact HO_373002.out) gb374 (Nat.le_of_eq hg.symm)) hb); have BK364 := (⟨fa⟩ : Fa (w52.heap[gb364]? = some (.cells #[.int .i64 a2_0, .int .i64 a2_1] 23 (0, 0)))); have BK374 := Fa.mk (hbox); have GW374 := Fa.mk (gle hg : w.heap.size ≤ gb374); have GE374 := GW374; have NB363_374 := Fa.mk (gne (o := .cells #[.int .i64 a1_0, .int .i64 a1_1, .slice (some ad373) l1_2.length c1_2] 26 (0, 0)) hg : gb363 ≠ gb374); have NB374_363 := Fa.mk NB363_374.out.symm; have NB364_374 := Fa.mk (gne (o := .cells #[.int .i64 a2_0, .int .i64 a2_1] 23 (0, 0)) hg : gb364 ≠ gb374); have NB374_364 := Fa.mk NB364_374.out.symm; have NB365_374 := Fa.mk (gne (o := .cells #[.int .i64 x366000_2, .int .i64 x366001_2, .slice none 0 0] 26 (0, 0)) hg : gb365 ≠ gb374); have NB374_365 := Fa.mk NB365_374.out.symm; have NB371_374 := Fa.mk (gne (o := .cells #[.int .i64 t368, .int .i64 t369] 23 (0, 0)) hg : gb371 ≠ gb374); have NB374_371 := Fa.mk NB371_374.out.symm; have NB372_374 := Fa.mk (gne (o := .cells #[.int .i64 t368, .int .i64 t369, u373002] 26 (0, 0)) hg : gb372 ≠ gb374); have NB374_372 := Fa.mk NB372_374.out.symm; clear hb hbox hg; have hnb53 := NB374_363.out; have hnc53 := NB363_374.out; have hnb54 := NB374_364.out; have hnc54 := NB364_374.out; have hnb55 := NB374_365.out; have hnc55 := NB365_374.out; have hnb56 := NB374_371.out; have hnc56 := NB371_374.out; have hnb57 := NB374_372.out; have hnc57 := NB372_374.out; have hcz58_0 := jcell BK374.out (i := 0) rfl; have hcz58_1 := jcell BK374.out (i := 1) rfl; have hcz58_2 := jcell BK374.out (i := 2) rfl; have hfz58_0 := blk_frozen BK374.out 0; have hfz58_1 := blk_frozen BK374.out 1; have hfz58_2 := blk_frozen BK374.out 2; have hnb59 := NB364_363.out; have hnc59 := NB363_364.out; have hnb60 := NB364_365.out; have hnc60 := NB365_364.out; have hnb61 := NB364_371.out; have hnc61 := NB371_364.out; have hnb62 := NB364_372.out; have hnc62 := NB372_364.out; have hcz63_0 := jcell BK364.out (i := 0) rfl; have hcz63_1 := jcell BK364.out (i := 1) rfl; have hfz63_0 := blk_frozen BK364.out 0; have hfz63_1 := blk_frozen BK364.out 1) | ((with_reducible refine gate_callee (f := 57) rfl ?_); refine goesA (some 50) rfl rfl Tryz.func57 (by kernel_rfl) rfl #[.string a0, .agg #[.int .i64 ((rd_T47 l1_2 x41_2).f1.f0), .int .i64 ((rd_T47 l1_2 x41_2).f1.f1)], .agg #[.int .i64 a2_0, .int .i64 a2_1]] rfl ?_; (with_reducible refine (fleuronref01_Near.calls k2 a0 ((rd_T47 l1_2 x41_2).f1.f0) ((rd_T47 l1_2 x41_2).f1.f1) a2_0 a2_1 t375 t376 t377 _ A49.out).mono ?_); rintro e w64 ⟨rfl, hb⟩; refine ⟨_, rfl, ?_⟩; have hS := Stp.mk hb; have HO_373002 := Fa.mk (Kd.R_below (by (with_reducible repeat (first | apply Kd.R_alloc | apply Kd.R_drewN | apply Kd.R_drew)); exact (Kd.R_mono (Kd.R_far (p := ⟨gb374, 2, none⟩) (Kd.R_far (p := ⟨gb374, 1, none⟩) (Kd.R_far (p := ⟨gb374, 0, none⟩) (Kd.R_mono HO_373002.out (fun k_ hk => (⟨hk, hk.2⟩ : _ ∧ k_ ≠ gb374))) (fun _ hk => hk.2) (.string ((rd_T47 l1_2 x41_2).f0))) (fun _ hk => hk.2) (.int .i64 ((rd_T47 l1_2 x41_2).f1.f0))) (fun _ hk => hk.2) (.int .i64 ((rd_T47 l1_2 x41_2).f1.f1))) (fun _ h_ => h_.1))) hb); have BK374 := Fa.mk (blk_below (g := gb374) (o := .cells #[.string ((rd_T47 l1_2 x41_2).f0), .int .i64 ((rd_T47 l1_2 x41_2).f1.f0), .int .i64 ((rd_T47 l1_2 x41_2).f1.f1)] 47 (0, 0)) (by (with_reducible repeat (first | refine blk_drewN ?_ _ | refine blk_drew ?_ | refine blk_alloc ?_ _)); refine blk_put (cs := #[.string ((rd_T47 l1_2 x41_2).f0), .int .i64 ((rd_T47 l1_2 x41_2).f1.f0), .int .i64 0]) ?_ 2 _ rfl; (with_reducible repeat (first | refine blk_drewN ?_ _ | refine blk_drew ?_ | refine blk_alloc ?_ _)); refine blk_put (cs := #[.string ((rd_T47 l1_2 x41_2).f0), .int .i64 0, .int .i64 0]) ?_ 1 _ rfl; (with_reducible repeat (first | refine blk_drewN ?_ _ | refine blk_drew ?_ | refine blk_alloc ?_ _)); refine blk_put (cs := #[.string (⟨#[]⟩ : ByteArray), .int .i64 0, .int .i64 0]) ?_ 0 _ rfl; (with_reducible repeat (first | refine blk_drewN ?_ _ | refine blk_drew ?_ | refine blk_alloc ?_ _)); exact fa) hb); clear hb) | ((with_reducible refine gate_dst (N := 13) rfl ?_); refine boxF (N := 13) (cs := #[.int .i64 0, .int .i64 0]) (t := 23) ?_; intro gb378 hg w65 hbox hb; have hS := Stp.mk hb; have HO_373002 := Fa.mk (Kd.R_below (by (with_reducible repeat (first | apply Kd.R_alloc | apply Kd.R_drewN | apply Kd.R_drew)); exact HO_373002.out) hb); have BK378 := Fa.mk (hbox); have GW378 := Fa.mk (gle hg : w.heap.size ≤ gb378); have GE378 := GW378; have NB363_378 := Fa.mk (gne (o := .cells #[.int .i64 a1_0, .int .i64 a1_1, .slice (some ad373) l1_2.length c1_2] 26 (0, 0)) hg : gb363 ≠ gb378); have NB378_363 := Fa.mk NB363_378.out.symm; have NB364_378 := Fa.mk (gne (o := .cells #[.int .i64 a2_0, .int .i64 a2_1] 23 (0, 0)) hg : gb364 ≠ gb378); have NB378_364 := Fa.mk NB364_378.out.symm; have NB365_378 := Fa.mk (gne (o := .cells #[.int .i64 x366000_2, .int .i64 x366001_2, .slice none 0 0] 26 (0, 0)) hg : gb365 ≠ gb378); have NB378_365 := Fa.mk NB365_378.out.symm; have NB371_378 := Fa.mk (gne (o := .cells #[.int .i64 t368, .int .i64 t369] 23 (0, 0)) hg : gb371 ≠ gb378); have NB378_371 := Fa.mk NB371_378.out.symm; have NB372_378 := Fa.mk (gne (o := .cells #[.int .i64 t368, .int .i64 t369, u373002] 26 (0, 0)) hg : gb372 ≠ gb378); have NB378_372 := Fa.mk NB372_378.out.symm; have NB374_378 := Fa.mk (gne (o := .cells #[.string ((rd_T47 l1_2 x41_2).f0), .int .i64 ((rd_T47 l1_2 x41_2).f1.f0), .int .i64 ((rd_T47 l1_2 x41_2).f1.f1)] 47 (0, 0)) hg : gb374 ≠ gb378); have NB378_374 := Fa.mk NB374_378.out.symm; clear hb hbox hg; have hnb66 := NB378_363.out; have hnc66 := NB363_378.out; have hnb67 := NB378_364.out; have hnc67 := NB364_378.out; have hnb68 := NB378_365.out; have hnc68 := NB365_378.out; have hnb69 := NB378_371.out; have hnc69 := NB371_378.out; have hnb70 := NB378_372.out; have hnc70 := NB372_378.out; have hnb71 := NB378_374.out; have hnc71 := NB374_378.out; have hcz72_0 := jcell BK378.out (i := 0) rfl; have hcz72_1 := jcell BK378.out (i := 1) rfl; have hfz72_0 := blk_frozen BK378.out 0; have hfz72_1 := blk_frozen BK378.out 1))
            go_roundg k2
            case measure => have := HJ3.out; have := HK2.out; omega
            case rel => exact ⟨(wrap64 (x41_2 + 1)), (x366000_2), (x366001_2), (x373002_2), (u373002), (by first | rfl | (simp; done) | (simp [*]; done)), H', ⟨by have := HJ3.out; have := HK2.out; omega⟩, ⟨by (with_reducible repeat (first | apply Kd.R_alloc | apply Kd.R_drewN | apply Kd.R_drew)); exact Kd.R_mono (Kd.R_far (p := ⟨gb378, 1, none⟩) (Kd.R_far (p := ⟨gb378, 0, none⟩) (Kd.R_types HO_373002.out BK378.out (by decide)) (fun _ hk => hk.2) (.int .i64 t375)) (fun _ hk => hk.2) (.int .i64 t376)) (fun _ hk => trivial)⟩, ⟨by (with_reducible repeat (first | refine blk_drewN ?_ _ | refine blk_drew ?_ | refine blk_alloc ?_ _)); refine blk_far ?_ NB363_378.out _; (with_reducible repeat (first | refine blk_drewN ?_ _ | refine blk_drew ?_ | refine blk_alloc ?_ _)); refine blk_far ?_ NB363_378.out _; (with_reducible repeat (first | refine blk_drewN ?_ _ | refine blk_drew ?_ | refine blk_alloc ?_ _)); exact fa⟩, ⟨by (with_reducible repeat (first | refine blk_drewN ?_ _ | refine blk_drew ?_ | refine blk_alloc ?_ _)); refine blk_far ?_ NB364_378.out _; (with_reducible repeat (first | refine blk_drewN ?_ _ | refine blk_drew ?_ | refine blk_alloc ?_ _)); refine blk_far ?_ NB364_378.out _; (with_reducible repeat (first | refine blk_drewN ?_ _ | refine blk_drew ?_ | refine blk_alloc ?_ _)); exact fa⟩, ⟨by (with_reducible repeat (first | refine blk_drewN ?_ _ | refine blk_drew ?_ | refine blk_alloc ?_ _)); refine blk_far ?_ NB365_378.out _; (with_reducible repeat (first | refine blk_drewN ?_ _ | refine blk_drew ?_ | refine blk_alloc ?_ _)); refine blk_far ?_ NB365_378.out _; (with_reducible repeat (first | refine blk_drewN ?_ _ | refine blk_drew ?_ | refine blk_alloc ?_ _)); exact fa⟩, ⟨by (with_reducible repeat (first | refine blk_drewN ?_ _ | refine blk_drew ?_ | refine blk_alloc ?_ _)); refine blk_far ?_ NB371_378.out _; (with_reducible repeat (first | refine blk_drewN ?_ _ | refine blk_drew ?_ | refine blk_alloc ?_ _)); refine blk_far ?_ NB371_378.out _; (with_reducible repeat (first | refine blk_drewN ?_ _ | refine blk_drew ?_ | refine blk_alloc ?_ _)); exact fa⟩, ⟨by (with_reducible repeat (first | refine blk_drewN ?_ _ | refine blk_drew ?_ | refine blk_alloc ?_ _)); refine blk_far ?_ NB372_378.out _; (with_reducible repeat (first | refine blk_drewN ?_ _ | refine blk_drew ?_ | refine blk_alloc ?_ _)); refine blk_far ?_ NB372_378.out _; (with_reducible repeat (first | refine blk_drewN ?_ _ | refine blk_drew ?_ | refine blk_alloc ?_ _)); exact fa⟩, ⟨fa⟩⟩
           ·
            rw [if_neg c51] at H
            have c51b0 : (t375 == 0) = false := beq_eq_false_iff_ne.mpr c51
            have c51b1 : (t375 != 0) = true := bne_iff_ne.mpr c51
            by_cases c73 : x373002_2.length < 4398046511104
            ·
             rw [if_pos c73] at H
             have LMc73 := Fa.mk c73
             clear c73
             obtain ⟨y379, hy379⟩ : ∃ y_ : List (S47), y_ = (x373002_2 ++ [(⟨(rd_T47 l1_2 x41_2).f0, (⟨t375, t376⟩ : S23)⟩ : S47)]) := ⟨_, rfl⟩
             replace H : (fleuronref08_each.l0 k2 a0 l1_2 (l1_2.length : Int) (wrap64 (x41_2 + 1)) a2_0 a2_1 t368 t369 y379) = some (r1, r2, r3, r4) := by first | (rw [hy379]; with_reducible exact H) | (have H2_ := (Option.bind_some _ _).symm.trans H; rw [hy379]; with_reducible exact H2_) | (have H2_ := (Option.bind_some _ _).symm.trans H; with_reducible exact H2_) | with_reducible exact H | (rw [hy379]; exact H) | exact H
             have Ny379 := Fa.mk hy379
             clear hy379
             have H' := Fa.mk H
             clear H
             have p373 : 0 ≤ (x41_2 : Int) := of_decide_eq_true (by first | (with_reducible assumption) | assumption)
             have q373 : x41_2 < (l1_2.length : Int) := of_decide_eq_true (by first | (with_reducible assumption) | assumption)
             obtain ⟨ad373, e373, hx373_0, hx373_1, hx373_2⟩ := at_T47 HR1_2.out x41_2 p373 q373
             cases e373
             replace hx373_0 := (HB.out.cell (World.block_lt_of_cell? w _ hx373_0)).trans hx373_0
             replace hx373_1 := (HB.out.cell (World.block_lt_of_cell? w _ hx373_1)).trans hx373_1
             replace hx373_2 := (HB.out.cell (World.block_lt_of_cell? w _ hx373_2)).trans hx373_2
             replace p373 := eq_true p373
             replace q373 := eq_true q373
             go_wp2_with (first | ((with_reducible refine gate_dst (N := 12) rfl ?_); refine boxF (N := 12) (cs := #[.string (⟨#[]⟩ : ByteArray), .int .i64 0, .int .i64 0]) (t := 47) ?_; intro gb374 hg w74 hbox hb; have hS := Stp.mk hb; have HO_373002 := Fa.mk (Kd.R_below (Kd.R_elderB (by (with_reducible repeat (first | apply Kd.R_alloc | apply Kd.R_drewN | apply Kd.R_drew)); exact HO_373002.out) gb374 (Nat.le_of_eq hg.symm)) hb); have BK364 := (⟨fa⟩ : Fa (w74.heap[gb364]? = some (.cells #[.int .i64 a2_0, .int .i64 a2_1] 23 (0, 0)))); have BK374 := Fa.mk (hbox); have GW374 := Fa.mk (gle hg : w.heap.size ≤ gb374); have GE374 := GW374; have NB363_374 := Fa.mk (gne (o := .cells #[.int .i64 a1_0, .int .i64 a1_1, .slice (some ad373) l1_2.length c1_2] 26 (0, 0)) hg : gb363 ≠ gb374); have NB374_363 := Fa.mk NB363_374.out.symm; have NB364_374 := Fa.mk (gne (o := .cells #[.int .i64 a2_0, .int .i64 a2_1] 23 (0, 0)) hg : gb364 ≠ gb374); have NB374_364 := Fa.mk NB364_374.out.symm; have NB365_374 := Fa.mk (gne (o := .cells #[.int .i64 x366000_2, .int .i64 x366001_2, .slice none 0 0] 26 (0, 0)) hg : gb365 ≠ gb374); have NB374_365 := Fa.mk NB365_374.out.symm; have NB371_374 := Fa.mk (gne (o := .cells #[.int .i64 t368, .int .i64 t369] 23 (0, 0)) hg : gb371 ≠ gb374); have NB374_371 := Fa.mk NB371_374.out.symm; have NB372_374 := Fa.mk (gne (o := .cells #[.int .i64 t368, .int .i64 t369, u373002] 26 (0, 0)) hg : gb372 ≠ gb374); have NB374_372 := Fa.mk NB372_374.out.symm; clear hb hbox hg; have hnb75 := NB374_363.out; have hnc75 := NB363_374.out; have hnb76 := NB374_364.out; have hnc76 := NB364_374.out; have hnb77 := NB374_365.out; have hnc77 := NB365_374.out; have hnb78 := NB374_371.out; have hnc78 := NB371_374.out; have hnb79 := NB374_372.out; have hnc79 := NB372_374.out; have hcz80_0 := jcell BK374.out (i := 0) rfl; have hcz80_1 := jcell BK374.out (i := 1) rfl; have hcz80_2 := jcell BK374.out (i := 2) rfl; have hfz80_0 := blk_frozen BK374.out 0; have hfz80_1 := blk_frozen BK374.out 1; have hfz80_2 := blk_frozen BK374.out 2; have hnb81 := NB364_363.out; have hnc81 := NB363_364.out; have hnb82 := NB364_365.out; have hnc82 := NB365_364.out; have hnb83 := NB364_371.out; have hnc83 := NB371_364.out; have hnb84 := NB364_372.out; have hnc84 := NB372_364.out; have hcz85_0 := jcell BK364.out (i := 0) rfl; have hcz85_1 := jcell BK364.out (i := 1) rfl; have hfz85_0 := blk_frozen BK364.out 0; have hfz85_1 := blk_frozen BK364.out 1) | ((with_reducible refine gate_callee (f := 57) rfl ?_); refine goesA (some 50) rfl rfl Tryz.func57 (by kernel_rfl) rfl #[.string a0, .agg #[.int .i64 ((rd_T47 l1_2 x41_2).f1.f0), .int .i64 ((rd_T47 l1_2 x41_2).f1.f1)], .agg #[.int .i64 a2_0, .int .i64 a2_1]] rfl ?_; (with_reducible refine (fleuronref01_Near.calls k2 a0 ((rd_T47 l1_2 x41_2).f1.f0) ((rd_T47 l1_2 x41_2).f1.f1) a2_0 a2_1 t375 t376 t377 _ A49.out).mono ?_); rintro e w86 ⟨rfl, hb⟩; refine ⟨_, rfl, ?_⟩; have hS := Stp.mk hb; have HO_373002 := Fa.mk (Kd.R_below (by (with_reducible repeat (first | apply Kd.R_alloc | apply Kd.R_drewN | apply Kd.R_drew)); exact (Kd.R_mono (Kd.R_far (p := ⟨gb374, 2, none⟩) (Kd.R_far (p := ⟨gb374, 1, none⟩) (Kd.R_far (p := ⟨gb374, 0, none⟩) (Kd.R_mono HO_373002.out (fun k_ hk => (⟨hk, hk.2⟩ : _ ∧ k_ ≠ gb374))) (fun _ hk => hk.2) (.string ((rd_T47 l1_2 x41_2).f0))) (fun _ hk => hk.2) (.int .i64 ((rd_T47 l1_2 x41_2).f1.f0))) (fun _ hk => hk.2) (.int .i64 ((rd_T47 l1_2 x41_2).f1.f1))) (fun _ h_ => h_.1))) hb); have BK374 := Fa.mk (blk_below (g := gb374) (o := .cells #[.string ((rd_T47 l1_2 x41_2).f0), .int .i64 ((rd_T47 l1_2 x41_2).f1.f0), .int .i64 ((rd_T47 l1_2 x41_2).f1.f1)] 47 (0, 0)) (by (with_reducible repeat (first | refine blk_drewN ?_ _ | refine blk_drew ?_ | refine blk_alloc ?_ _)); refine blk_put (cs := #[.string ((rd_T47 l1_2 x41_2).f0), .int .i64 ((rd_T47 l1_2 x41_2).f1.f0), .int .i64 0]) ?_ 2 _ rfl; (with_reducible repeat (first | refine blk_drewN ?_ _ | refine blk_drew ?_ | refine blk_alloc ?_ _)); refine blk_put (cs := #[.string ((rd_T47 l1_2 x41_2).f0), .int .i64 0, .int .i64 0]) ?_ 1 _ rfl; (with_reducible repeat (first | refine blk_drewN ?_ _ | refine blk_drew ?_ | refine blk_alloc ?_ _)); refine blk_put (cs := #[.string (⟨#[]⟩ : ByteArray), .int .i64 0, .int .i64 0]) ?_ 0 _ rfl; (with_reducible repeat (first | refine blk_drewN ?_ _ | refine blk_drew ?_ | refine blk_alloc ?_ _)); exact fa) hb); clear hb) | ((with_reducible refine gate_dst (N := 13) rfl ?_); refine boxF (N := 13) (cs := #[.int .i64 0, .int .i64 0]) (t := 23) ?_; intro gb378 hg w87 hbox hb; have hS := Stp.mk hb; have HO_373002 := Fa.mk (Kd.R_below (by (with_reducible repeat (first | apply Kd.R_alloc | apply Kd.R_drewN | apply Kd.R_drew)); exact HO_373002.out) hb); have BK372 := (⟨fa⟩ : Fa (w87.heap[gb372]? = some (.cells #[.int .i64 t368, .int .i64 t369, u373002] 26 (0, 0)))); have BK374 := (⟨fa⟩ : Fa (w87.heap[gb374]? = some (.cells #[.string ((rd_T47 l1_2 x41_2).f0), .int .i64 ((rd_T47 l1_2 x41_2).f1.f0), .int .i64 ((rd_T47 l1_2 x41_2).f1.f1)] 47 (0, 0)))); have BK378 := Fa.mk (hbox); have GW378 := Fa.mk (gle hg : w.heap.size ≤ gb378); have GE378 := GW378; have NB363_378 := Fa.mk (gne (o := .cells #[.int .i64 a1_0, .int .i64 a1_1, .slice (some ad373) l1_2.length c1_2] 26 (0, 0)) hg : gb363 ≠ gb378); have NB378_363 := Fa.mk NB363_378.out.symm; have NB364_378 := Fa.mk (gne (o := .cells #[.int .i64 a2_0, .int .i64 a2_1] 23 (0, 0)) hg : gb364 ≠ gb378); have NB378_364 := Fa.mk NB364_378.out.symm; have NB365_378 := Fa.mk (gne (o := .cells #[.int .i64 x366000_2, .int .i64 x366001_2, .slice none 0 0] 26 (0, 0)) hg : gb365 ≠ gb378); have NB378_365 := Fa.mk NB365_378.out.symm; have NB371_378 := Fa.mk (gne (o := .cells #[.int .i64 t368, .int .i64 t369] 23 (0, 0)) hg : gb371 ≠ gb378); have NB378_371 := Fa.mk NB371_378.out.symm; have NB372_378 := Fa.mk (gne (o := .cells #[.int .i64 t368, .int .i64 t369, u373002] 26 (0, 0)) hg : gb372 ≠ gb378); have NB378_372 := Fa.mk NB372_378.out.symm; have NB374_378 := Fa.mk (gne (o := .cells #[.string ((rd_T47 l1_2 x41_2).f0), .int .i64 ((rd_T47 l1_2 x41_2).f1.f0), .int .i64 ((rd_T47 l1_2 x41_2).f1.f1)] 47 (0, 0)) hg : gb374 ≠ gb378); have NB378_374 := Fa.mk NB374_378.out.symm; clear hb hbox hg; have hnb88 := NB378_363.out; have hnc88 := NB363_378.out; have hnb89 := NB378_364.out; have hnc89 := NB364_378.out; have hnb90 := NB378_365.out; have hnc90 := NB365_378.out; have hnb91 := NB378_371.out; have hnc91 := NB371_378.out; have hnb92 := NB378_372.out; have hnc92 := NB372_378.out; have hnb93 := NB378_374.out; have hnc93 := NB374_378.out; have hcz94_0 := jcell BK378.out (i := 0) rfl; have hcz94_1 := jcell BK378.out (i := 1) rfl; have hfz94_0 := blk_frozen BK378.out 0; have hfz94_1 := blk_frozen BK378.out 1; have hnb95 := NB372_363.out; have hnc95 := NB363_372.out; have hnb96 := NB372_365.out; have hnc96 := NB365_372.out; have hnb97 := NB372_371.out; have hnc97 := NB371_372.out; have hcz98_0 := jcell BK372.out (i := 0) rfl; have hcz98_1 := jcell BK372.out (i := 1) rfl; have hcz98_2 := jcell BK372.out (i := 2) rfl; have hfz98_0 := blk_frozen BK372.out 0; have hfz98_1 := blk_frozen BK372.out 1; have hfz98_2 := blk_frozen BK372.out 2; have hcz99_0 : w87.cell? ⟨gb374, 0, none⟩ = some (.string ((rd_T47 l1_2 x41_2).f0)) := (blk_cell BK374.out 0).trans rfl; have hcz99_1 : w87.cell? ⟨gb374, 1, none⟩ = some (.int .i64 ((rd_T47 l1_2 x41_2).f1.f0)) := (blk_cell BK374.out 1).trans rfl; have hcz99_2 : w87.cell? ⟨gb374, 2, none⟩ = some (.int .i64 ((rd_T47 l1_2 x41_2).f1.f1)) := (blk_cell BK374.out 2).trans rfl; have hfz99_0 := blk_frozen BK374.out 0; have hfz99_1 := blk_frozen BK374.out 1; have hfz99_2 := blk_frozen BK374.out 2) | ((with_reducible refine gate_builtin (b := .append) (xs := #[.tmp 61, .tmp 66]) rfl ?_); have BK363 := (⟨fa⟩ : Fa (w87.heap[gb363]? = some (.cells #[.int .i64 a1_0, .int .i64 a1_1, .slice (some ad373) l1_2.length c1_2] 26 (0, 0)))); have BK364 := (⟨fa⟩ : Fa (w87.heap[gb364]? = some (.cells #[.int .i64 a2_0, .int .i64 a2_1] 23 (0, 0)))); have BK365 := (⟨fa⟩ : Fa (w87.heap[gb365]? = some (.cells #[.int .i64 x366000_2, .int .i64 x366001_2, .slice none 0 0] 26 (0, 0)))); have BK371 := (⟨fa⟩ : Fa (w87.heap[gb371]? = some (.cells #[.int .i64 t368, .int .i64 t369] 23 (0, 0)))); at_builtin; refine Kd.R_append k47 (w0 := w) w.heap.size rfl (.tmp 61) (.tmp 66) 24 47 (.agg #[(.string ⟨#[]⟩), (.int .i64 0), (.int .i64 0)]) 32 rfl Tryz.underlying24 info47 rfl (by decide) (by omega) u373002 x373002_2 (⟨(rd_T47 l1_2 x41_2).f0, (⟨t375, t376⟩ : S23)⟩ : S47) [.string ((rd_T47 l1_2 x41_2).f0), .int .i64 t375, .int .i64 t376] (fun k_ => k_ ≠ gb374) (fun _ => False) rfl (by first | (go_simp; done) | (go_simp; rfl)) ?aP (fun _ hk => hk.elim) ?aF ?aO ?aB ?aS ?aL ?_; (case aP => exact k47_mkM _ _ _ (⟨(rd_T47 l1_2 x41_2).f0, (⟨t375, t376⟩ : S23)⟩ : S47)); (case aB => exact fa); (case aF => exact (fun k_ hk => Kd.freshB (g := gb374) (o := .cells #[.string ((rd_T47 l1_2 x41_2).f0), .int .i64 ((rd_T47 l1_2 x41_2).f1.f0), .int .i64 ((rd_T47 l1_2 x41_2).f1.f1)] 47 (0, 0)) (by (with_reducible repeat (first | refine blk_drewN ?_ _ | refine blk_drew ?_ | refine blk_alloc ?_ _)); refine blk_far ?_ NB374_378.out _; (with_reducible repeat (first | refine blk_drewN ?_ _ | refine blk_drew ?_ | refine blk_alloc ?_ _)); refine blk_far ?_ NB374_378.out _; (with_reducible repeat (first | refine blk_drewN ?_ _ | refine blk_drew ?_ | refine blk_alloc ?_ _)); exact BK374.out) k_ hk)); (case aO => exact (by (with_reducible repeat (first | apply Kd.R_alloc | apply Kd.R_drewN | apply Kd.R_drew)); exact Kd.R_mono (Kd.R_far (p := ⟨gb378, 1, none⟩) (Kd.R_far (p := ⟨gb378, 0, none⟩) (Kd.R_types HO_373002.out BK378.out (by decide)) (fun _ hk => hk.2) (.int .i64 t375)) (fun _ hk => hk.2) (.int .i64 t376)) (fun _ hk => hk.1.2))); (case aS => exact (bsz w)); (case aL => have := LMc73.out; omega); intro v380 w100 ho hb hg hat; rw [← Ny379.out] at ho; have n0_ := Fa.mk (blk_grown (g := gb363) (o := .cells #[.int .i64 a1_0, .int .i64 a1_1, .slice (some ad373) l1_2.length c1_2] 26 (0, 0)) (by (with_reducible repeat (first | refine blk_drewN ?_ _ | refine blk_drew ?_ | refine blk_alloc ?_ _)); refine blk_far ?_ NB363_378.out _; (with_reducible repeat (first | refine blk_drewN ?_ _ | refine blk_drew ?_ | refine blk_alloc ?_ _)); refine blk_far ?_ NB363_378.out _; (with_reducible repeat (first | refine blk_drewN ?_ _ | refine blk_drew ?_ | refine blk_alloc ?_ _)); exact BK363.out) hg (Kd.R_ne HO_373002.out BK363.out (by decide))); have n1_ := Fa.mk (blk_grown (g := gb364) (o := .cells #[.int .i64 a2_0, .int .i64 a2_1] 23 (0, 0)) (by (with_reducible repeat (first | refine blk_drewN ?_ _ | refine blk_drew ?_ | refine blk_alloc ?_ _)); refine blk_far ?_ NB364_378.out _; (with_reducible repeat (first | refine blk_drewN ?_ _ | refine blk_drew ?_ | refine blk_alloc ?_ _)); refine blk_far ?_ NB364_378.out _; (with_reducible repeat (first | refine blk_drewN ?_ _ | refine blk_drew ?_ | refine blk_alloc ?_ _)); exact BK364.out) hg (Kd.R_ne HO_373002.out BK364.out (by decide))); have n2_ := Fa.mk (blk_grown (g := gb365) (o := .cells #[.int .i64 x366000_2, .int .i64 x366001_2, .slice none 0 0] 26 (0, 0)) (by (with_reducible repeat (first | refine blk_drewN ?_ _ | refine blk_drew ?_ | refine blk_alloc ?_ _)); refine blk_far ?_ NB365_378.out _; (with_reducible repeat (first | refine blk_drewN ?_ _ | refine blk_drew ?_ | refine blk_alloc ?_ _)); refine blk_far ?_ NB365_378.out _; (with_reducible repeat (first | refine blk_drewN ?_ _ | refine blk_drew ?_ | refine blk_alloc ?_ _)); exact BK365.out) hg (Kd.R_ne HO_373002.out BK365.out (by decide))); have n3_ := Fa.mk (blk_grown (g := gb371) (o := .cells #[.int .i64 t368, .int .i64 t369] 23 (0, 0)) (by (with_reducible repeat (first | refine blk_drewN ?_ _ | refine blk_drew ?_ | refine blk_alloc ?_ _)); refine blk_far ?_ NB371_378.out _; (with_reducible repeat (first | refine blk_drewN ?_ _ | refine blk_drew ?_ | refine blk_alloc ?_ _)); refine blk_far ?_ NB371_378.out _; (with_reducible repeat (first | refine blk_drewN ?_ _ | refine blk_drew ?_ | refine blk_alloc ?_ _)); exact BK371.out) hg (Kd.R_ne HO_373002.out BK371.out (by decide))); have n4_ := Fa.mk (blk_grown (g := gb372) (o := .cells #[.int .i64 t368, .int .i64 t369, u373002] 26 (0, 0)) (by (with_reducible repeat (first | refine blk_drewN ?_ _ | refine blk_drew ?_ | refine blk_alloc ?_ _)); refine blk_far ?_ NB372_378.out _; (with_reducible repeat (first | refine blk_drewN ?_ _ | refine blk_drew ?_ | refine blk_alloc ?_ _)); refine blk_far ?_ NB372_378.out _; (with_reducible repeat (first | refine blk_drewN ?_ _ | refine blk_drew ?_ | refine blk_alloc ?_ _)); exact BK372.out) hg (Kd.R_ne HO_373002.out BK372.out (by decide))); have n5_ := Fa.mk (blk_grown (g := gb374) (o := .cells #[.string ((rd_T47 l1_2 x41_2).f0), .int .i64 ((rd_T47 l1_2 x41_2).f1.f0), .int .i64 ((rd_T47 l1_2 x41_2).f1.f1)] 47 (0, 0)) (by (with_reducible repeat (first | refine blk_drewN ?_ _ | refine blk_drew ?_ | refine blk_alloc ?_ _)); refine blk_far ?_ NB374_378.out _; (with_reducible repeat (first | refine blk_drewN ?_ _ | refine blk_drew ?_ | refine blk_alloc ?_ _)); refine blk_far ?_ NB374_378.out _; (with_reducible repeat (first | refine blk_drewN ?_ _ | refine blk_drew ?_ | refine blk_alloc ?_ _)); exact BK374.out) hg (Kd.R_away HO_373002.out (fun _ hk => hk.2))); have n6_ := Fa.mk (blk_grown (g := gb378) (o := .cells #[.int .i64 t375, .int .i64 t376] 23 (0, 0)) (by (with_reducible repeat (first | refine blk_drewN ?_ _ | refine blk_drew ?_ | refine blk_alloc ?_ _)); refine blk_put (cs := #[.int .i64 t375, .int .i64 0]) ?_ 1 _ rfl; (with_reducible repeat (first | refine blk_drewN ?_ _ | refine blk_drew ?_ | refine blk_alloc ?_ _)); refine blk_put (cs := #[.int .i64 0, .int .i64 0]) ?_ 0 _ rfl; (with_reducible repeat (first | refine blk_drewN ?_ _ | refine blk_drew ?_ | refine blk_alloc ?_ _)); exact BK378.out) hg (Kd.R_ne HO_373002.out BK378.out (by decide))); have n7_ := Fa.mk (hb); have n8_ := Fa.mk (ho); clear BK363; clear BK364; clear BK365; clear BK371; clear BK372; clear BK374; clear BK378; clear HB; clear HO_373002; have BK363 := n0_; have BK364 := n1_; have BK365 := n2_; have BK371 := n3_; have BK372 := n4_; have BK374 := n5_; have BK378 := n6_; have HB := n7_; have HO381 := n8_; clear n0_ n1_ n2_ n3_ n4_ n5_ n6_ n7_ n8_; clear ho hb hg hat; obtain ⟨Ao101, co101, eo101⟩ := Kd.R_slice HO381.out; subst eo101; have hcz102_0 := jcell BK372.out (i := 0) rfl; have hcz102_1 := jcell BK372.out (i := 1) rfl; have hcz102_2 := jcell BK372.out (i := 2) rfl; have hfz102_0 := blk_frozen BK372.out 0; have hfz102_1 := blk_frozen BK372.out 1; have hfz102_2 := blk_frozen BK372.out 2))
             go_roundg k2
             case measure => have := HJ3.out; have := HK2.out; omega
             case rel => exact ⟨(wrap64 (x41_2 + 1)), (x366000_2), (x366001_2), (y379), (.slice Ao101 y379.length co101), (by first | rfl | (simp; done) | (simp [*]; done)), H', ⟨by have := HJ3.out; have := HK2.out; omega⟩, ⟨by (with_reducible repeat (first | apply Kd.R_alloc | apply Kd.R_drewN | apply Kd.R_drew)); exact Kd.R_mono (Kd.R_far (p := ⟨gb372, 2, none⟩) (Kd.R_types HO381.out BK372.out (by decide)) (fun _ hk => hk.2) (.slice Ao101 y379.length co101)) (fun _ hk => trivial)⟩, ⟨by (with_reducible repeat (first | refine blk_drewN ?_ _ | refine blk_drew ?_ | refine blk_alloc ?_ _)); refine blk_far ?_ NB363_372.out _; (with_reducible repeat (first | refine blk_drewN ?_ _ | refine blk_drew ?_ | refine blk_alloc ?_ _)); exact fa⟩, ⟨by (with_reducible repeat (first | refine blk_drewN ?_ _ | refine blk_drew ?_ | refine blk_alloc ?_ _)); refine blk_far ?_ NB364_372.out _; (with_reducible repeat (first | refine blk_drewN ?_ _ | refine blk_drew ?_ | refine blk_alloc ?_ _)); exact fa⟩, ⟨by (with_reducible repeat (first | refine blk_drewN ?_ _ | refine blk_drew ?_ | refine blk_alloc ?_ _)); refine blk_far ?_ NB365_372.out _; (with_reducible repeat (first | refine blk_drewN ?_ _ | refine blk_drew ?_ | refine blk_alloc ?_ _)); exact fa⟩, ⟨by (with_reducible repeat (first | refine blk_drewN ?_ _ | refine blk_drew ?_ | refine blk_alloc ?_ _)); refine blk_far ?_ NB371_372.out _; (with_reducible repeat (first | refine blk_drewN ?_ _ | refine blk_drew ?_ | refine blk_alloc ?_ _)); exact fa⟩, ⟨by (with_reducible repeat (first | refine blk_drewN ?_ _ | refine blk_drew ?_ | refine blk_alloc ?_ _)); refine blk_put (cs := #[.int .i64 t368, .int .i64 t369, u373002]) ?_ 2 _ rfl; (with_reducible repeat (first | refine blk_drewN ?_ _ | refine blk_drew ?_ | refine blk_alloc ?_ _)); exact fa⟩, ⟨fa⟩⟩
            ·
             rw [if_neg c73] at H
             exact absurd H (by simp)
          ·
           rw [if_neg c50] at H
           have c50b0 : (t377 == 0) = false := beq_eq_false_iff_ne.mpr c50
           have c50b1 : (t377 != 0) = true := bne_iff_ne.mpr c50
           simp only [Option.some.injEq, Prod.mk.injEq] at H
           obtain ⟨rfl, rfl, rfl, rfl⟩ := H
           have p373 : 0 ≤ (x41_2 : Int) := of_decide_eq_true (by first | (with_reducible assumption) | assumption)
           have q373 : x41_2 < (l1_2.length : Int) := of_decide_eq_true (by first | (with_reducible assumption) | assumption)
           obtain ⟨ad373, e373, hx373_0, hx373_1, hx373_2⟩ := at_T47 HR1_2.out x41_2 p373 q373
           cases e373
           replace hx373_0 := (HB.out.cell (World.block_lt_of_cell? w _ hx373_0)).trans hx373_0
           replace hx373_1 := (HB.out.cell (World.block_lt_of_cell? w _ hx373_1)).trans hx373_1
           replace hx373_2 := (HB.out.cell (World.block_lt_of_cell? w _ hx373_2)).trans hx373_2
           replace p373 := eq_true p373
           replace q373 := eq_true q373
           go_wp2_with (first | ((with_reducible refine gate_dst (N := 12) rfl ?_); refine boxF (N := 12) (cs := #[.string (⟨#[]⟩ : ByteArray), .int .i64 0, .int .i64 0]) (t := 47) ?_; intro gb374 hg w103 hbox hb; have hS := Stp.mk hb; have HO_373002 := Fa.mk (Kd.R_below (Kd.R_elderB (by (with_reducible repeat (first | apply Kd.R_alloc | apply Kd.R_drewN | apply Kd.R_drew)); exact HO_373002.out) gb374 (Nat.le_of_eq hg.symm)) hb); have BK364 := (⟨fa⟩ : Fa (w103.heap[gb364]? = some (.cells #[.int .i64 a2_0, .int .i64 a2_1] 23 (0, 0)))); have BK374 := Fa.mk (hbox); have GW374 := Fa.mk (gle hg : w.heap.size ≤ gb374); have GE374 := GW374; have NB363_374 := Fa.mk (gne (o := .cells #[.int .i64 a1_0, .int .i64 a1_1, .slice (some ad373) l1_2.length c1_2] 26 (0, 0)) hg : gb363 ≠ gb374); have NB374_363 := Fa.mk NB363_374.out.symm; have NB364_374 := Fa.mk (gne (o := .cells #[.int .i64 a2_0, .int .i64 a2_1] 23 (0, 0)) hg : gb364 ≠ gb374); have NB374_364 := Fa.mk NB364_374.out.symm; have NB365_374 := Fa.mk (gne (o := .cells #[.int .i64 x366000_2, .int .i64 x366001_2, .slice none 0 0] 26 (0, 0)) hg : gb365 ≠ gb374); have NB374_365 := Fa.mk NB365_374.out.symm; have NB371_374 := Fa.mk (gne (o := .cells #[.int .i64 t368, .int .i64 t369] 23 (0, 0)) hg : gb371 ≠ gb374); have NB374_371 := Fa.mk NB371_374.out.symm; have NB372_374 := Fa.mk (gne (o := .cells #[.int .i64 t368, .int .i64 t369, u373002] 26 (0, 0)) hg : gb372 ≠ gb374); have NB374_372 := Fa.mk NB372_374.out.symm; clear hb hbox hg; have hnb104 := NB374_363.out; have hnc104 := NB363_374.out; have hnb105 := NB374_364.out; have hnc105 := NB364_374.out; have hnb106 := NB374_365.out; have hnc106 := NB365_374.out; have hnb107 := NB374_371.out; have hnc107 := NB371_374.out; have hnb108 := NB374_372.out; have hnc108 := NB372_374.out; have hcz109_0 := jcell BK374.out (i := 0) rfl; have hcz109_1 := jcell BK374.out (i := 1) rfl; have hcz109_2 := jcell BK374.out (i := 2) rfl; have hfz109_0 := blk_frozen BK374.out 0; have hfz109_1 := blk_frozen BK374.out 1; have hfz109_2 := blk_frozen BK374.out 2; have hnb110 := NB364_363.out; have hnc110 := NB363_364.out; have hnb111 := NB364_365.out; have hnc111 := NB365_364.out; have hnb112 := NB364_371.out; have hnc112 := NB371_364.out; have hnb113 := NB364_372.out; have hnc113 := NB372_364.out; have hcz114_0 := jcell BK364.out (i := 0) rfl; have hcz114_1 := jcell BK364.out (i := 1) rfl; have hfz114_0 := blk_frozen BK364.out 0; have hfz114_1 := blk_frozen BK364.out 1) | ((with_reducible refine gate_callee (f := 57) rfl ?_); refine goesA (some 50) rfl rfl Tryz.func57 (by kernel_rfl) rfl #[.string a0, .agg #[.int .i64 ((rd_T47 l1_2 x41_2).f1.f0), .int .i64 ((rd_T47 l1_2 x41_2).f1.f1)], .agg #[.int .i64 a2_0, .int .i64 a2_1]] rfl ?_; (with_reducible refine (fleuronref01_Near.calls k2 a0 ((rd_T47 l1_2 x41_2).f1.f0) ((rd_T47 l1_2 x41_2).f1.f1) a2_0 a2_1 t375 t376 t377 _ A49.out).mono ?_); rintro e w115 ⟨rfl, hb⟩; refine ⟨_, rfl, ?_⟩; have hS := Stp.mk hb; have HO_373002 := Fa.mk (Kd.R_below (by (with_reducible repeat (first | apply Kd.R_alloc | apply Kd.R_drewN | apply Kd.R_drew)); exact (Kd.R_mono (Kd.R_far (p := ⟨gb374, 2, none⟩) (Kd.R_far (p := ⟨gb374, 1, none⟩) (Kd.R_far (p := ⟨gb374, 0, none⟩) (Kd.R_mono HO_373002.out (fun k_ hk => (⟨hk, hk.2⟩ : _ ∧ k_ ≠ gb374))) (fun _ hk => hk.2) (.string ((rd_T47 l1_2 x41_2).f0))) (fun _ hk => hk.2) (.int .i64 ((rd_T47 l1_2 x41_2).f1.f0))) (fun _ hk => hk.2) (.int .i64 ((rd_T47 l1_2 x41_2).f1.f1))) (fun _ h_ => h_.1))) hb); have BK374 := Fa.mk (blk_below (g := gb374) (o := .cells #[.string ((rd_T47 l1_2 x41_2).f0), .int .i64 ((rd_T47 l1_2 x41_2).f1.f0), .int .i64 ((rd_T47 l1_2 x41_2).f1.f1)] 47 (0, 0)) (by (with_reducible repeat (first | refine blk_drewN ?_ _ | refine blk_drew ?_ | refine blk_alloc ?_ _)); refine blk_put (cs := #[.string ((rd_T47 l1_2 x41_2).f0), .int .i64 ((rd_T47 l1_2 x41_2).f1.f0), .int .i64 0]) ?_ 2 _ rfl; (with_reducible repeat (first | refine blk_drewN ?_ _ | refine blk_drew ?_ | refine blk_alloc ?_ _)); refine blk_put (cs := #[.string ((rd_T47 l1_2 x41_2).f0), .int .i64 0, .int .i64 0]) ?_ 1 _ rfl; (with_reducible repeat (first | refine blk_drewN ?_ _ | refine blk_drew ?_ | refine blk_alloc ?_ _)); refine blk_put (cs := #[.string (⟨#[]⟩ : ByteArray), .int .i64 0, .int .i64 0]) ?_ 0 _ rfl; (with_reducible repeat (first | refine blk_drewN ?_ _ | refine blk_drew ?_ | refine blk_alloc ?_ _)); exact fa) hb); clear hb) | ((with_reducible refine gate_dst (N := 13) rfl ?_); refine boxF (N := 13) (cs := #[.int .i64 0, .int .i64 0]) (t := 23) ?_; intro gb378 hg w116 hbox hb; have hS := Stp.mk hb; have HO_373002 := Fa.mk (Kd.R_below (by (with_reducible repeat (first | apply Kd.R_alloc | apply Kd.R_drewN | apply Kd.R_drew)); exact HO_373002.out) hb); have BK365 := (⟨fa⟩ : Fa (w116.heap[gb365]? = some (.cells #[.int .i64 x366000_2, .int .i64 x366001_2, .slice none 0 0] 26 (0, 0)))); have BK378 := Fa.mk (hbox); have GW378 := Fa.mk (gle hg : w.heap.size ≤ gb378); have GE378 := GW378; have NB363_378 := Fa.mk (gne (o := .cells #[.int .i64 a1_0, .int .i64 a1_1, .slice (some ad373) l1_2.length c1_2] 26 (0, 0)) hg : gb363 ≠ gb378); have NB378_363 := Fa.mk NB363_378.out.symm; have NB364_378 := Fa.mk (gne (o := .cells #[.int .i64 a2_0, .int .i64 a2_1] 23 (0, 0)) hg : gb364 ≠ gb378); have NB378_364 := Fa.mk NB364_378.out.symm; have NB365_378 := Fa.mk (gne (o := .cells #[.int .i64 x366000_2, .int .i64 x366001_2, .slice none 0 0] 26 (0, 0)) hg : gb365 ≠ gb378); have NB378_365 := Fa.mk NB365_378.out.symm; have NB371_378 := Fa.mk (gne (o := .cells #[.int .i64 t368, .int .i64 t369] 23 (0, 0)) hg : gb371 ≠ gb378); have NB378_371 := Fa.mk NB371_378.out.symm; have NB372_378 := Fa.mk (gne (o := .cells #[.int .i64 t368, .int .i64 t369, u373002] 26 (0, 0)) hg : gb372 ≠ gb378); have NB378_372 := Fa.mk NB372_378.out.symm; have NB374_378 := Fa.mk (gne (o := .cells #[.string ((rd_T47 l1_2 x41_2).f0), .int .i64 ((rd_T47 l1_2 x41_2).f1.f0), .int .i64 ((rd_T47 l1_2 x41_2).f1.f1)] 47 (0, 0)) hg : gb374 ≠ gb378); have NB378_374 := Fa.mk NB374_378.out.symm; clear hb hbox hg; have hnb117 := NB378_363.out; have hnc117 := NB363_378.out; have hnb118 := NB378_364.out; have hnc118 := NB364_378.out; have hnb119 := NB378_365.out; have hnc119 := NB365_378.out; have hnb120 := NB378_371.out; have hnc120 := NB371_378.out; have hnb121 := NB378_372.out; have hnc121 := NB372_378.out; have hnb122 := NB378_374.out; have hnc122 := NB374_378.out; have hcz123_0 := jcell BK378.out (i := 0) rfl; have hcz123_1 := jcell BK378.out (i := 1) rfl; have hfz123_0 := blk_frozen BK378.out 0; have hfz123_1 := blk_frozen BK378.out 1; have hnb124 := NB365_363.out; have hnc124 := NB363_365.out; have hnb125 := NB365_371.out; have hnc125 := NB371_365.out; have hnb126 := NB365_372.out; have hnc126 := NB372_365.out; have hcz127_0 := jcell BK365.out (i := 0) rfl; have hcz127_1 := jcell BK365.out (i := 1) rfl; have hcz127_2 := jcell BK365.out (i := 2) rfl; have hfz127_0 := blk_frozen BK365.out 0; have hfz127_1 := blk_frozen BK365.out 1; have hfz127_2 := blk_frozen BK365.out 2))
           refine bodyPost_ret (results_ct rfl _ _ gb365 26 #[.int .i64 0, .int .i64 0, .slice none 0 0] (0, 0) _ rfl (by (with_reducible repeat (first | refine blk_drewN ?_ _ | refine blk_drew ?_ | refine blk_alloc ?_ _)); refine blk_put (cs := #[.int .i64 0, .int .i64 0, .slice none 0 0]) ?_ 2 _ rfl; (with_reducible repeat (first | refine blk_drewN ?_ _ | refine blk_drew ?_ | refine blk_alloc ?_ _)); refine blk_put (cs := #[.int .i64 0, .int .i64 x366001_2, .slice none 0 0]) ?_ 1 _ rfl; (with_reducible repeat (first | refine blk_drewN ?_ _ | refine blk_drew ?_ | refine blk_alloc ?_ _)); refine blk_put (cs := #[.int .i64 x366000_2, .int .i64 x366001_2, .slice none 0 0]) ?_ 0 _ rfl; (with_reducible repeat (first | refine blk_drewN ?_ _ | refine blk_drew ?_ | refine blk_alloc ?_ _)); refine blk_far ?_ NB365_378.out _; (with_reducible repeat (first | refine blk_drewN ?_ _ | refine blk_drew ?_ | refine blk_alloc ?_ _)); refine blk_far ?_ NB365_378.out _; (with_reducible repeat (first | refine blk_drewN ?_ _ | refine blk_drew ?_ | refine blk_alloc ?_ _)); exact fa) Tryz.underlying26 rfl (by kernel_rfl)) rfl ?_
           exact ⟨_, rfl, Kd.R_nil _ _ _ _ _, fa⟩
         ·
          rw [if_neg c48] at H
          exact absurd H (by simp)
        ·
         rw [if_neg c47] at H
         exact absurd H (by simp)
       ·
        rw [if_neg c46] at H
        have c46b0 : decide (x41_2 < (l1_2.length : Int)) = false := decide_eq_false c46
        clear c46
        simp only [Option.some.injEq, Prod.mk.injEq] at H
        obtain ⟨rfl, rfl, rfl, rfl⟩ := H
        have hnb128 := NB372_363.out
        have hnc128 := NB363_372.out
        have hnb129 := NB372_364.out
        have hnc129 := NB364_372.out
        have hnb130 := NB372_365.out
        have hnc130 := NB365_372.out
        have hnb131 := NB372_371.out
        have hnc131 := NB371_372.out
        have hcz132_0 := jcell BK372.out (i := 0) rfl
        have hcz132_1 := jcell BK372.out (i := 1) rfl
        have hcz132_2 := jcell BK372.out (i := 2) rfl
        have hfz132_0 := blk_frozen BK372.out 0
        have hfz132_1 := blk_frozen BK372.out 1
        have hfz132_2 := blk_frozen BK372.out 2
        have hnb133 := NB365_363.out
        have hnc133 := NB363_365.out
        have hnb134 := NB365_364.out
        have hnc134 := NB364_365.out
        have hnb135 := NB365_371.out
        have hnc135 := NB371_365.out
        have hcz136_0 := jcell BK365.out (i := 0) rfl
        have hcz136_1 := jcell BK365.out (i := 1) rfl
        have hcz136_2 := jcell BK365.out (i := 2) rfl
        have hfz136_0 := blk_frozen BK365.out 0
        have hfz136_1 := blk_frozen BK365.out 1
        have hfz136_2 := blk_frozen BK365.out 2
        obtain ⟨Ao137, co137, eo137⟩ := Kd.R_slice HO_373002.out
        subst eo137
        go_wp2
        refine bodyPost_ret (results_ct rfl _ _ gb365 26 #[.int .i64 t368, .int .i64 t369, .slice Ao137 x373002_2.length co137] (0, 0) _ rfl (by (with_reducible repeat (first | refine blk_drewN ?_ _ | refine blk_drew ?_ | refine blk_alloc ?_ _)); refine blk_put (cs := #[.int .i64 t368, .int .i64 t369, .slice none 0 0]) ?_ 2 _ rfl; (with_reducible repeat (first | refine blk_drewN ?_ _ | refine blk_drew ?_ | refine blk_alloc ?_ _)); refine blk_put (cs := #[.int .i64 t368, .int .i64 x366001_2, .slice none 0 0]) ?_ 1 _ rfl; (with_reducible repeat (first | refine blk_drewN ?_ _ | refine blk_drew ?_ | refine blk_alloc ?_ _)); refine blk_put (cs := #[.int .i64 x366000_2, .int .i64 x366001_2, .slice none 0 0]) ?_ 0 _ rfl; (with_reducible repeat (first | refine blk_drewN ?_ _ | refine blk_drew ?_ | refine blk_alloc ?_ _)); exact fa) Tryz.underlying26 rfl (by kernel_rfl)) rfl ?_
        exact ⟨_, rfl, by (with_reducible repeat (first | apply Kd.R_alloc | apply Kd.R_drewN | apply Kd.R_drew)); exact Kd.R_mono (Kd.R_far (p := ⟨gb365, 2, none⟩) (Kd.R_far (p := ⟨gb365, 1, none⟩) (Kd.R_far (p := ⟨gb365, 0, none⟩) (Kd.R_types HO_373002.out BK365.out (by decide)) (fun _ hk => hk.2) (.int .i64 t368)) (fun _ hk => hk.2) (.int .i64 t369)) (fun _ hk => hk.2) (.slice Ao137 x373002_2.length co137)) (fun _ hk => trivial), fa⟩
    ·
     rw [if_neg c27] at H
     have c27b0 : (t370 == 0) = false := beq_eq_false_iff_ne.mpr c27
     have c27b1 : (t370 != 0) = true := bne_iff_ne.mpr c27
     simp only [Option.some.injEq, Prod.mk.injEq] at H
     obtain ⟨rfl, rfl, rfl, rfl⟩ := H
     have hnb138 := NB363_364.out
     have hnc138 := NB364_363.out
     have hnb139 := NB363_365.out
     have hnc139 := NB365_363.out
     have hcz140_0 := jcell BK363.out (i := 0) rfl
     have hcz140_1 := jcell BK363.out (i := 1) rfl
     have hcz140_2 := jcell BK363.out (i := 2) rfl
     have hfz140_0 := blk_frozen BK363.out 0
     have hfz140_1 := blk_frozen BK363.out 1
     have hfz140_2 := blk_frozen BK363.out 2
     have hnb141 := NB364_365.out
     have hnc141 := NB365_364.out
     have hcz142_0 := jcell BK364.out (i := 0) rfl
     have hcz142_1 := jcell BK364.out (i := 1) rfl
     have hfz142_0 := blk_frozen BK364.out 0
     have hfz142_1 := blk_frozen BK364.out 1
     go_wp2_with (first | ((with_reducible refine gate_callee (f := 57) rfl ?_); refine goesA (some 29) rfl rfl Tryz.func57 (by kernel_rfl) rfl #[.string a0, .agg #[.int .i64 a1_0, .int .i64 a1_1], .agg #[.int .i64 a2_0, .int .i64 a2_1]] rfl ?_; (with_reducible refine (fleuronref01_Near.calls kj3 a0 a1_0 a1_1 a2_0 a2_1 t368 t369 t370 _ A26.out).mono ?_); rintro e w143 ⟨rfl, hb⟩; refine ⟨_, rfl, ?_⟩; have hS := Stp.mk hb; clear hb) | ((with_reducible refine gate_dst (N := 8) rfl ?_); refine boxF (N := 8) (cs := #[.int .i64 0, .int .i64 0]) (t := 23) ?_; intro gb371 hg w144 hbox hb; have hS := Stp.mk hb; have BK365 := (⟨fa⟩ : Fa (w144.heap[gb365]? = some (.cells #[.int .i64 0, .int .i64 0, .slice none 0 0] 26 (0, 0)))); have BK371 := Fa.mk (hbox); have GW371 := Fa.mk (gle hg : w.heap.size ≤ gb371); have GE371 := GW371; have NB363_371 := Fa.mk (gne (o := .cells #[.int .i64 a1_0, .int .i64 a1_1, .slice A1_2 l1_2.length c1_2] 26 (0, 0)) hg : gb363 ≠ gb371); have NB371_363 := Fa.mk NB363_371.out.symm; have NB364_371 := Fa.mk (gne (o := .cells #[.int .i64 a2_0, .int .i64 a2_1] 23 (0, 0)) hg : gb364 ≠ gb371); have NB371_364 := Fa.mk NB364_371.out.symm; have NB365_371 := Fa.mk (gne (o := .cells #[.int .i64 0, .int .i64 0, .slice none 0 0] 26 (0, 0)) hg : gb365 ≠ gb371); have NB371_365 := Fa.mk NB365_371.out.symm; clear hb hbox hg; have hnb145 := NB371_363.out; have hnc145 := NB363_371.out; have hnb146 := NB371_364.out; have hnc146 := NB364_371.out; have hnb147 := NB371_365.out; have hnc147 := NB365_371.out; have hcz148_0 := jcell BK371.out (i := 0) rfl; have hcz148_1 := jcell BK371.out (i := 1) rfl; have hfz148_0 := blk_frozen BK371.out 0; have hfz148_1 := blk_frozen BK371.out 1; have hcz149_0 := jcell BK365.out (i := 0) rfl; have hcz149_1 := jcell BK365.out (i := 1) rfl; have hcz149_2 := jcell BK365.out (i := 2) rfl; have hfz149_0 := blk_frozen BK365.out 0; have hfz149_1 := blk_frozen BK365.out 1; have hfz149_2 := blk_frozen BK365.out 2))
     refine bodyPost_ret (results_ct rfl _ _ gb365 26 #[.int .i64 0, .int .i64 0, .slice none 0 0] (0, 0) _ rfl (by (with_reducible repeat (first | refine blk_drewN ?_ _ | refine blk_drew ?_ | refine blk_alloc ?_ _)); refine blk_put (cs := #[.int .i64 0, .int .i64 0, .slice none 0 0]) ?_ 2 _ rfl; (with_reducible repeat (first | refine blk_drewN ?_ _ | refine blk_drew ?_ | refine blk_alloc ?_ _)); refine blk_put (cs := #[.int .i64 0, .int .i64 0, .slice none 0 0]) ?_ 1 _ rfl; (with_reducible repeat (first | refine blk_drewN ?_ _ | refine blk_drew ?_ | refine blk_alloc ?_ _)); refine blk_put (cs := #[.int .i64 0, .int .i64 0, .slice none 0 0]) ?_ 0 _ rfl; (with_reducible repeat (first | refine blk_drewN ?_ _ | refine blk_drew ?_ | refine blk_alloc ?_ _)); refine blk_far ?_ NB365_371.out _; (with_reducible repeat (first | refine blk_drewN ?_ _ | refine blk_drew ?_ | refine blk_alloc ?_ _)); refine blk_far ?_ NB365_371.out _; (with_reducible repeat (first | refine blk_drewN ?_ _ | refine blk_drew ?_ | refine blk_alloc ?_ _)); exact fa) Tryz.underlying26 rfl (by kernel_rfl)) rfl ?_
     exact ⟨_, rfl, Kd.R_nil _ _ _ _ _, fa⟩
end Go.Proofs.YtilamkcpbibnmaaGreatDoor.P
