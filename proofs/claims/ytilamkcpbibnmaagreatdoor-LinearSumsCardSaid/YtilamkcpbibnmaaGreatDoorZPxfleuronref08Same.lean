import Derived.Test.YtilamkcpbibnmaaGreatDoorZPx0
import Derived.Test.YtilamkcpbibnmaaGreatDoorZPxEq1
import Derived.Test.YtilamkcpbibnmaaGreatDoorZPxEq2
namespace Go.Proofs.YtilamkcpbibnmaaGreatDoor.P
open Go.RowKit Go.Proofs.YtilamkcpbibnmaaGreatDoorW.PrintWords Go.Proofs.YtilamkcpbibnmaaGreatDoorW.PrintLast Go.Proofs.YtilamkcpbibnmaaGreatDoorW.PrintMore
attribute [local go_sem] max2_int min2_int max_two min_two max_three min_three max_four min_four
set_option linter.unusedVariables false
set_option linter.unusedSimpArgs false
attribute [local go_sem high] eqA23 eqA47
mutual
def fleuronref08_Same.j0 : Nat → Bool → Int → Int → List (S47) → Int → Int → List (S47) → Option (Bool)
  | 0, _, _, _, _, _, _, _ => none
  | k + 1, x19, x187000, x187001, x187002, x188000, x188001, x188002 => if x19 = true then (some false) else (fleuronref08_Same.l0 k (x187002.length : Int) 0 x187000 x187001 x187002 x188000 x188001 x188002)
def fleuronref08_Same.l0 : Nat → Int → Int → Int → Int → List (S47) → Int → Int → List (S47) → Option (Bool)
  | 0, _, _, _, _, _, _, _, _ => none
  | k + 1, x22, x23, x187000, x187001, x187002, x188000, x188001, x188002 => if x23 < x22 then (if 0 ≤ x23 then (if x23 < (x187002.length : Int) then (if x23 < (x188002.length : Int) then (if (!((((rd_T47 x187002 x23).f0).toList) == (((rd_T47 x188002 x23).f0).toList)) || ((!(((rd_T47 x187002 x23).f1.f0) == ((rd_T47 x188002 x23).f1.f0)) || (!(((rd_T47 x187002 x23).f1.f1) == ((rd_T47 x188002 x23).f1.f1)))))) = true then (some false) else (fleuronref08_Same.l0 k x22 (wrap64 (x23 + 1)) x187000 x187001 x187002 x188000 x188001 x188002)) else (none)) else (none)) else (none)) else (some true)
end
def fleuronref08_Same.f (k : Nat) (a0_0 : Int) (a0_1 : Int) (l0_2 : List (S47)) (a1_0 : Int) (a1_1 : Int) (l1_2 : List (S47)) : Option (Bool) := if (!(a0_0 == a1_0) || (!(a0_1 == a1_1))) = true then (fleuronref08_Same.j0 k true a0_0 a0_1 l0_2 a1_0 a1_1 l1_2) else (fleuronref08_Same.j0 k ((l0_2.length : Int) != (l1_2.length : Int)) a0_0 a0_1 l0_2 a1_0 a1_1 l1_2)
theorem fleuronref08_Same.mono_l : ∀ k, (∀ y0 y1 y2 y3 y4 y5 y6, LeO (fleuronref08_Same.j0 k y0 y1 y2 y3 y4 y5 y6) (fleuronref08_Same.j0 (k + 1) y0 y1 y2 y3 y4 y5 y6)) ∧ (∀ y0 y1 y2 y3 y4 y5 y6 y7, LeO (fleuronref08_Same.l0 k y0 y1 y2 y3 y4 y5 y6 y7) (fleuronref08_Same.l0 (k + 1) y0 y1 y2 y3 y4 y5 y6 y7))
  | 0 => ⟨fun _ _ _ _ _ _ _ r h => by simp [fleuronref08_Same.j0] at h, fun _ _ _ _ _ _ _ _ r h => by simp [fleuronref08_Same.l0] at h⟩
  | k + 1 => by
    obtain ⟨ih0, ih1⟩ := fleuronref08_Same.mono_l k
    refine ⟨?_, ?_⟩
    all_goals intros
    all_goals first | unfold fleuronref08_Same.j0 | unfold fleuronref08_Same.l0
    all_goals repeat' first | (with_reducible exact ih0 _ _ _ _ _ _ _) | (with_reducible exact ih1 _ _ _ _ _ _ _ _) | (with_reducible exact LeO.refl _) | (with_reducible exact LeO.none _) | (with_reducible refine LeO.ite ?_ ?_) | (with_reducible refine LeO.bind ?_ (fun _ => ?_)) | exact ih0 _ _ _ _ _ _ _ | exact ih1 _ _ _ _ _ _ _ _ | exact LeO.none _ | refine LeO.ite ?_ ?_ | refine LeO.bind ?_ (fun _ => ?_)
theorem fleuronref08_Same.mono : ∀ a0 a1 a2 a3 a4 a5 k, LeO (fleuronref08_Same.f k a0 a1 a2 a3 a4 a5) (fleuronref08_Same.f (k + 1) a0 a1 a2 a3 a4 a5) := by
  intro a0 a1 a2 a3 a4 a5 k
  obtain ⟨ih0, ih1⟩ := fleuronref08_Same.mono_l k
  unfold fleuronref08_Same.f
  repeat' first
      | (with_reducible exact ih0 _ _ _ _ _ _ _)
      | (with_reducible exact ih1 _ _ _ _ _ _ _ _)
      | (with_reducible exact LeO.refl _)
      | (with_reducible exact LeO.none _)
      | (with_reducible refine LeO.ite ?_ ?_)
      | (with_reducible refine LeO.bind ?_ (fun _ => ?_))
      | exact ih0 _ _ _ _ _ _ _
      | exact ih1 _ _ _ _ _ _ _ _
      | exact LeO.none _
      | refine LeO.ite ?_ ?_
      | refine LeO.bind ?_ (fun _ => ?_)
set_option maxHeartbeats 8000000 in
set_option maxRecDepth 100000 in
theorem fleuronref08_Same.calls (k : Nat) (a0_0 : Int) (a0_1 : Int) (A0_2 : Option Addr) (c0_2 : Nat) (l0_2 : List (S47)) (a1_0 : Int) (a1_1 : Int) (A1_2 : Option Addr) (c1_2 : Nat) (l1_2 : List (S47)) (r : Bool) (w : World) (hr0_2 : Kd.C k47 w A0_2 l0_2.length l0_2) (hc0_2 : l0_2.length ≤ c0_2) (hr1_2 : Kd.C k47 w A1_2 l1_2.length l1_2) (hc1_2 : l1_2.length ≤ c1_2) (h : fleuronref08_Same.f k a0_0 a0_1 l0_2 a1_0 a1_1 l1_2 = some r) :
  Calls Tryz.prog 19 #[.agg #[.int .i64 a0_0, .int .i64 a0_1, .slice A0_2 l0_2.length c0_2], .agg #[.int .i64 a1_0, .int .i64 a1_1, .slice A1_2 l1_2.length c1_2]] w fun e w' => e = .returned (.bool r) ∧ Below w.heap.size w w' := by
 have hu26 := Tryz.underlying26
 have hu23 := Tryz.underlying23
 have hu47 := Tryz.underlying47
 have HR0_2 := Fa.mk hr0_2
 have HC0_2 := Fa.mk hc0_2
 clear hr0_2 hc0_2
 have HR1_2 := Fa.mk hr1_2
 have HC1_2 := Fa.mk hc1_2
 clear hr1_2 hc1_2
 have HB := Fa.mk (Below.refl w.heap.size w)
 have H : (if (!(a0_0 == a1_0) || (!(a0_1 == a1_1))) = true then (fleuronref08_Same.j0 k true a0_0 a0_1 l0_2 a1_0 a1_1 l1_2) else (fleuronref08_Same.j0 k ((l0_2.length : Int) != (l1_2.length : Int)) a0_0 a0_1 l0_2 a1_0 a1_1 l1_2)) = some r := h
 clear h
 have HC3 := Fa.mk H
 clear H
 go_enter Tryz.func19, Tryz.ntmps19
 go_upto_region 1 with (first | ((with_reducible refine gate_dst (N := 2) rfl ?_); (try (refine gate_guard (by rfl) ?_; dsimp only)); refine boxF (N := 2) (cs := #[.int .i64 a0_0, .int .i64 a0_1, .slice A0_2 l0_2.length c0_2]) (t := 26) ?_; intro gb186 hg w4 hbox hb; have hS := Stp.mk hb; have BK186 := Fa.mk (hbox); have GW186 := Fa.mk (gle hg : w.heap.size ≤ gb186); have GE186 := GW186; clear hb hbox hg) | ((with_reducible refine gate_dst (N := 3) rfl ?_); (try (refine gate_guard (by rfl) ?_; dsimp only)); refine boxF (N := 3) (cs := #[.int .i64 a1_0, .int .i64 a1_1, .slice A1_2 l1_2.length c1_2]) (t := 26) ?_; intro gb187 hg w5 hbox hb; have hS := Stp.mk hb; have BK187 := Fa.mk (hbox); have GW187 := Fa.mk (gle hg : w.heap.size ≤ gb187); have GE187 := GW187; have NB186_187 := Fa.mk (gne (o := .cells #[.int .i64 a0_0, .int .i64 a0_1, .slice A0_2 l0_2.length c0_2] 26 (0, 0)) hg : gb186 ≠ gb187); have NB187_186 := Fa.mk NB186_187.out.symm; clear hb hbox hg))
 repeat (go_quiet (first | ((with_reducible refine gate_dst (N := 2) rfl ?_); (try (refine gate_guard (by rfl) ?_; dsimp only)); refine boxF (N := 2) (cs := #[.int .i64 a0_0, .int .i64 a0_1, .slice A0_2 l0_2.length c0_2]) (t := 26) ?_; intro gb186 hg w4 hbox hb; have n0_ := Fa.mk (bst w hb); have n1_ := Fa.mk (hbox); have n2_ := Fa.mk (gle hg : w.heap.size ≤ gb186); have n3_ := n2_; clear HB; have HB := n0_; have BK186 := n1_; have GW186 := n2_; have GE186 := n3_; clear n0_ n1_ n2_ n3_; clear hb hbox hg) | ((with_reducible refine gate_dst (N := 3) rfl ?_); (try (refine gate_guard (by rfl) ?_; dsimp only)); refine boxF (N := 3) (cs := #[.int .i64 a1_0, .int .i64 a1_1, .slice A1_2 l1_2.length c1_2]) (t := 26) ?_; intro gb187 hg w5 hbox hb; have n0_ := Fa.mk (blk_below (g := gb186) (o := .cells #[.int .i64 a0_0, .int .i64 a0_1, .slice A0_2 l0_2.length c0_2] 26 (0, 0)) fa hb); have n1_ := Fa.mk (bst w hb); have n2_ := Fa.mk (hbox); have n3_ := Fa.mk (gle hg : w.heap.size ≤ gb187); have n4_ := n3_; have n5_ := Fa.mk (gne (o := .cells #[.int .i64 a0_0, .int .i64 a0_1, .slice A0_2 l0_2.length c0_2] 26 (0, 0)) hg : gb186 ≠ gb187); have n6_ := Fa.mk n5_.out.symm; clear BK186; clear HB; have BK186 := n0_; have HB := n1_; have BK187 := n2_; have GW187 := n3_; have GE187 := n4_; have NB186_187 := n5_; have NB187_186 := n6_; clear n0_ n1_ n2_ n3_ n4_ n5_ n6_; clear hb hbox hg)); go_upto_region 1 with (first | ((with_reducible refine gate_dst (N := 2) rfl ?_); (try (refine gate_guard (by rfl) ?_; dsimp only)); refine boxF (N := 2) (cs := #[.int .i64 a0_0, .int .i64 a0_1, .slice A0_2 l0_2.length c0_2]) (t := 26) ?_; intro gb186 hg w4 hbox hb; have n0_ := Fa.mk (bst w hb); have n1_ := Fa.mk (hbox); have n2_ := Fa.mk (gle hg : w.heap.size ≤ gb186); have n3_ := n2_; clear HB; have HB := n0_; have BK186 := n1_; have GW186 := n2_; have GE186 := n3_; clear n0_ n1_ n2_ n3_; clear hb hbox hg) | ((with_reducible refine gate_dst (N := 3) rfl ?_); (try (refine gate_guard (by rfl) ?_; dsimp only)); refine boxF (N := 3) (cs := #[.int .i64 a1_0, .int .i64 a1_1, .slice A1_2 l1_2.length c1_2]) (t := 26) ?_; intro gb187 hg w5 hbox hb; have n0_ := Fa.mk (blk_below (g := gb186) (o := .cells #[.int .i64 a0_0, .int .i64 a0_1, .slice A0_2 l0_2.length c0_2] 26 (0, 0)) fa hb); have n1_ := Fa.mk (bst w hb); have n2_ := Fa.mk (hbox); have n3_ := Fa.mk (gle hg : w.heap.size ≤ gb187); have n4_ := n3_; have n5_ := Fa.mk (gne (o := .cells #[.int .i64 a0_0, .int .i64 a0_1, .slice A0_2 l0_2.length c0_2] 26 (0, 0)) hg : gb186 ≠ gb187); have n6_ := Fa.mk n5_.out.symm; clear BK186; clear HB; have BK186 := n0_; have HB := n1_; have BK187 := n2_; have GW187 := n3_; have GE187 := n4_; have NB186_187 := n5_; have NB187_186 := n6_; clear n0_ n1_ n2_ n3_ n4_ n5_ n6_; clear hb hbox hg)))
 (try simp only [Act.put, List.setIfInBounds_toArray, List.set_cons_zero, List.set_cons_succ])
 go_cut [19] (fun v19 wc => ∃ (kq : Nat) (x19_2 : Bool), v19 = .bool x19_2 ∧ Fa (fleuronref08_Same.j0 kq x19_2 a0_0 a0_1 l0_2 a1_0 a1_1 l1_2 = some r) ∧ Fa (kq ≤ k) ∧ Fa (wc.heap[gb186]? = some (.cells #[.int .i64 a0_0, .int .i64 a0_1, (.slice A0_2 l0_2.length c0_2)] 26 (0, 0))) ∧ Fa (wc.heap[gb187]? = some (.cells #[.int .i64 a1_0, .int .i64 a1_1, (.slice A1_2 l1_2.length c1_2)] 26 (0, 0))) ∧ Fa (Below w.heap.size w wc))
 case first =>
  have H := HC3.out
  clear HC3
  by_cases c6 : (!(a0_0 == a1_0) || (!(a0_1 == a1_1))) = true
  ·
   rw [if_pos c6] at H
   have c6b0 : (!(a0_0 == a1_0) || (!(a0_1 == a1_1))) = true := c6
   clear c6
   (first | rw [c6b0] | (simp only [i64_w, i32_w]; rw [c6b0]) | skip)
   have H' := Fa.mk H
   clear H
   have hnb7 := NB186_187.out
   have hnc7 := NB187_186.out
   have BK186 : Fa (w5.heap[gb186]? = some (.cells #[.int .i64 a0_0, .int .i64 a0_1, .slice A0_2 l0_2.length c0_2] 26 (0, 0))) := ⟨fa⟩
   have hcz8_0 := jcell BK186.out (i := 0) rfl
   have hcz8_1 := jcell BK186.out (i := 1) rfl
   have hcz8_2 := jcell BK186.out (i := 2) rfl
   have hfz8_0 := blk_frozen BK186.out 0
   have hfz8_1 := blk_frozen BK186.out 1
   have hfz8_2 := blk_frozen BK186.out 2
   have hcz9_0 := jcell BK187.out (i := 0) rfl
   have hcz9_1 := jcell BK187.out (i := 1) rfl
   have hcz9_2 := jcell BK187.out (i := 2) rfl
   have hfz9_0 := blk_frozen BK187.out 0
   have hfz9_1 := blk_frozen BK187.out 1
   have hfz9_2 := blk_frozen BK187.out 2
   go_wp2
   repeat (go_quiet (fail); try go_wp2)
   go_meet
   case rel => exact ⟨_, (true), (by first | rfl | (simp; done) | (simp [*]; done)), H', ⟨by first | omega | exact Nat.le_refl _⟩, ⟨fa⟩, ⟨fa⟩, ⟨fa⟩⟩
  ·
   rw [if_neg c6] at H
   have c6b0 : (!(a0_0 == a1_0) || (!(a0_1 == a1_1))) = false := by simpa using c6
   clear c6
   (first | rw [c6b0] | (simp only [i64_w, i32_w]; rw [c6b0]) | skip)
   have H' := Fa.mk H
   clear H
   have hnb10 := NB186_187.out
   have hnc10 := NB187_186.out
   have BK186 : Fa (w5.heap[gb186]? = some (.cells #[.int .i64 a0_0, .int .i64 a0_1, .slice A0_2 l0_2.length c0_2] 26 (0, 0))) := ⟨fa⟩
   have hcz11_0 := jcell BK186.out (i := 0) rfl
   have hcz11_1 := jcell BK186.out (i := 1) rfl
   have hcz11_2 := jcell BK186.out (i := 2) rfl
   have hfz11_0 := blk_frozen BK186.out 0
   have hfz11_1 := blk_frozen BK186.out 1
   have hfz11_2 := blk_frozen BK186.out 2
   have hcz12_0 := jcell BK187.out (i := 0) rfl
   have hcz12_1 := jcell BK187.out (i := 1) rfl
   have hcz12_2 := jcell BK187.out (i := 2) rfl
   have hfz12_0 := blk_frozen BK187.out 0
   have hfz12_1 := blk_frozen BK187.out 1
   have hfz12_2 := blk_frozen BK187.out 2
   go_wp2
   repeat (go_quiet (fail); try go_wp2)
   go_meet
   case rel => exact ⟨_, (((l0_2.length : Int) != (l1_2.length : Int))), (by first | rfl | (simp; done) | (simp [*]; done)), H', ⟨by first | omega | exact Nat.le_refl _⟩, ⟨fa⟩, ⟨fa⟩, ⟨fa⟩⟩
 case rest =>
  clear HC3
  (try clear c1);(try clear p2);(try clear c6);(try clear c6b0);(try clear c7);(try clear c10);(try clear hcz11_0);(try clear hcz11_1);(try clear hcz11_2);(try clear hcz12_0);(try clear hcz12_1);(try clear hcz12_2);(try clear hcz8_0);(try clear hcz8_1);(try clear hcz8_2);(try clear hcz9_0);(try clear hcz9_1);(try clear hcz9_2);(try clear hfz11_0);(try clear hfz11_1);(try clear hfz11_2);(try clear hfz12_0);(try clear hfz12_1);(try clear hfz12_2);(try clear hfz8_0);(try clear hfz8_1);(try clear hfz8_2);(try clear hfz9_0);(try clear hfz9_1);(try clear hfz9_2)
  obtain ⟨kq, x19_2, rfl, HA, HJ2, BK186, BK187, HB⟩ := hcut
  cases kq with
  | zero => exact absurd HA.out (by simp [fleuronref08_Same.j0])
  | succ kj2 =>
   have H := HA.out
   clear HA
   simp only [fleuronref08_Same.j0] at H
   by_cases c13 : x19_2 = true
   ·
    subst c13
    rw [if_pos rfl] at H
    obtain rfl := Option.some.inj H
    go_wp2
    repeat (go_quiet (fail); try go_wp2)
    go_ret
    exact ⟨rfl, fa⟩
   ·
    replace c13 := Bool.eq_false_iff.mpr c13
    subst c13
    rw [if_neg (show ¬ (false = true) by decide)] at H
    have H' := Fa.mk H
    clear H
    have hnb14 := NB186_187.out
    have hnc14 := NB187_186.out
    have hcz15_0 := jcell BK186.out (i := 0) rfl
    have hcz15_1 := jcell BK186.out (i := 1) rfl
    have hcz15_2 := jcell BK186.out (i := 2) rfl
    have hfz15_0 := blk_frozen BK186.out 0
    have hfz15_1 := blk_frozen BK186.out 1
    have hfz15_2 := blk_frozen BK186.out 2
    go_wp2
    repeat (go_quiet (fail); try go_wp2)
    go_loopg [23] kj2 (fun kq v23 w' => ∃ (x23_2 : Int), v23 = .int .i64 x23_2 ∧ Fa (fleuronref08_Same.l0 kq (l0_2.length : Int) x23_2 a0_0 a0_1 l0_2 a1_0 a1_1 l1_2 = some r) ∧ Fa (kq ≤ kj2) ∧ Fa (w'.heap[gb186]? = some (.cells #[.int .i64 a0_0, .int .i64 a0_1, (.slice A0_2 l0_2.length c0_2)] 26 (0, 0))) ∧ Fa (w'.heap[gb187]? = some (.cells #[.int .i64 a1_0, .int .i64 a1_1, (.slice A1_2 l1_2.length c1_2)] 26 (0, 0))) ∧ Fa (Below w.heap.size w w'))
    case atStart => exact ⟨(0), (by first | rfl | (simp; done) | (simp [*]; done)), H', ⟨Nat.le_refl _⟩, ⟨fa⟩, ⟨fa⟩, ⟨fa⟩⟩
    case round =>
     clear H'
     (try clear c1);(try clear p2);(try clear c6);(try clear c6b0);(try clear c7);(try clear c10);(try clear c13);(try clear c14);(try clear hcz11_0);(try clear hcz11_1);(try clear hcz11_2);(try clear hcz12_0);(try clear hcz12_1);(try clear hcz12_2);(try clear hcz15_0);(try clear hcz15_1);(try clear hcz15_2);(try clear hcz8_0);(try clear hcz8_1);(try clear hcz8_2);(try clear hcz9_0);(try clear hcz9_1);(try clear hcz9_2);(try clear hfz11_0);(try clear hfz11_1);(try clear hfz11_2);(try clear hfz12_0);(try clear hfz12_1);(try clear hfz12_2);(try clear hfz15_0);(try clear hfz15_1);(try clear hfz15_2);(try clear hfz8_0);(try clear hfz8_1);(try clear hfz8_2);(try clear hfz9_0);(try clear hfz9_1);(try clear hfz9_2);(try clear p2)
     obtain ⟨x23_2, rfl, HA, HK2, BK186, BK187, HB⟩ := hrel
     cases gk with
     | zero => exact absurd HA.out (by simp [fleuronref08_Same.l0])
     | succ k2 =>
      have H := HA.out
      clear HA
      simp only [fleuronref08_Same.l0] at H
      by_cases c16 : x23_2 < (l0_2.length : Int)
      ·
       rw [if_pos c16] at H
       have c16b0 : decide (x23_2 < (l0_2.length : Int)) = true := decide_eq_true c16
       clear c16
       by_cases c17 : 0 ≤ x23_2
       ·
        rw [if_pos c17] at H
        have c17b0 : decide (0 ≤ x23_2) = true := decide_eq_true c17
        clear c17
        by_cases c18 : x23_2 < (l0_2.length : Int)
        ·
         rw [if_pos c18] at H
         have c18b0 : decide (x23_2 < (l0_2.length : Int)) = true := decide_eq_true c18
         clear c18
         by_cases c19 : x23_2 < (l1_2.length : Int)
         ·
          rw [if_pos c19] at H
          have c19b0 : decide (x23_2 < (l1_2.length : Int)) = true := decide_eq_true c19
          clear c19
          by_cases c20 : (!((((rd_T47 l0_2 x23_2).f0).toList) == (((rd_T47 l1_2 x23_2).f0).toList)) || ((!(((rd_T47 l0_2 x23_2).f1.f0) == ((rd_T47 l1_2 x23_2).f1.f0)) || (!(((rd_T47 l0_2 x23_2).f1.f1) == ((rd_T47 l1_2 x23_2).f1.f1)))))) = true
          ·
           rw [if_pos c20] at H
           have c20b0 : (!((((rd_T47 l0_2 x23_2).f0).toList) == (((rd_T47 l1_2 x23_2).f0).toList)) || ((!(((rd_T47 l0_2 x23_2).f1.f0) == ((rd_T47 l1_2 x23_2).f1.f0)) || (!(((rd_T47 l0_2 x23_2).f1.f1) == ((rd_T47 l1_2 x23_2).f1.f1)))))) = true := c20
           clear c20
           obtain rfl := Option.some.inj H
           have hnb21 := NB186_187.out
           have hnc21 := NB187_186.out
           have hcz22_0 := jcell BK186.out (i := 0) rfl
           have hcz22_1 := jcell BK186.out (i := 1) rfl
           have hcz22_2 := jcell BK186.out (i := 2) rfl
           have hfz22_0 := blk_frozen BK186.out 0
           have hfz22_1 := blk_frozen BK186.out 1
           have hfz22_2 := blk_frozen BK186.out 2
           have p188 : 0 ≤ (x23_2 : Int) := of_decide_eq_true (by first | (with_reducible assumption) | assumption)
           have q188 : x23_2 < (l0_2.length : Int) := of_decide_eq_true (by first | (with_reducible assumption) | assumption)
           obtain ⟨ad188, e188, hx188_0, hx188_1, hx188_2⟩ := at_T47 HR0_2.out x23_2 p188 q188
           cases e188
           replace hx188_0 := (HB.out.cell (World.block_lt_of_cell? w _ hx188_0)).trans hx188_0
           replace hx188_1 := (HB.out.cell (World.block_lt_of_cell? w _ hx188_1)).trans hx188_1
           replace hx188_2 := (HB.out.cell (World.block_lt_of_cell? w _ hx188_2)).trans hx188_2
           replace p188 := eq_true p188
           replace q188 := eq_true q188
           have hcz23_0 := jcell BK187.out (i := 0) rfl
           have hcz23_1 := jcell BK187.out (i := 1) rfl
           have hcz23_2 := jcell BK187.out (i := 2) rfl
           have hfz23_0 := blk_frozen BK187.out 0
           have hfz23_1 := blk_frozen BK187.out 1
           have hfz23_2 := blk_frozen BK187.out 2
           have p189 : 0 ≤ (x23_2 : Int) := of_decide_eq_true (by first | (with_reducible assumption) | assumption)
           have q189 : x23_2 < (l1_2.length : Int) := of_decide_eq_true (by first | (with_reducible assumption) | assumption)
           obtain ⟨ad189, e189, hx189_0, hx189_1, hx189_2⟩ := at_T47 HR1_2.out x23_2 p189 q189
           cases e189
           replace hx189_0 := (HB.out.cell (World.block_lt_of_cell? w _ hx189_0)).trans hx189_0
           replace hx189_1 := (HB.out.cell (World.block_lt_of_cell? w _ hx189_1)).trans hx189_1
           replace hx189_2 := (HB.out.cell (World.block_lt_of_cell? w _ hx189_2)).trans hx189_2
           replace p189 := eq_true p189
           replace q189 := eq_true q189
           go_wp2
           repeat (go_quiet (fail); try go_wp2)
           go_ret
           exact ⟨rfl, fa⟩
          ·
           rw [if_neg c20] at H
           have c20b0 : (!((((rd_T47 l0_2 x23_2).f0).toList) == (((rd_T47 l1_2 x23_2).f0).toList)) || ((!(((rd_T47 l0_2 x23_2).f1.f0) == ((rd_T47 l1_2 x23_2).f1.f0)) || (!(((rd_T47 l0_2 x23_2).f1.f1) == ((rd_T47 l1_2 x23_2).f1.f1)))))) = false := by simpa using c20
           clear c20
           have H' := Fa.mk H
           clear H
           have hnb24 := NB186_187.out
           have hnc24 := NB187_186.out
           have hcz25_0 := jcell BK186.out (i := 0) rfl
           have hcz25_1 := jcell BK186.out (i := 1) rfl
           have hcz25_2 := jcell BK186.out (i := 2) rfl
           have hfz25_0 := blk_frozen BK186.out 0
           have hfz25_1 := blk_frozen BK186.out 1
           have hfz25_2 := blk_frozen BK186.out 2
           have p188 : 0 ≤ (x23_2 : Int) := of_decide_eq_true (by first | (with_reducible assumption) | assumption)
           have q188 : x23_2 < (l0_2.length : Int) := of_decide_eq_true (by first | (with_reducible assumption) | assumption)
           obtain ⟨ad188, e188, hx188_0, hx188_1, hx188_2⟩ := at_T47 HR0_2.out x23_2 p188 q188
           cases e188
           replace hx188_0 := (HB.out.cell (World.block_lt_of_cell? w _ hx188_0)).trans hx188_0
           replace hx188_1 := (HB.out.cell (World.block_lt_of_cell? w _ hx188_1)).trans hx188_1
           replace hx188_2 := (HB.out.cell (World.block_lt_of_cell? w _ hx188_2)).trans hx188_2
           replace p188 := eq_true p188
           replace q188 := eq_true q188
           have hcz26_0 := jcell BK187.out (i := 0) rfl
           have hcz26_1 := jcell BK187.out (i := 1) rfl
           have hcz26_2 := jcell BK187.out (i := 2) rfl
           have hfz26_0 := blk_frozen BK187.out 0
           have hfz26_1 := blk_frozen BK187.out 1
           have hfz26_2 := blk_frozen BK187.out 2
           have p189 : 0 ≤ (x23_2 : Int) := of_decide_eq_true (by first | (with_reducible assumption) | assumption)
           have q189 : x23_2 < (l1_2.length : Int) := of_decide_eq_true (by first | (with_reducible assumption) | assumption)
           obtain ⟨ad189, e189, hx189_0, hx189_1, hx189_2⟩ := at_T47 HR1_2.out x23_2 p189 q189
           cases e189
           replace hx189_0 := (HB.out.cell (World.block_lt_of_cell? w _ hx189_0)).trans hx189_0
           replace hx189_1 := (HB.out.cell (World.block_lt_of_cell? w _ hx189_1)).trans hx189_1
           replace hx189_2 := (HB.out.cell (World.block_lt_of_cell? w _ hx189_2)).trans hx189_2
           replace p189 := eq_true p189
           replace q189 := eq_true q189
           go_wp2
           repeat (go_quiet (fail); try go_wp2)
           go_roundg k2
           case measure => have := HJ2.out; have := HK2.out; omega
           case rel => exact ⟨(wrap64 (x23_2 + 1)), (by first | rfl | (simp; done) | (simp [*]; done)), H', ⟨by have := HJ2.out; have := HK2.out; omega⟩, ⟨fa⟩, ⟨fa⟩, ⟨fa⟩⟩
         ·
          rw [if_neg c19] at H
          exact absurd H (by simp)
        ·
         rw [if_neg c18] at H
         exact absurd H (by simp)
       ·
        rw [if_neg c17] at H
        exact absurd H (by simp)
      ·
       rw [if_neg c16] at H
       have c16b0 : decide (x23_2 < (l0_2.length : Int)) = false := decide_eq_false c16
       clear c16
       obtain rfl := Option.some.inj H
       go_wp2
       repeat (go_quiet (fail); try go_wp2)
       go_ret
       exact ⟨rfl, fa⟩
end Go.Proofs.YtilamkcpbibnmaaGreatDoor.P
