import Derived.Test.YtilamkcpbibnmaaGreatDoorZPx0
import Derived.Test.YtilamkcpbibnmaaGreatDoorZPxEq1
namespace Go.Proofs.YtilamkcpbibnmaaGreatDoor.P
open Go.RowKit Go.Proofs.YtilamkcpbibnmaaGreatDoorW.PrintWords Go.Proofs.YtilamkcpbibnmaaGreatDoorW.PrintLast Go.Proofs.YtilamkcpbibnmaaGreatDoorW.PrintMore
attribute [local go_sem] max2_int min2_int max_two min_two max_three min_three max_four min_four
set_option linter.unusedVariables false
set_option linter.unusedSimpArgs false
attribute [local go_sem high] eqA23
mutual
def fleuronlaw08_few.l0 : Nat → List (S26) → Int → Int → Option (Bool)
  | 0, _, _, _ => none
  | k + 1, x8, x9, x10 => if x10 < x9 then (if 0 ≤ x10 then (if x10 < (x8.length : Int) then (fleuronlaw08_few.l1 k 0 x8 x9 x10 ((rd_T26 x8 x10).f1) (((rd_T26 x8 x10).f1).length : Int) 0 ((rd_T26 x8 x10).f0.f0) ((rd_T26 x8 x10).f0.f1) ((rd_T26 x8 x10).f1)) else (none)) else (none)) else (some true)
def fleuronlaw08_few.l1 : Nat → Int → List (S26) → Int → Int → List (S47) → Int → Int → Int → Int → List (S47) → Option (Bool)
  | 0, _, _, _, _, _, _, _, _, _, _ => none
  | k + 1, x5, x8, x9, x10, x15, x16, x17, x103000, x103001, x103002 => if x17 < x16 then (if 0 ≤ x17 then (if x17 < (x15.length : Int) then (fleuronlaw08_few.l1 k (wrap64 (x5 + (((rd_T47 x15 x17).f0).size : Int))) x8 x9 x10 x15 x16 (wrap64 (x17 + 1)) x103000 x103001 x103002) else (none)) else (none)) else (if (x103002.length : Int) > 80 then (some false) else (if x5 > 20000 then (some false) else (fleuronlaw08_few.l0 k x8 x9 (wrap64 (x10 + 1)))))
end
def fleuronlaw08_few.f (k : Nat) (l0 : List (S26)) : Option (Bool) := fleuronlaw08_few.l0 k l0 (l0.length : Int) 0
set_option maxHeartbeats 8000000 in
set_option maxRecDepth 100000 in
theorem fleuronlaw08_few.calls (k : Nat) (A0 : Option Addr) (c0 : Nat) (l0 : List (S26)) (r : Bool) (w : World) (hr0 : Kd.C k26 w A0 l0.length l0) (hc0 : l0.length ≤ c0) (h : fleuronlaw08_few.f k l0 = some r) :
  Calls Tryz.prog 11 #[.slice A0 l0.length c0] w fun e w' => e = .returned (.bool r) ∧ Below w.heap.size w w' := by
 have hu26 := Tryz.underlying26
 have hu47 := Tryz.underlying47
 have HR0 := Fa.mk hr0
 have HC0 := Fa.mk hc0
 clear hr0 hc0
 have HB := Fa.mk (Below.refl w.heap.size w)
 have H : (fleuronlaw08_few.l0 k l0 (l0.length : Int) 0) = some r := h
 clear h
 have H' := Fa.mk H
 clear H
 go_enter Tryz.func11, Tryz.ntmps11
 go_wp2
 go_loopg [10] k (fun kq v10 w' => ∃ (x10_1 : Int), v10 = .int .i64 x10_1 ∧ Fa (fleuronlaw08_few.l0 kq l0 (l0.length : Int) x10_1 = some r) ∧ Fa (kq ≤ k) ∧ Fa (Below w.heap.size w w'))
 case atStart => exact ⟨(0), (by first | rfl | (simp; done) | (simp [*]; done)), H', ⟨Nat.le_refl _⟩, ⟨fa⟩⟩
 case round =>
  clear H'
  try clear c1
  obtain ⟨x10_1, rfl, HA, HK1, HB⟩ := hrel
  cases gk with
  | zero => exact absurd HA.out (by simp [fleuronlaw08_few.l0])
  | succ k1 =>
   have H := HA.out
   clear HA
   simp only [fleuronlaw08_few.l0] at H
   by_cases c2 : x10_1 < (l0.length : Int)
   ·
    rw [if_pos c2] at H
    have c2b0 : decide (x10_1 < (l0.length : Int)) = true := decide_eq_true c2
    clear c2
    by_cases c3 : 0 ≤ x10_1
    ·
     rw [if_pos c3] at H
     have c3b0 : decide (0 ≤ x10_1) = true := decide_eq_true c3
     clear c3
     by_cases c4 : x10_1 < (l0.length : Int)
     ·
      rw [if_pos c4] at H
      have c4b0 : decide (x10_1 < (l0.length : Int)) = true := decide_eq_true c4
      clear c4
      have H' := Fa.mk H
      clear H
      have p101 : 0 ≤ (x10_1 : Int) := of_decide_eq_true (by first | (with_reducible assumption) | assumption)
      have q101 : x10_1 < (l0.length : Int) := of_decide_eq_true (by first | (with_reducible assumption) | assumption)
      obtain ⟨ad101, A101_2, c101_2, e101, hx101_0, hx101_1, hx101_2, hl101_2, hi101_2⟩ := at_T26 HR0.out x10_1 p101 q101
      cases e101
      replace hx101_0 := (HB.out.cell (World.block_lt_of_cell? w _ hx101_0)).trans hx101_0
      replace hx101_1 := (HB.out.cell (World.block_lt_of_cell? w _ hx101_1)).trans hx101_1
      replace hx101_2 := (HB.out.cell (World.block_lt_of_cell? w _ hx101_2)).trans hx101_2
      have HR101_2 := Fa.mk hi101_2
      have HC101_2 := Fa.mk hl101_2
      clear hi101_2 hl101_2
      replace p101 := eq_true p101
      replace q101 := eq_true q101
      go_wp2_with (first | ((with_reducible refine gate_dst (N := 4) rfl ?_); refine boxF (N := 4) (cs := #[.int .i64 0, .int .i64 0, .slice none 0 0]) (t := 26) ?_; intro gb102 hg w5 hbox hb; have n0_ := Fa.mk (bst w hb); have n1_ := Fa.mk (hbox); have n2_ := Fa.mk (gle hg : w.heap.size ≤ gb102); have n3_ := n2_; clear HB; have HB := n0_; have BK102 := n1_; have GW102 := n2_; have GE102 := n3_; clear n0_ n1_ n2_ n3_; clear hb hbox hg; have hcz6_0 := jcell BK102.out (i := 0) rfl; have hcz6_1 := jcell BK102.out (i := 1) rfl; have hcz6_2 := jcell BK102.out (i := 2) rfl; have hfz6_0 := blk_frozen BK102.out 0; have hfz6_1 := blk_frozen BK102.out 1; have hfz6_2 := blk_frozen BK102.out 2))
      go_loopg [5, 17] k1 (fun kq v5 v17 w' => ∃ (x5_2 : Int) (x17_2 : Int), v5 = .int .i64 x5_2 ∧ v17 = .int .i64 x17_2 ∧ Fa (fleuronlaw08_few.l1 kq x5_2 l0 (l0.length : Int) x10_1 ((rd_T26 l0 x10_1).f1) (((rd_T26 l0 x10_1).f1).length : Int) x17_2 ((rd_T26 l0 x10_1).f0.f0) ((rd_T26 l0 x10_1).f0.f1) ((rd_T26 l0 x10_1).f1) = some r) ∧ Fa (kq ≤ k1) ∧ Fa (w'.heap[gb102]? = some (.cells #[.int .i64 ((rd_T26 l0 x10_1).f0.f0), .int .i64 ((rd_T26 l0 x10_1).f0.f1), (.slice A101_2 ((rd_T26 l0 x10_1).f1).length c101_2)] 26 (0, 0))) ∧ Fa (Below w.heap.size w w'))
      case atStart => exact ⟨(0), (0), (by first | rfl | (simp; done) | (simp [*]; done)), (by first | rfl | (simp; done) | (simp [*]; done)), H', ⟨Nat.le_refl _⟩, ⟨by (with_reducible repeat (first | refine blk_drewN ?_ _ | refine blk_drew ?_ | refine blk_alloc ?_ _)); refine blk_put (cs := #[.int .i64 ((rd_T26 l0 x10_1).f0.f0), .int .i64 ((rd_T26 l0 x10_1).f0.f1), .slice none 0 0]) ?_ 2 _ rfl; (with_reducible repeat (first | refine blk_drewN ?_ _ | refine blk_drew ?_ | refine blk_alloc ?_ _)); refine blk_put (cs := #[.int .i64 ((rd_T26 l0 x10_1).f0.f0), .int .i64 0, .slice none 0 0]) ?_ 1 _ rfl; (with_reducible repeat (first | refine blk_drewN ?_ _ | refine blk_drew ?_ | refine blk_alloc ?_ _)); refine blk_put (cs := #[.int .i64 0, .int .i64 0, .slice none 0 0]) ?_ 0 _ rfl; (with_reducible repeat (first | refine blk_drewN ?_ _ | refine blk_drew ?_ | refine blk_alloc ?_ _)); exact fa⟩, ⟨fa⟩⟩
      case round =>
       clear H'
       (try clear c1);(try clear p1);(try clear q1);(try clear hx1);(try clear c2);(try clear c2b0);(try clear p2);(try clear c3);(try clear c3b0);(try clear c4);(try clear c4b0);(try clear hcz6_0);(try clear hcz6_1);(try clear hcz6_2);(try clear hfz6_0);(try clear hfz6_1);(try clear hfz6_2);(try clear hx101_0);(try clear hx101_1);(try clear hx101_2);(try clear p101);(try clear q101)
       obtain ⟨x5_2, x17_2, rfl, rfl, HA, HK2, BK102, HB⟩ := hrel
       cases gk with
       | zero => exact absurd HA.out (by simp [fleuronlaw08_few.l1])
       | succ k2 =>
        have H := HA.out
        clear HA
        simp only [fleuronlaw08_few.l1] at H
        by_cases c7 : x17_2 < (((rd_T26 l0 x10_1).f1).length : Int)
        ·
         rw [if_pos c7] at H
         have c7b0 : decide (x17_2 < (((rd_T26 l0 x10_1).f1).length : Int)) = true := decide_eq_true c7
         clear c7
         by_cases c8 : 0 ≤ x17_2
         ·
          rw [if_pos c8] at H
          have c8b0 : decide (0 ≤ x17_2) = true := decide_eq_true c8
          clear c8
          by_cases c9 : x17_2 < (((rd_T26 l0 x10_1).f1).length : Int)
          ·
           rw [if_pos c9] at H
           have c9b0 : decide (x17_2 < (((rd_T26 l0 x10_1).f1).length : Int)) = true := decide_eq_true c9
           clear c9
           have H' := Fa.mk H
           clear H
           have p103 : 0 ≤ (x17_2 : Int) := of_decide_eq_true (by first | (with_reducible assumption) | assumption)
           have q103 : x17_2 < (((rd_T26 l0 x10_1).f1).length : Int) := of_decide_eq_true (by first | (with_reducible assumption) | assumption)
           obtain ⟨ad103, e103, hx103_0, hx103_1, hx103_2⟩ := at_T47 HR101_2.out x17_2 p103 q103
           cases e103
           replace hx103_0 := (HB.out.cell (World.block_lt_of_cell? w _ hx103_0)).trans hx103_0
           replace hx103_1 := (HB.out.cell (World.block_lt_of_cell? w _ hx103_1)).trans hx103_1
           replace hx103_2 := (HB.out.cell (World.block_lt_of_cell? w _ hx103_2)).trans hx103_2
           replace p103 := eq_true p103
           replace q103 := eq_true q103
           go_wp2_with (first | ((with_reducible refine gate_dst (N := 7) rfl ?_); refine boxF (N := 7) (cs := #[.string (⟨#[]⟩ : ByteArray), .int .i64 0, .int .i64 0]) (t := 47) ?_; intro gb104 hg w10 hbox hb; have hS := Stp.mk hb; have BK104 := Fa.mk (hbox); have GW104 := Fa.mk (gle hg : w.heap.size ≤ gb104); have GE104 := GW104; have NB102_104 := Fa.mk (gne (o := .cells #[.int .i64 ((rd_T26 l0 x10_1).f0.f0), .int .i64 ((rd_T26 l0 x10_1).f0.f1), .slice (some ad103) ((rd_T26 l0 x10_1).f1).length c101_2] 26 (0, 0)) hg : gb102 ≠ gb104); have NB104_102 := Fa.mk NB102_104.out.symm; clear hb hbox hg; have hnb11 := NB104_102.out; have hnc11 := NB102_104.out; have hcz12_0 := jcell BK104.out (i := 0) rfl; have hcz12_1 := jcell BK104.out (i := 1) rfl; have hcz12_2 := jcell BK104.out (i := 2) rfl; have hfz12_0 := blk_frozen BK104.out 0; have hfz12_1 := blk_frozen BK104.out 1; have hfz12_2 := blk_frozen BK104.out 2))
           go_roundg k2
           case measure => have := HK1.out; have := HK2.out; omega
           case rel => exact ⟨(wrap64 (x5_2 + (((rd_T47 ((rd_T26 l0 x10_1).f1) x17_2).f0).size : Int))), (wrap64 (x17_2 + 1)), (by first | rfl | (simp; done) | (simp [*]; done)), (by first | rfl | (simp; done) | (simp [*]; done)), H', ⟨by have := HK1.out; have := HK2.out; omega⟩, ⟨by (with_reducible repeat (first | refine blk_drewN ?_ _ | refine blk_drew ?_ | refine blk_alloc ?_ _)); refine blk_far ?_ NB102_104.out _; (with_reducible repeat (first | refine blk_drewN ?_ _ | refine blk_drew ?_ | refine blk_alloc ?_ _)); refine blk_far ?_ NB102_104.out _; (with_reducible repeat (first | refine blk_drewN ?_ _ | refine blk_drew ?_ | refine blk_alloc ?_ _)); refine blk_far ?_ NB102_104.out _; (with_reducible repeat (first | refine blk_drewN ?_ _ | refine blk_drew ?_ | refine blk_alloc ?_ _)); exact fa⟩, ⟨fa⟩⟩
          ·
           rw [if_neg c9] at H
           exact absurd H (by simp)
         ·
          rw [if_neg c8] at H
          exact absurd H (by simp)
        ·
         rw [if_neg c7] at H
         have c7b0 : decide (x17_2 < (((rd_T26 l0 x10_1).f1).length : Int)) = false := decide_eq_false c7
         clear c7
         by_cases c13 : (((rd_T26 l0 x10_1).f1).length : Int) > 80
         ·
          rw [if_pos c13] at H
          have c13b0 : decide (80 < (((rd_T26 l0 x10_1).f1).length : Int)) = true := decide_eq_true c13
          have c13b1 : decide (80 < ((rd_T26 l0 x10_1).f1).length) = true := decide_eq_true (by omega)
          clear c13
          obtain rfl := Option.some.inj H
          have hcz14_0 : wr.cell? ⟨gb102, 0, none⟩ = some (.int .i64 ((rd_T26 l0 x10_1).f0.f0)) := (blk_cell BK102.out 0).trans rfl
          have hcz14_1 : wr.cell? ⟨gb102, 1, none⟩ = some (.int .i64 ((rd_T26 l0 x10_1).f0.f1)) := (blk_cell BK102.out 1).trans rfl
          have hcz14_2 : wr.cell? ⟨gb102, 2, none⟩ = some (.slice A101_2 ((rd_T26 l0 x10_1).f1).length c101_2) := (blk_cell BK102.out 2).trans rfl
          have hfz14_0 := blk_frozen BK102.out 0
          have hfz14_1 := blk_frozen BK102.out 1
          have hfz14_2 := blk_frozen BK102.out 2
          go_wp2
          go_ret
          exact ⟨rfl, fa⟩
         ·
          rw [if_neg c13] at H
          have c13b0 : decide (80 < (((rd_T26 l0 x10_1).f1).length : Int)) = false := decide_eq_false c13
          have c13b1 : decide (80 < ((rd_T26 l0 x10_1).f1).length) = false := decide_eq_false (by omega)
          clear c13
          by_cases c15 : x5_2 > 20000
          ·
           rw [if_pos c15] at H
           have c15b0 : decide (20000 < x5_2) = true := decide_eq_true c15
           clear c15
           obtain rfl := Option.some.inj H
           have hcz16_0 : wr.cell? ⟨gb102, 0, none⟩ = some (.int .i64 ((rd_T26 l0 x10_1).f0.f0)) := (blk_cell BK102.out 0).trans rfl
           have hcz16_1 : wr.cell? ⟨gb102, 1, none⟩ = some (.int .i64 ((rd_T26 l0 x10_1).f0.f1)) := (blk_cell BK102.out 1).trans rfl
           have hcz16_2 : wr.cell? ⟨gb102, 2, none⟩ = some (.slice A101_2 ((rd_T26 l0 x10_1).f1).length c101_2) := (blk_cell BK102.out 2).trans rfl
           have hfz16_0 := blk_frozen BK102.out 0
           have hfz16_1 := blk_frozen BK102.out 1
           have hfz16_2 := blk_frozen BK102.out 2
           go_wp2
           go_ret
           exact ⟨rfl, fa⟩
          ·
           rw [if_neg c15] at H
           have c15b0 : decide (20000 < x5_2) = false := decide_eq_false c15
           clear c15
           have H' := Fa.mk H
           clear H
           have hcz17_0 : wr.cell? ⟨gb102, 0, none⟩ = some (.int .i64 ((rd_T26 l0 x10_1).f0.f0)) := (blk_cell BK102.out 0).trans rfl
           have hcz17_1 : wr.cell? ⟨gb102, 1, none⟩ = some (.int .i64 ((rd_T26 l0 x10_1).f0.f1)) := (blk_cell BK102.out 1).trans rfl
           have hcz17_2 : wr.cell? ⟨gb102, 2, none⟩ = some (.slice A101_2 ((rd_T26 l0 x10_1).f1).length c101_2) := (blk_cell BK102.out 2).trans rfl
           have hfz17_0 := blk_frozen BK102.out 0
           have hfz17_1 := blk_frozen BK102.out 1
           have hfz17_2 := blk_frozen BK102.out 2
           go_wp2
           go_roundg k2
           case measure => have := HK1.out; have := HK2.out; omega
           case rel => exact ⟨(wrap64 (x10_1 + 1)), (by first | rfl | (simp; done) | (simp [*]; done)), H', ⟨by have := HK1.out; have := HK2.out; omega⟩, ⟨fa⟩⟩
     ·
      rw [if_neg c4] at H
      exact absurd H (by simp)
    ·
     rw [if_neg c3] at H
     exact absurd H (by simp)
   ·
    rw [if_neg c2] at H
    have c2b0 : decide (x10_1 < (l0.length : Int)) = false := decide_eq_false c2
    clear c2
    obtain rfl := Option.some.inj H
    go_wp2
    go_ret
    exact ⟨rfl, fa⟩
def rational_size.f (a0 : Int) : Option (Int) := if a0 < 0 then (some (IntKind.u64.wrap (-(IntKind.u64.wrap (a0))))) else (some (IntKind.u64.wrap (a0)))
set_option maxHeartbeats 8000000 in
set_option maxRecDepth 100000 in
theorem rational_size.calls (a0 : Int) (r : Int) (w : World) (h : rational_size.f a0 = some r) :
  Calls Tryz.prog 100 #[.int .i64 a0] w fun e w' => e = .returned (.int .u64 r) ∧ Drawn0 w w' := by
 have H : (if a0 < 0 then (some (IntKind.u64.wrap (-(IntKind.u64.wrap (a0))))) else (some (IntKind.u64.wrap (a0)))) = some r := h
 clear h
 by_cases c2 : a0 < 0
 ·
  rw [if_pos c2] at H
  have c2b0 : decide (a0 < 0) = true := decide_eq_true c2
  clear c2
  obtain rfl := Option.some.inj H
  go_enter Tryz.func100, Tryz.ntmps100
  go_wp2
  go_ret
  exact ⟨by first | rfl | (simp; done) | (simp [*]; done), by repeat (first | exact Drawn0.refl _ | apply Drawn0.step)⟩
 ·
  rw [if_neg c2] at H
  have c2b0 : decide (a0 < 0) = false := decide_eq_false c2
  clear c2
  obtain rfl := Option.some.inj H
  go_enter Tryz.func100, Tryz.ntmps100
  go_wp2
  go_ret
  exact ⟨by first | rfl | (simp; done) | (simp [*]; done), by repeat (first | exact Drawn0.refl _ | apply Drawn0.step)⟩
def rational_gcd.l0 : Nat → Int → Int → Option (Int)
  | 0, _, _ => none
  | k + 1, x0, x1 => if x1 > 0 then (if x1 = 0 then (none) else (rational_gcd.l0 k x1 (Int.tmod x0 x1))) else (some x0)
def rational_gcd.f (k : Nat) (a0 : Int) (a1 : Int) : Option (Int) := rational_gcd.l0 k a0 a1
theorem rational_gcd.mono_l : ∀ k, (∀ y0 y1, LeO (rational_gcd.l0 k y0 y1) (rational_gcd.l0 (k + 1) y0 y1))
  | 0 => fun _ _ r h => by simp [rational_gcd.l0] at h
  | k + 1 => by
    have ih0 := rational_gcd.mono_l k
    all_goals intros
    all_goals first | unfold rational_gcd.l0
    all_goals repeat' first | (with_reducible exact ih0 _ _) | (with_reducible exact LeO.refl _) | (with_reducible exact LeO.none _) | (with_reducible refine LeO.ite ?_ ?_) | (with_reducible refine LeO.bind ?_ (fun _ => ?_)) | exact ih0 _ _ | exact LeO.none _ | refine LeO.ite ?_ ?_ | refine LeO.bind ?_ (fun _ => ?_)
theorem rational_gcd.mono : ∀ a0 a1 k, LeO (rational_gcd.f k a0 a1) (rational_gcd.f (k + 1) a0 a1) := by
  intro a0 a1 k
  have ih0 := rational_gcd.mono_l k
  unfold rational_gcd.f
  repeat' first
      | (with_reducible exact ih0 _ _)
      | (with_reducible exact LeO.refl _)
      | (with_reducible exact LeO.none _)
      | (with_reducible refine LeO.ite ?_ ?_)
      | (with_reducible refine LeO.bind ?_ (fun _ => ?_))
      | exact ih0 _ _
      | exact LeO.none _
      | refine LeO.ite ?_ ?_
      | refine LeO.bind ?_ (fun _ => ?_)
set_option maxHeartbeats 8000000 in
set_option maxRecDepth 100000 in
theorem rational_gcd.calls (k : Nat) (a0 : Int) (a1 : Int) (r : Int) (w : World) (h : rational_gcd.f k a0 a1 = some r) :
  Calls Tryz.prog 101 #[.int .u64 a0, .int .u64 a1] w fun e w' => e = .returned (.int .u64 r) ∧ Drawn0 w w' := by
 have H : (rational_gcd.l0 k a0 a1) = some r := h
 clear h
 have H' := Fa.mk H
 clear H
 go_enter Tryz.func101, Tryz.ntmps101
 go_wp2
 repeat (go_quiet (fail); try go_wp2)
 go_loopg [0, 1] k (fun kq v0 v1 w' => ∃ (x0_1 : Int) (x1_1 : Int), v0 = .int .u64 x0_1 ∧ v1 = .int .u64 x1_1 ∧ Fa (rational_gcd.l0 kq x0_1 x1_1 = some r) ∧ Fa (kq ≤ k) ∧ Drawn0 w w')
 case atStart => exact ⟨(a0), (a1), (by first | rfl | (simp; done) | (simp [*]; done)), (by first | rfl | (simp; done) | (simp [*]; done)), H', ⟨Nat.le_refl _⟩, by repeat (first | exact Drawn0.refl _ | apply Drawn0.step)⟩
 case round =>
  clear H'
  (try clear c1);(try clear p2)
  obtain ⟨x0_1, x1_1, rfl, rfl, HA, HK1, ⟨m1, rfl⟩⟩ := hrel
  cases gk with
  | zero => exact absurd HA.out (by simp [rational_gcd.l0])
  | succ k1 =>
   have H := HA.out
   clear HA
   simp only [rational_gcd.l0] at H
   by_cases c3 : x1_1 > 0
   ·
    rw [if_pos c3] at H
    have c3b0 : decide (0 < x1_1) = true := decide_eq_true c3
    clear c3
    by_cases c4 : x1_1 = 0
    ·
     rw [if_pos c4] at H
     exact absurd H (by simp)
    ·
     rw [if_neg c4] at H
     have c4b0 : (x1_1 == 0) = false := beq_eq_false_iff_ne.mpr c4
     have c4b1 : (x1_1 != 0) = true := bne_iff_ne.mpr c4
     have H' := Fa.mk H
     clear H
     go_wp2
     repeat (go_quiet (fail); try go_wp2)
     go_roundg k1
     case measure => have := HK1.out; omega
     case rel => exact ⟨(x1_1), (Int.tmod x0_1 x1_1), (by first | rfl | (simp; done) | (simp [*]; done)), (by first | rfl | (simp; done) | (simp [*]; done)), H', ⟨by have := HK1.out; omega⟩, by repeat (first | exact Drawn0.refl _ | apply Drawn0.step)⟩
   ·
    rw [if_neg c3] at H
    have c3b0 : decide (0 < x1_1) = false := decide_eq_false c3
    clear c3
    obtain rfl := Option.some.inj H
    go_wp2
    repeat (go_quiet (fail); try go_wp2)
    go_ret
    exact ⟨by first | rfl | (simp; done) | (simp [*]; done), by repeat (first | exact Drawn0.refl _ | apply Drawn0.step)⟩
def rational_Exact.f (k : Nat) (a0 : Int) (a1 : Int) : Option (Int × Int × Int) := (rational_size.f a0).bind fun t106 => ((rational_size.f a1).bind fun t107 => ((rational_gcd.f k t106 t107).bind fun t108 => (if t108 = 0 then (none) else (if (mx (IntKind.u64.wrap (Int.tdiv t106 t108)) (IntKind.u64.wrap (Int.tdiv t107 t108))) > 2147483647 then (some (0, 0, 17)) else (if ((decide (a0 < 0)) != (decide (a1 < 0))) = true then (some (wrap64 (-(wrap64 (IntKind.u64.wrap (Int.tdiv t106 t108)))), wrap64 (IntKind.u64.wrap (Int.tdiv t107 t108)), 0)) else (some (wrap64 (IntKind.u64.wrap (Int.tdiv t106 t108)), wrap64 (IntKind.u64.wrap (Int.tdiv t107 t108)), 0)))))))
theorem rational_Exact.mono : ∀ a0 a1 k, LeO (rational_Exact.f k a0 a1) (rational_Exact.f (k + 1) a0 a1) := by
  intro a0 a1 k
  unfold rational_Exact.f
  repeat' first
      | (with_reducible exact rational_gcd.mono _ _ _)
      | (with_reducible exact LeO.refl _)
      | (with_reducible exact LeO.none _)
      | (with_reducible refine LeO.ite ?_ ?_)
      | (with_reducible refine LeO.bind ?_ (fun _ => ?_))
      | exact rational_gcd.mono _ _ _
      | exact LeO.none _
      | refine LeO.ite ?_ ?_
      | refine LeO.bind ?_ (fun _ => ?_)
set_option maxHeartbeats 8000000 in
set_option maxRecDepth 100000 in
theorem rational_Exact.calls (k : Nat) (a0 : Int) (a1 : Int) (r1 : Int) (r2 : Int) (r3 : Int) (w : World) (h : rational_Exact.f k a0 a1 = some (r1, r2, r3)) :
  Calls Tryz.prog 79 #[.int .i64 a0, .int .i64 a1] w fun e w' => e = .returned (.tuple #[.agg #[.int .i64 r1, .int .i64 r2], .int .i64 r3]) ∧ Below w.heap.size w w' := by
 have hu23 := Tryz.underlying23
 have HB := Fa.mk (Below.refl w.heap.size w)
 have H : ((rational_size.f a0).bind fun t106 => ((rational_size.f a1).bind fun t107 => ((rational_gcd.f k t106 t107).bind fun t108 => (if t108 = 0 then (none) else (if (mx (IntKind.u64.wrap (Int.tdiv t106 t108)) (IntKind.u64.wrap (Int.tdiv t107 t108))) > 2147483647 then (some (0, 0, 17)) else (if ((decide (a0 < 0)) != (decide (a1 < 0))) = true then (some (wrap64 (-(wrap64 (IntKind.u64.wrap (Int.tdiv t106 t108)))), wrap64 (IntKind.u64.wrap (Int.tdiv t107 t108)), 0)) else (some (wrap64 (IntKind.u64.wrap (Int.tdiv t106 t108)), wrap64 (IntKind.u64.wrap (Int.tdiv t107 t108)), 0)))))))) = some (r1, r2, r3) := h
 clear h
 replace H := Option.bind_eq_some_iff.mp H
 obtain ⟨t106, A30, H⟩ := H
 (try dsimp only at H)
 have A3 := Fa.mk A30
 clear A30
 replace H := Option.bind_eq_some_iff.mp H
 obtain ⟨t107, A40, H⟩ := H
 (try dsimp only at H)
 have A4 := Fa.mk A40
 clear A40
 replace H := Option.bind_eq_some_iff.mp H
 obtain ⟨t108, A50, H⟩ := H
 (try dsimp only at H)
 have A5 := Fa.mk A50
 clear A50
 by_cases c6 : t108 = 0
 ·
  rw [if_pos c6] at H
  exact absurd H (by simp)
 ·
  rw [if_neg c6] at H
  have c6b0 : (t108 == 0) = false := beq_eq_false_iff_ne.mpr c6
  have c6b1 : (t108 != 0) = true := bne_iff_ne.mpr c6
  obtain ⟨ji7, hji7⟩ : ∃ j_ : Int, (mx (IntKind.u64.wrap (Int.tdiv t106 t108)) (IntKind.u64.wrap (Int.tdiv t107 t108))) = j_ := ⟨_, rfl⟩
  replace H : (if (ji7) > 2147483647 then (some (0, 0, 17)) else (if ((decide (a0 < 0)) != (decide (a1 < 0))) = true then (some (wrap64 (-(wrap64 (IntKind.u64.wrap (Int.tdiv t106 t108)))), wrap64 (IntKind.u64.wrap (Int.tdiv t107 t108)), 0)) else (some (wrap64 (IntKind.u64.wrap (Int.tdiv t106 t108)), wrap64 (IntKind.u64.wrap (Int.tdiv t107 t108)), 0)))) = some (r1, r2, r3) := by first | (rw [hji7] at H; exact H) | (simp only [hji7] at H ⊢; exact H)
  (try rw [hji7] at A3)
  (try rw [hji7] at A4)
  (try rw [hji7] at A5)
  have hji7_ : (if (IntKind.u64.wrap (Int.tdiv t106 t108)) < (IntKind.u64.wrap (Int.tdiv t107 t108)) then (IntKind.u64.wrap (Int.tdiv t107 t108)) else (IntKind.u64.wrap (Int.tdiv t106 t108))) = ji7 := hji7
  by_cases c8 : (ji7) > 2147483647
  ·
   rw [if_pos c8] at H
   have c8b0 : decide (2147483647 < (ji7)) = true := decide_eq_true c8
   clear c8
   simp only [Option.some.injEq, Prod.mk.injEq] at H
   obtain ⟨rfl, rfl, rfl⟩ := H
   go_enter Tryz.func79, Tryz.ntmps79
   iterate 4 (go_wp2_with (first | ((with_reducible refine gate_dst (N := 4) rfl ?_); refine boxF (N := 4) (cs := #[.int .i64 0, .int .i64 0]) (t := 23) ?_; intro gb105 hg w9 hbox hb; have hS := Stp.mk hb; have BK105 := Fa.mk (hbox); have GW105 := Fa.mk (gle hg : w.heap.size ≤ gb105); have GE105 := GW105; clear hb hbox hg) | (go_at_call 100; (with_reducible refine (rational_size.calls a0 t106 _ A3.out).mono ?_); rintro e w' ⟨rfl, ⟨nd, rfl⟩⟩; (try first | exact ⟨rfl, _, World.drewN_drewN _ _ _⟩ | exact ⟨rfl, _, Eq.trans (World.drewN_drewN _ _ _) (congrArg (World.drewN _) (Nat.add_assoc _ _ _))⟩)) | (go_at_call 100; (with_reducible refine (rational_size.calls a1 t107 _ A4.out).mono ?_); rintro e w' ⟨rfl, ⟨nd, rfl⟩⟩; (try first | exact ⟨rfl, _, World.drewN_drewN _ _ _⟩ | exact ⟨rfl, _, Eq.trans (World.drewN_drewN _ _ _) (congrArg (World.drewN _) (Nat.add_assoc _ _ _))⟩)) | (go_at_call 101; (with_reducible refine (rational_gcd.calls k t106 t107 t108 _ A5.out).mono ?_); rintro e w' ⟨rfl, ⟨nd, rfl⟩⟩; (try first | exact ⟨rfl, _, World.drewN_drewN _ _ _⟩ | exact ⟨rfl, _, Eq.trans (World.drewN_drewN _ _ _) (congrArg (World.drewN _) (Nat.add_assoc _ _ _))⟩); have hcz10_0 := jcell BK105.out (i := 0) rfl; have hcz10_1 := jcell BK105.out (i := 1) rfl; have hfz10_0 := blk_frozen BK105.out 0; have hfz10_1 := blk_frozen BK105.out 1)); (try go_quiet (fail)))
   refine bodyPost_ret (results_ct rfl _ _ gb105 23 #[.int .i64 0, .int .i64 0] (0, 0) _ rfl (by (with_reducible repeat (first | refine blk_drewN ?_ _ | refine blk_drew ?_ | refine blk_alloc ?_ _)); refine blk_put (cs := #[.int .i64 0, .int .i64 0]) ?_ 1 _ rfl; (with_reducible repeat (first | refine blk_drewN ?_ _ | refine blk_drew ?_ | refine blk_alloc ?_ _)); refine blk_put (cs := #[.int .i64 0, .int .i64 0]) ?_ 0 _ rfl; (with_reducible repeat (first | refine blk_drewN ?_ _ | refine blk_drew ?_ | refine blk_alloc ?_ _)); exact fa) Tryz.underlying23 rfl (by kernel_rfl)) rfl ?_
   exact ⟨by first | rfl | (simp [errW_none, errW_some] <;> rfl) | (simp only [← hji7]; first | rfl | (simp [errW_none, errW_some] <;> rfl)) | (simp [*, errW_none, errW_some] <;> rfl), fa⟩
  ·
   rw [if_neg c8] at H
   have c8b0 : decide (2147483647 < (ji7)) = false := decide_eq_false c8
   clear c8
   by_cases c11 : ((decide (a0 < 0)) != (decide (a1 < 0))) = true
   ·
    rw [if_pos c11] at H
    have c11b0 : ((decide (a0 < 0)) != (decide (a1 < 0))) = true := c11
    (try (have c11b1 : decide ((decide (a0 < 0)) = (decide (a1 < 0))) = false := by simpa using c11))
    (try (have c11b2 : ((decide (a0 < 0)) == (decide (a1 < 0))) = false := by simpa using c11))
    (try (have c11b3 : ¬ ((decide (a0 < 0)) = (decide (a1 < 0))) := by simpa using c11))
    clear c11
    simp only [Option.some.injEq, Prod.mk.injEq] at H
    obtain ⟨rfl, rfl, rfl⟩ := H
    go_enter Tryz.func79, Tryz.ntmps79
    iterate 4 (go_wp2_with (first | ((with_reducible refine gate_dst (N := 4) rfl ?_); refine boxF (N := 4) (cs := #[.int .i64 0, .int .i64 0]) (t := 23) ?_; intro gb105 hg w12 hbox hb; have hS := Stp.mk hb; have BK105 := Fa.mk (hbox); have GW105 := Fa.mk (gle hg : w.heap.size ≤ gb105); have GE105 := GW105; clear hb hbox hg) | (go_at_call 100; (with_reducible refine (rational_size.calls a0 t106 _ A3.out).mono ?_); rintro e w' ⟨rfl, ⟨nd, rfl⟩⟩; (try first | exact ⟨rfl, _, World.drewN_drewN _ _ _⟩ | exact ⟨rfl, _, Eq.trans (World.drewN_drewN _ _ _) (congrArg (World.drewN _) (Nat.add_assoc _ _ _))⟩)) | (go_at_call 100; (with_reducible refine (rational_size.calls a1 t107 _ A4.out).mono ?_); rintro e w' ⟨rfl, ⟨nd, rfl⟩⟩; (try first | exact ⟨rfl, _, World.drewN_drewN _ _ _⟩ | exact ⟨rfl, _, Eq.trans (World.drewN_drewN _ _ _) (congrArg (World.drewN _) (Nat.add_assoc _ _ _))⟩)) | (go_at_call 101; (with_reducible refine (rational_gcd.calls k t106 t107 t108 _ A5.out).mono ?_); rintro e w' ⟨rfl, ⟨nd, rfl⟩⟩; (try first | exact ⟨rfl, _, World.drewN_drewN _ _ _⟩ | exact ⟨rfl, _, Eq.trans (World.drewN_drewN _ _ _) (congrArg (World.drewN _) (Nat.add_assoc _ _ _))⟩); have hcz13_0 := jcell BK105.out (i := 0) rfl; have hcz13_1 := jcell BK105.out (i := 1) rfl; have hfz13_0 := blk_frozen BK105.out 0; have hfz13_1 := blk_frozen BK105.out 1)); (try go_quiet (fail)))
    refine bodyPost_ret (results_ct rfl _ _ gb105 23 #[.int .i64 (wrap64 (-(wrap64 (IntKind.u64.wrap (Int.tdiv t106 t108))))), .int .i64 (wrap64 (IntKind.u64.wrap (Int.tdiv t107 t108)))] (0, 0) _ rfl (by (with_reducible repeat (first | refine blk_drewN ?_ _ | refine blk_drew ?_ | refine blk_alloc ?_ _)); refine blk_put (cs := #[.int .i64 (wrap64 (-(wrap64 (IntKind.u64.wrap (Int.tdiv t106 t108))))), .int .i64 0]) ?_ 1 _ rfl; (with_reducible repeat (first | refine blk_drewN ?_ _ | refine blk_drew ?_ | refine blk_alloc ?_ _)); refine blk_put (cs := #[.int .i64 0, .int .i64 0]) ?_ 0 _ rfl; (with_reducible repeat (first | refine blk_drewN ?_ _ | refine blk_drew ?_ | refine blk_alloc ?_ _)); exact fa) Tryz.underlying23 rfl (by kernel_rfl)) rfl ?_
    exact ⟨by first | rfl | (simp [errW_none, errW_some] <;> rfl) | (simp only [← hji7]; first | rfl | (simp [errW_none, errW_some] <;> rfl)) | (simp [*, errW_none, errW_some] <;> rfl), fa⟩
   ·
    rw [if_neg c11] at H
    have c11b0 : ((decide (a0 < 0)) != (decide (a1 < 0))) = false := by simpa using c11
    (try (have c11b1 : decide ((decide (a0 < 0)) = (decide (a1 < 0))) = true := by simpa using c11))
    (try (have c11b2 : ((decide (a0 < 0)) == (decide (a1 < 0))) = true := by simpa using c11))
    clear c11
    simp only [Option.some.injEq, Prod.mk.injEq] at H
    obtain ⟨rfl, rfl, rfl⟩ := H
    go_enter Tryz.func79, Tryz.ntmps79
    iterate 4 (go_wp2_with (first | ((with_reducible refine gate_dst (N := 4) rfl ?_); refine boxF (N := 4) (cs := #[.int .i64 0, .int .i64 0]) (t := 23) ?_; intro gb105 hg w14 hbox hb; have hS := Stp.mk hb; have BK105 := Fa.mk (hbox); have GW105 := Fa.mk (gle hg : w.heap.size ≤ gb105); have GE105 := GW105; clear hb hbox hg) | (go_at_call 100; (with_reducible refine (rational_size.calls a0 t106 _ A3.out).mono ?_); rintro e w' ⟨rfl, ⟨nd, rfl⟩⟩; (try first | exact ⟨rfl, _, World.drewN_drewN _ _ _⟩ | exact ⟨rfl, _, Eq.trans (World.drewN_drewN _ _ _) (congrArg (World.drewN _) (Nat.add_assoc _ _ _))⟩)) | (go_at_call 100; (with_reducible refine (rational_size.calls a1 t107 _ A4.out).mono ?_); rintro e w' ⟨rfl, ⟨nd, rfl⟩⟩; (try first | exact ⟨rfl, _, World.drewN_drewN _ _ _⟩ | exact ⟨rfl, _, Eq.trans (World.drewN_drewN _ _ _) (congrArg (World.drewN _) (Nat.add_assoc _ _ _))⟩)) | (go_at_call 101; (with_reducible refine (rational_gcd.calls k t106 t107 t108 _ A5.out).mono ?_); rintro e w' ⟨rfl, ⟨nd, rfl⟩⟩; (try first | exact ⟨rfl, _, World.drewN_drewN _ _ _⟩ | exact ⟨rfl, _, Eq.trans (World.drewN_drewN _ _ _) (congrArg (World.drewN _) (Nat.add_assoc _ _ _))⟩); have hcz15_0 := jcell BK105.out (i := 0) rfl; have hcz15_1 := jcell BK105.out (i := 1) rfl; have hfz15_0 := blk_frozen BK105.out 0; have hfz15_1 := blk_frozen BK105.out 1)); (try go_quiet (fail)))
    refine bodyPost_ret (results_ct rfl _ _ gb105 23 #[.int .i64 (wrap64 (IntKind.u64.wrap (Int.tdiv t106 t108))), .int .i64 (wrap64 (IntKind.u64.wrap (Int.tdiv t107 t108)))] (0, 0) _ rfl (by (with_reducible repeat (first | refine blk_drewN ?_ _ | refine blk_drew ?_ | refine blk_alloc ?_ _)); refine blk_put (cs := #[.int .i64 (wrap64 (IntKind.u64.wrap (Int.tdiv t106 t108))), .int .i64 0]) ?_ 1 _ rfl; (with_reducible repeat (first | refine blk_drewN ?_ _ | refine blk_drew ?_ | refine blk_alloc ?_ _)); refine blk_put (cs := #[.int .i64 0, .int .i64 0]) ?_ 0 _ rfl; (with_reducible repeat (first | refine blk_drewN ?_ _ | refine blk_drew ?_ | refine blk_alloc ?_ _)); exact fa) Tryz.underlying23 rfl (by kernel_rfl)) rfl ?_
    exact ⟨by first | rfl | (simp [errW_none, errW_some] <;> rfl) | (simp only [← hji7]; first | rfl | (simp [errW_none, errW_some] <;> rfl)) | (simp [*, errW_none, errW_some] <;> rfl), fa⟩
def num_Valid.f (k : Nat) (a0_0 : Int) (a0_1 : Int) : Option (Bool) := if a0_1 < 1 then (some false) else (if a0_1 > 2147483647 then (some false) else (if a0_0 < (-2147483647) then (some false) else (if a0_0 > 2147483647 then (some false) else ((rational_Exact.f k a0_0 a0_1).bind fun bt110 => (some (a0_0 == bt110.1 && (a0_1 == bt110.2.1)))))))
theorem num_Valid.mono : ∀ a0 a1 k, LeO (num_Valid.f k a0 a1) (num_Valid.f (k + 1) a0 a1) := by
  intro a0 a1 k
  unfold num_Valid.f
  repeat' first
      | (with_reducible exact rational_Exact.mono _ _ _)
      | (with_reducible exact LeO.refl _)
      | (with_reducible exact LeO.none _)
      | (with_reducible refine LeO.ite ?_ ?_)
      | (with_reducible refine LeO.bind ?_ (fun _ => ?_))
      | exact rational_Exact.mono _ _ _
      | exact LeO.none _
      | refine LeO.ite ?_ ?_
      | refine LeO.bind ?_ (fun _ => ?_)
set_option maxHeartbeats 8000000 in
set_option maxRecDepth 100000 in
theorem num_Valid.calls (k : Nat) (a0_0 : Int) (a0_1 : Int) (r : Bool) (w : World) (h : num_Valid.f k a0_0 a0_1 = some r) :
  Calls Tryz.prog 44 #[.agg #[.int .i64 a0_0, .int .i64 a0_1]] w fun e w' => e = .returned (.bool r) ∧ Below w.heap.size w w' := by
 have hu23 := Tryz.underlying23
 have HB := Fa.mk (Below.refl w.heap.size w)
 have H : (if a0_1 < 1 then (some false) else (if a0_1 > 2147483647 then (some false) else (if a0_0 < (-2147483647) then (some false) else (if a0_0 > 2147483647 then (some false) else ((rational_Exact.f k a0_0 a0_1).bind fun bt110 => (some (a0_0 == bt110.1 && (a0_1 == bt110.2.1)))))))) = some r := h
 clear h
 by_cases c2 : a0_1 < 1
 ·
  rw [if_pos c2] at H
  have c2b0 : decide (a0_1 < 1) = true := decide_eq_true c2
  clear c2
  obtain rfl := Option.some.inj H
  go_enter Tryz.func44, Tryz.ntmps44
  go_wp2_with (first | ((with_reducible refine gate_dst (N := 1) rfl ?_); refine boxF (N := 1) (cs := #[.int .i64 a0_0, .int .i64 a0_1]) (t := 23) ?_; intro gb109 hg w3 hbox hb; have n0_ := Fa.mk (bst w hb); have n1_ := Fa.mk (hbox); have n2_ := Fa.mk (gle hg : w.heap.size ≤ gb109); have n3_ := n2_; clear HB; have HB := n0_; have BK109 := n1_; have GW109 := n2_; have GE109 := n3_; clear n0_ n1_ n2_ n3_; clear hb hbox hg; have hcz4_0 := jcell BK109.out (i := 0) rfl; have hcz4_1 := jcell BK109.out (i := 1) rfl; have hfz4_0 := blk_frozen BK109.out 0; have hfz4_1 := blk_frozen BK109.out 1))
  go_ret
  exact ⟨rfl, fa⟩
 ·
  rw [if_neg c2] at H
  have c2b0 : decide (a0_1 < 1) = false := decide_eq_false c2
  clear c2
  by_cases c5 : a0_1 > 2147483647
  ·
   rw [if_pos c5] at H
   have c5b0 : decide (2147483647 < a0_1) = true := decide_eq_true c5
   clear c5
   obtain rfl := Option.some.inj H
   go_enter Tryz.func44, Tryz.ntmps44
   go_wp2_with (first | ((with_reducible refine gate_dst (N := 1) rfl ?_); refine boxF (N := 1) (cs := #[.int .i64 a0_0, .int .i64 a0_1]) (t := 23) ?_; intro gb109 hg w6 hbox hb; have n0_ := Fa.mk (bst w hb); have n1_ := Fa.mk (hbox); have n2_ := Fa.mk (gle hg : w.heap.size ≤ gb109); have n3_ := n2_; clear HB; have HB := n0_; have BK109 := n1_; have GW109 := n2_; have GE109 := n3_; clear n0_ n1_ n2_ n3_; clear hb hbox hg; have hcz7_0 := jcell BK109.out (i := 0) rfl; have hcz7_1 := jcell BK109.out (i := 1) rfl; have hfz7_0 := blk_frozen BK109.out 0; have hfz7_1 := blk_frozen BK109.out 1))
   go_ret
   exact ⟨rfl, fa⟩
  ·
   rw [if_neg c5] at H
   have c5b0 : decide (2147483647 < a0_1) = false := decide_eq_false c5
   clear c5
   by_cases c8 : a0_0 < (-2147483647)
   ·
    rw [if_pos c8] at H
    have c8b0 : decide (a0_0 < (-2147483647)) = true := decide_eq_true c8
    clear c8
    obtain rfl := Option.some.inj H
    go_enter Tryz.func44, Tryz.ntmps44
    go_wp2_with (first | ((with_reducible refine gate_dst (N := 1) rfl ?_); refine boxF (N := 1) (cs := #[.int .i64 a0_0, .int .i64 a0_1]) (t := 23) ?_; intro gb109 hg w9 hbox hb; have n0_ := Fa.mk (bst w hb); have n1_ := Fa.mk (hbox); have n2_ := Fa.mk (gle hg : w.heap.size ≤ gb109); have n3_ := n2_; clear HB; have HB := n0_; have BK109 := n1_; have GW109 := n2_; have GE109 := n3_; clear n0_ n1_ n2_ n3_; clear hb hbox hg; have hcz10_0 := jcell BK109.out (i := 0) rfl; have hcz10_1 := jcell BK109.out (i := 1) rfl; have hfz10_0 := blk_frozen BK109.out 0; have hfz10_1 := blk_frozen BK109.out 1))
    go_ret
    exact ⟨rfl, fa⟩
   ·
    rw [if_neg c8] at H
    have c8b0 : decide (a0_0 < (-2147483647)) = false := decide_eq_false c8
    clear c8
    by_cases c11 : a0_0 > 2147483647
    ·
     rw [if_pos c11] at H
     have c11b0 : decide (2147483647 < a0_0) = true := decide_eq_true c11
     clear c11
     obtain rfl := Option.some.inj H
     go_enter Tryz.func44, Tryz.ntmps44
     go_wp2_with (first | ((with_reducible refine gate_dst (N := 1) rfl ?_); refine boxF (N := 1) (cs := #[.int .i64 a0_0, .int .i64 a0_1]) (t := 23) ?_; intro gb109 hg w12 hbox hb; have n0_ := Fa.mk (bst w hb); have n1_ := Fa.mk (hbox); have n2_ := Fa.mk (gle hg : w.heap.size ≤ gb109); have n3_ := n2_; clear HB; have HB := n0_; have BK109 := n1_; have GW109 := n2_; have GE109 := n3_; clear n0_ n1_ n2_ n3_; clear hb hbox hg; have hcz13_0 := jcell BK109.out (i := 0) rfl; have hcz13_1 := jcell BK109.out (i := 1) rfl; have hfz13_0 := blk_frozen BK109.out 0; have hfz13_1 := blk_frozen BK109.out 1))
     go_ret
     exact ⟨rfl, fa⟩
    ·
     rw [if_neg c11] at H
     have c11b0 : decide (2147483647 < a0_0) = false := decide_eq_false c11
     clear c11
     replace H := Option.bind_eq_some_iff.mp H
     obtain ⟨⟨t110, t111, t112⟩, A140, H⟩ := H
     (try dsimp only at H)
     have A14 := Fa.mk A140
     clear A140
     obtain rfl := Option.some.inj H
     go_enter Tryz.func44, Tryz.ntmps44
     go_wp2_with (first | ((with_reducible refine gate_dst (N := 1) rfl ?_); refine boxF (N := 1) (cs := #[.int .i64 a0_0, .int .i64 a0_1]) (t := 23) ?_; intro gb109 hg w15 hbox hb; have hS := Stp.mk hb; have BK109 := Fa.mk (hbox); have GW109 := Fa.mk (gle hg : w.heap.size ≤ gb109); have GE109 := GW109; clear hb hbox hg; have hcz16_0 := jcell BK109.out (i := 0) rfl; have hcz16_1 := jcell BK109.out (i := 1) rfl; have hfz16_0 := blk_frozen BK109.out 0; have hfz16_1 := blk_frozen BK109.out 1) | ((with_reducible refine gate_callee (f := 79) rfl ?_); refine goesA (some 28) rfl rfl Tryz.func79 (by kernel_rfl) rfl #[.int .i64 a0_0, .int .i64 a0_1] rfl ?_; (with_reducible refine (rational_Exact.calls k a0_0 a0_1 t110 t111 t112 _ A14.out).mono ?_); rintro e w17 ⟨rfl, hb⟩; refine ⟨_, rfl, ?_⟩; have hS := Stp.mk hb; clear hb) | ((with_reducible refine gate_dst (N := 3) rfl ?_); refine boxF (N := 3) (cs := #[.int .i64 0, .int .i64 0]) (t := 23) ?_; intro gb113 hg w18 hbox hb; have hS := Stp.mk hb; have BK109 := (⟨fa⟩ : Fa (w18.heap[gb109]? = some (.cells #[.int .i64 a0_0, .int .i64 a0_1] 23 (0, 0)))); have BK113 := Fa.mk (hbox); have GW113 := Fa.mk (gle hg : w.heap.size ≤ gb113); have GE113 := GW113; have NB109_113 := Fa.mk (gne (o := .cells #[.int .i64 a0_0, .int .i64 a0_1] 23 (0, 0)) hg : gb109 ≠ gb113); have NB113_109 := Fa.mk NB109_113.out.symm; clear hb hbox hg; have hnb19 := NB113_109.out; have hnc19 := NB109_113.out; have hcz20_0 := jcell BK113.out (i := 0) rfl; have hcz20_1 := jcell BK113.out (i := 1) rfl; have hfz20_0 := blk_frozen BK113.out 0; have hfz20_1 := blk_frozen BK113.out 1; have hcz21_0 := jcell BK109.out (i := 0) rfl; have hcz21_1 := jcell BK109.out (i := 1) rfl; have hfz21_0 := blk_frozen BK109.out 0; have hfz21_1 := blk_frozen BK109.out 1))
     go_ret
     exact ⟨rfl, fa⟩
def okB (c : UInt8) : Bool := !(decide ((c.toNat : Int) < 33)) && !(decide ((c.toNat : Int) > 126))
def namedB (s : ByteArray) : Bool := s.data.toList.all okB && decide (1 ≤ s.size) && decide (s.size ≤ 200)
def linear_Named.f (a0 : ByteArray) : Option Bool := if a0.size ≤ 140737488351232 then some (namedB a0) else none
theorem below_bytesWorld (w : World) (e : TypeId) (s : ByteArray) : Below w.heap.size w (Lib.bytesWorld w e s) :=
  ⟨rfl, rfl, rfl, by rw [Lib.bytesWorld_size]; omega, fun k hk => Lib.bytesWorld_at_old w e s k hk⟩
theorem conv_bytes {P : Program} (w : World) (src dst e : TypeId) (s : ByteArray) {u : TypeDesc} (hs : P.underlying src = some u) (hd : P.underlying dst = some (.slice e)) (he : P.underlying e = some (.int .u8)) :
    ∃ w1 cap, (convert src dst (.string s)).run P w = .ok (.slice (some ⟨w.heap.size, 0, none⟩) s.size cap) w1 ∧ (∀ j, j < s.size → w1.cell? ⟨w.heap.size, j, none⟩ = some (.int .u8 (s.data.toList.getD j 0).toNat)) ∧ Below w.heap.size w w1 :=
  ⟨_, _, Lib.run_convert_string_bytes w src dst e s hs hd he, fun j hj => Lib.bytesWorld_cell w e s j hj, below_bytesWorld w e s⟩
theorem take_all_succ (l : List UInt8) (p : UInt8 → Bool) (k : Nat) (h : k < l.length) : (l.take (k + 1)).all p = ((l.take k).all p && p (l.getD k 0)) := by
  rw [List.take_succ_eq_append_getElem h, List.all_append]
  simp [List.getD, h]
theorem named_end {s : ByteArray} (h : s.data.toList.all okB = true) (h1 : (s.size : Int) ≥ 1) : namedB s = decide ((s.size : Int) ≤ 200) := by
  unfold namedB
  rw [h, decide_eq_true (show 1 ≤ s.size by omega), Bool.true_and, Bool.true_and]
  exact decide_eq_decide.mpr ⟨fun h => by omega, fun h => by omega⟩
theorem ret_bool {a b : Bool} (h : a = b) : Ending.returned (.bool a) = .returned (.bool b) := by rw [h]
set_option maxHeartbeats 1000000 in
theorem linear_Named.calls (a0 : ByteArray) (r : Bool) (w : World) (h : linear_Named.f a0 = some r) :
  Calls Tryz.prog 51 #[.string a0] w fun e w' => e = .returned (.bool r) ∧ Below w.heap.size w w' := by
 unfold linear_Named.f at h
 by_cases hs : a0.size ≤ 140737488351232
 rotate_left
 ·
  rw [if_neg hs] at h; cases h
 rw [if_pos hs] at h
 obtain rfl := Option.some.inj h
 clear h
 obtain ⟨w1, cap, hrun, hcells, hbel⟩ := conv_bytes (P := Tryz.prog) w 9 71 5 a0 Tryz.underlying9 Tryz.underlying71 Tryz.underlying5
 have HC := Lib.hid hcells
 have HB := Lib.hid hbel
 clear hcells hbel
 have hlen : a0.data.toList.length = a0.size := Array.length_toList
 have HL := Lib.hid hlen
 clear hlen
 go_enter Tryz.func51, Tryz.ntmps51
 go_wp2
 go_loop [8] (fun i => ∃ k : Nat, k ≤ a0.size ∧ i = .int .i64 k ∧ (a0.data.toList.take k).all okB = true) (fun i => a0.size - (intOf i).toNat)
 case atStart => exact ⟨0, Nat.zero_le _, rfl, rfl⟩
 case round =>
  obtain ⟨k, hk, rfl, hall⟩ := hrel
  by_cases hlt : k < a0.size
  ·
   have hc := HC.out k hlt
   have hall' := take_all_succ a0.data.toList okB k (by rw [HL.out]; exact hlt)
   rw [hall] at hall'
   have HA := Lib.hid hall'
   clear hall' hall
   obtain ⟨c, hcd⟩ : ∃ c, a0.data.toList.getD k 0 = c := ⟨_, rfl⟩
   have hmem : c ∈ a0.data.toList := by rw [← hcd]; simp [List.getD, HL.out, hlt]
   rw [hcd] at hc HA
   clear hcd
   by_cases h1 : (c.toNat : Int) < 33
   ·
    have HN : Hid (namedB a0 = false) := by
     unfold namedB
     have : a0.data.toList.all okB = false := List.all_eq_false.mpr ⟨c, hmem, by simp [okB, h1]⟩
     rw [this]; rfl
    clear hmem
    go_wp2
    go_ret
    exact ⟨ret_bool HN.out.symm, HB.out⟩
   ·
    by_cases h2 : (c.toNat : Int) > 126
    ·
     have HN : Hid (namedB a0 = false) := by
      unfold namedB
      have : a0.data.toList.all okB = false := List.all_eq_false.mpr ⟨c, hmem, by simp only [okB, h2, decide_true, Bool.not_true, Bool.and_false]; exact Bool.false_ne_true⟩
      rw [this]; rfl
     clear hmem
     go_wp2
     go_ret
     exact ⟨ret_bool HN.out.symm, HB.out⟩
    ·
     clear hmem
     have HO : Hid (okB c = true) := by show okB c = true; simp only [okB, h1, h2, decide_false, Bool.not_false, Bool.and_self]
     go_wp2
     go_round
     case rel => exact ⟨k + 1, by omega, by go_num, by rw [HA.out, HO.out]; rfl⟩
     case measure => simp [intOf]; omega
  ·
   have hall' : a0.data.toList.all okB = true := by rw [List.take_of_length_le (by rw [HL.out]; omega)] at hall; exact hall
   clear hall
   have HA := Lib.hid hall'
   clear hall'
   by_cases h1 : (a0.size : Int) ≥ 1
   ·
    go_wp2
    go_ret
    exact ⟨ret_bool (named_end HA.out h1).symm, HB.out⟩
   ·
    go_wp2
    go_ret
    exact ⟨ret_bool (by unfold namedB; rw [HA.out, decide_eq_false (show ¬ 1 ≤ a0.size by omega)]; rfl), HB.out⟩
end Go.Proofs.YtilamkcpbibnmaaGreatDoor.P
