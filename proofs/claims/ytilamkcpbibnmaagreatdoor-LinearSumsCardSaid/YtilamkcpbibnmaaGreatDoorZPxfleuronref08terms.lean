import Derived.Test.YtilamkcpbibnmaaGreatDoorZPx0
import Derived.Test.YtilamkcpbibnmaaGreatDoorZPxfleuronref01gcd
namespace Go.Proofs.YtilamkcpbibnmaaGreatDoor.P
open Go.RowKit Go.Proofs.YtilamkcpbibnmaaGreatDoorW.PrintWords Go.Proofs.YtilamkcpbibnmaaGreatDoorW.PrintLast Go.Proofs.YtilamkcpbibnmaaGreatDoorW.PrintMore
attribute [local go_sem] max2_int min2_int max_two min_two max_three min_three max_four min_four
set_option linter.unusedVariables false
set_option linter.unusedSimpArgs false
def fleuronref08_terms.l0 : Nat → List (S47) → Bool → List (S47) → Int → Int → Option (Bool)
  | 0, _, _, _, _, _ => none
  | k + 1, x0, x1, x10, x11, x12 => if x12 < x11 then (if 0 ≤ x12 then (if x12 < (x10.length : Int) then ((fleuronref08_Name.f k ((rd_T47 x10 x12).f0)).bind fun t267 => (if t267 = true then ((fleuronref01_Valid.f k ((rd_T47 x10 x12).f1.f0) ((rd_T47 x10 x12).f1.f1)).bind fun t268 => (if t268 = true then (if ((rd_T47 x10 x12).f1.f0) = 0 then (if x1 = true then (if x12 > 0 then (if 0 ≤ (wrap64 (x12 - 1)) then (if (wrap64 (x12 - 1)) < (x0.length : Int) then (if ((Op.bytesLess (((rd_T47 x0 (wrap64 (x12 - 1))).f0).toList) (((rd_T47 x10 x12).f0).toList)) = true) then (fleuronref08_terms.l0 k x0 x1 x10 x11 (wrap64 (x12 + 1))) else (some false)) else (none)) else (none)) else (fleuronref08_terms.l0 k x0 x1 x10 x11 (wrap64 (x12 + 1)))) else (some false)) else (if x12 > 0 then (if 0 ≤ (wrap64 (x12 - 1)) then (if (wrap64 (x12 - 1)) < (x0.length : Int) then (if ((Op.bytesLess (((rd_T47 x0 (wrap64 (x12 - 1))).f0).toList) (((rd_T47 x10 x12).f0).toList)) = true) then (fleuronref08_terms.l0 k x0 x1 x10 x11 (wrap64 (x12 + 1))) else (some false)) else (none)) else (none)) else (fleuronref08_terms.l0 k x0 x1 x10 x11 (wrap64 (x12 + 1))))) else (some false))) else (some false))) else (none)) else (none)) else (some true)
def fleuronref08_terms.f (k : Nat) (l0 : List (S47)) (a1 : Bool) : Option (Bool) := if (l0.length : Int) > 60 then (some false) else (fleuronref08_terms.l0 k l0 a1 l0 (l0.length : Int) 0)
def fleuronref08_terms.T6 : Bool × List (List Nat × List Nat) := (true, [([], []), ([0], [0]), ([1], [1]), ([2], [2]), ([3, 2], [3]), ([4], [4]), ([5, 4], [4, 5]), ([6, 4, 4], [4, 6]), ([7, 4], [4, 7]), ([4, 8], [4, 8]), ([9, 7], [9]), ([10], [10]), ([11, 10], [10, 11]), ([12, 10], [10, 12]), ([13, 10], [10, 13]), ([14, 10, 10], [10, 14]), ([15], [15]), ([16, 15], [15, 16]), ([15, 17, 10], [10, 15, 17]), ([10, 18], [10, 18]), ([19, 15], [19]), ([20], [20]), ([21, 20], [20, 21]), ([22, 20, 20], [20, 22]), ([23], [23]), ([23], [23]), ([25, 23], [23, 25]), ([24, 26, 23], [23, 24, 26]), ([27, 23], [23, 27]), ([28, 23], [23, 28]), ([23], [23]), ([30, 23], [23, 30]), ([29, 31, 23], [23, 29, 31]), ([23, 32, 20], [20, 23, 32]), ([20, 33], [20, 33])])
def fleuronref08_terms.B6 : List Nat := [0, 1, 3, 7, 15, 31, 63, 127, 255, 511, 1023, 2047, 4095, 8191, 16383, 32767, 65535, 131071, 262143, 524287, 1048575, 2097151, 4194303, 8388607, 16777215, 16777215, 50331647, 134217727, 268435455, 536870911, 16777215, 1090519039, 4294967295, 8589934591, 17179869183]
theorem fleuronref08_terms.tab6 : rtab .any (opsOf Tryz.f48 6) = fleuronref08_terms.T6 := by kernel_rfl
theorem fleuronref08_terms.bits6 : waitsOk fleuronref08_terms.T6.2 fleuronref08_terms.B6 = true := by kernel_rfl
set_option maxHeartbeats 8000000 in
set_option maxRecDepth 100000 in
theorem fleuronref08_terms.calls (k : Nat) (A0 : Option Addr) (c0 : Nat) (l0 : List (S47)) (a1 : Bool) (r : Bool) (w : World) (hr0 : Kd.C k47 w A0 l0.length l0) (hc0 : l0.length ≤ c0) (h : fleuronref08_terms.f k l0 a1 = some r) :
  Calls Tryz.prog 48 #[.slice A0 l0.length c0, .bool a1] w fun e w' => e = .returned (.bool r) ∧ Below w.heap.size w w' := by
 have hu47 := Tryz.underlying47
 have hu23 := Tryz.underlying23
 have HR0 := Fa.mk hr0
 have HC0 := Fa.mk hc0
 clear hr0 hc0
 have HB := Fa.mk (Below.refl w.heap.size w)
 have H : (if (l0.length : Int) > 60 then (some false) else (fleuronref08_terms.l0 k l0 a1 l0 (l0.length : Int) 0)) = some r := h
 clear h
 by_cases c3 : (l0.length : Int) > 60
 ·
  rw [if_pos c3] at H
  have c3b0 : decide (60 < (l0.length : Int)) = true := decide_eq_true c3
  have c3b1 : decide (60 < l0.length) = true := decide_eq_true (by omega)
  clear c3
  obtain rfl := Option.some.inj H
  go_enter Tryz.func48, Tryz.ntmps48
  go_wp2
  go_ret
  exact ⟨rfl, fa⟩
 ·
  rw [if_neg c3] at H
  have c3b0 : decide (60 < (l0.length : Int)) = false := decide_eq_false c3
  have c3b1 : decide (60 < l0.length) = false := decide_eq_false (by omega)
  clear c3
  have H' := Fa.mk H
  clear H
  go_enter Tryz.func48, Tryz.ntmps48
  go_wp2
  go_loopg [12] k (fun kq v12 w' => ∃ (x12_1 : Int), v12 = .int .i64 x12_1 ∧ Fa (fleuronref08_terms.l0 kq l0 a1 l0 (l0.length : Int) x12_1 = some r) ∧ Fa (kq ≤ k) ∧ Fa (Below w.heap.size w w'))
  case atStart => exact ⟨(0), (by first | rfl | (simp; done) | (simp [*]; done)), H', ⟨Nat.le_refl _⟩, ⟨fa⟩⟩
  case round =>
   clear H'
   (try clear p2);(try clear c3);(try clear c3b0);(try clear c3b1)
   obtain ⟨x12_1, rfl, HA, HK1, HB⟩ := hrel
   cases gk with
   | zero => exact absurd HA.out (by simp [fleuronref08_terms.l0])
   | succ k1 =>
    have H := HA.out
    clear HA
    simp only [fleuronref08_terms.l0] at H
    by_cases c4 : x12_1 < (l0.length : Int)
    ·
     rw [if_pos c4] at H
     have c4b0 : decide (x12_1 < (l0.length : Int)) = true := decide_eq_true c4
     clear c4
     by_cases c5 : 0 ≤ x12_1
     ·
      rw [if_pos c5] at H
      have c5b0 : decide (0 ≤ x12_1) = true := decide_eq_true c5
      clear c5
      by_cases c6 : x12_1 < (l0.length : Int)
      ·
       rw [if_pos c6] at H
       have c6b0 : decide (x12_1 < (l0.length : Int)) = true := decide_eq_true c6
       clear c6
       replace H := Option.bind_eq_some_iff.mp H
       obtain ⟨t267, A70, H⟩ := H
       (try dsimp only at H)
       have A7 := Fa.mk A70
       clear A70
       by_cases c8 : t267 = true
       ·
        subst c8
        rw [if_pos rfl] at H
        replace H := Option.bind_eq_some_iff.mp H
        obtain ⟨t268, A90, H⟩ := H
        (try dsimp only at H)
        have A9 := Fa.mk A90
        clear A90
        by_cases c10 : t268 = true
        ·
         subst c10
         rw [if_pos rfl] at H
         by_cases c11 : ((rd_T47 l0 x12_1).f1.f0) = 0
         ·
          rw [if_pos c11] at H
          have c11b0 : (((rd_T47 l0 x12_1).f1.f0) == 0) = true := beq_iff_eq.mpr c11
          have c11b1 : (((rd_T47 l0 x12_1).f1.f0) != 0) = false := bne_eq_false_iff_eq.mpr c11
          clear c11
          by_cases c12 : a1 = true
          ·
           subst c12
           rw [if_pos rfl] at H
           by_cases c13 : x12_1 > 0
           ·
            rw [if_pos c13] at H
            have c13b0 : decide (0 < x12_1) = true := decide_eq_true c13
            clear c13
            obtain ⟨ji14, hji14⟩ : ∃ j_ : Int, (wrap64 (x12_1 - 1)) = j_ := ⟨_, rfl⟩
            replace H : (if 0 ≤ (ji14) then (if (ji14) < (l0.length : Int) then (if ((Op.bytesLess (((rd_T47 l0 (ji14)).f0).toList) (((rd_T47 l0 x12_1).f0).toList)) = true) then (fleuronref08_terms.l0 k1 l0 true l0 (l0.length : Int) (wrap64 (x12_1 + 1))) else (some false)) else (none)) else (none)) = some r := by first | (rw [hji14] at H; exact H) | (simp only [hji14] at H ⊢; exact H)
            (try rw [hji14] at A7)
            (try rw [hji14] at A9)
            have hji14w : (IntKind.i64.wrap (x12_1 - 1)) = ji14 := (i64_w _).trans hji14
            by_cases c15 : 0 ≤ (ji14)
            ·
             rw [if_pos c15] at H
             have c15b0 : decide (0 ≤ (ji14)) = true := decide_eq_true c15
             clear c15
             by_cases c16 : (ji14) < (l0.length : Int)
             ·
              rw [if_pos c16] at H
              have c16b0 : decide ((ji14) < (l0.length : Int)) = true := decide_eq_true c16
              clear c16
              by_cases c17 : ((Op.bytesLess (((rd_T47 l0 (ji14)).f0).toList) (((rd_T47 l0 x12_1).f0).toList)) = true)
              ·
               rw [if_pos c17] at H
               have c17b0 : (Op.bytesLess (((rd_T47 l0 (ji14)).f0).toList) (((rd_T47 l0 x12_1).f0).toList)) = true := c17
               clear c17
               have H' := Fa.mk H
               clear H
               have p265 : 0 ≤ (x12_1 : Int) := of_decide_eq_true (by first | (with_reducible assumption) | assumption)
               have q265 : x12_1 < (l0.length : Int) := of_decide_eq_true (by first | (with_reducible assumption) | assumption)
               obtain ⟨ad265, e265, hx265_0, hx265_1, hx265_2⟩ := at_T47 HR0.out x12_1 p265 q265
               cases e265
               replace hx265_0 := (HB.out.cell (World.block_lt_of_cell? w _ hx265_0)).trans hx265_0
               replace hx265_1 := (HB.out.cell (World.block_lt_of_cell? w _ hx265_1)).trans hx265_1
               replace hx265_2 := (HB.out.cell (World.block_lt_of_cell? w _ hx265_2)).trans hx265_2
               replace p265 := eq_true p265
               replace q265 := eq_true q265
               try go_wp2_with (first | ((with_reducible refine gate_dst (N := 6) rfl ?_); refine boxF (N := 6) (cs := #[.string (⟨#[]⟩ : ByteArray), .int .i64 0, .int .i64 0]) (t := 47) ?_; intro gb266 hg w18 hbox hb; have n0_ := Fa.mk (bst w hb); have n1_ := Fa.mk (hbox); have n2_ := Fa.mk (gle hg : w.heap.size ≤ gb266); have n3_ := n2_; clear HB; have HB := n0_; have BK266 := n1_; have GW266 := n2_; have GE266 := n3_; clear n0_ n1_ n2_ n3_; clear hb hbox hg; have hcz19_0 := jcell BK266.out (i := 0) rfl; have hcz19_1 := jcell BK266.out (i := 1) rfl; have hcz19_2 := jcell BK266.out (i := 2) rfl; have hfz19_0 := blk_frozen BK266.out 0; have hfz19_1 := blk_frozen BK266.out 1; have hfz19_2 := blk_frozen BK266.out 2))
               have n0_ : Fa ((((w18.setCell ⟨gb266, 0, none⟩ (.string ((rd_T47 l0 x12_1).f0))).setCell ⟨gb266, 1, none⟩ (.int .i64 ((rd_T47 l0 x12_1).f1.f0))).setCell ⟨gb266, 2, none⟩ (.int .i64 ((rd_T47 l0 x12_1).f1.f1))).heap[gb266]? = some (.cells #[.string ((rd_T47 l0 x12_1).f0), .int .i64 ((rd_T47 l0 x12_1).f1.f0), .int .i64 ((rd_T47 l0 x12_1).f1.f1)] 47 (0, 0))) := ⟨by (with_reducible repeat (first | refine blk_drewN ?_ _ | refine blk_drew ?_ | refine blk_alloc ?_ _)); refine blk_put (cs := #[.string ((rd_T47 l0 x12_1).f0), .int .i64 ((rd_T47 l0 x12_1).f1.f0), .int .i64 0]) ?_ 2 _ rfl; (with_reducible repeat (first | refine blk_drewN ?_ _ | refine blk_drew ?_ | refine blk_alloc ?_ _)); refine blk_put (cs := #[.string ((rd_T47 l0 x12_1).f0), .int .i64 0, .int .i64 0]) ?_ 1 _ rfl; (with_reducible repeat (first | refine blk_drewN ?_ _ | refine blk_drew ?_ | refine blk_alloc ?_ _)); refine blk_put (cs := #[.string (⟨#[]⟩ : ByteArray), .int .i64 0, .int .i64 0]) ?_ 0 _ rfl; (with_reducible repeat (first | refine blk_drewN ?_ _ | refine blk_drew ?_ | refine blk_alloc ?_ _)); exact fa⟩
               have n1_ : Fa (Below w.heap.size w (((w18.setCell ⟨gb266, 0, none⟩ (.string ((rd_T47 l0 x12_1).f0))).setCell ⟨gb266, 1, none⟩ (.int .i64 ((rd_T47 l0 x12_1).f1.f0))).setCell ⟨gb266, 2, none⟩ (.int .i64 ((rd_T47 l0 x12_1).f1.f1)))) := ⟨fa⟩
               (try clear BK266)
               (try clear HB)
               generalize (((w18.setCell ⟨gb266, 0, none⟩ (.string ((rd_T47 l0 x12_1).f0))).setCell ⟨gb266, 1, none⟩ (.int .i64 ((rd_T47 l0 x12_1).f1.f0))).setCell ⟨gb266, 2, none⟩ (.int .i64 ((rd_T47 l0 x12_1).f1.f1))) = w20 at n0_ n1_ ⊢
               have BK266 := n0_
               have HB := n1_
               clear n0_ n1_
               have n0_ := Fa.mk (blk_drew BK266.out)
               have n1_ := Fa.mk (below_drew1 HB.out)
               clear BK266 HB
               have BK266 := n0_
               have HB := n1_
               clear n0_ n1_
               have p269 : 0 ≤ ((ji14) : Int) := of_decide_eq_true (by first | (with_reducible assumption) | assumption)
               have q269 : (ji14) < (l0.length : Int) := of_decide_eq_true (by first | (with_reducible assumption) | assumption)
               obtain ⟨ad269, e269, hx269_0, hx269_1, hx269_2⟩ := at_T47 HR0.out (ji14) p269 q269
               have hw269_2 := hx269_2
               have hw269_1 := hx269_1
               have hw269_0 := hx269_0
               obtain rfl : ad265 = ad269 := (by injection e269)
               replace hx269_0 := (HB.out.cell (World.block_lt_of_cell? w _ hx269_0)).trans hx269_0
               replace hx269_1 := (HB.out.cell (World.block_lt_of_cell? w _ hx269_1)).trans hx269_1
               replace hx269_2 := (HB.out.cell (World.block_lt_of_cell? w _ hx269_2)).trans hx269_2
               replace p269 := eq_true p269
               replace q269 := eq_true q269
               refine startU 35 (S := fun w' => w'.cell? ⟨gb266, 0, none⟩ = some (.string ((rd_T47 l0 x12_1).f0)) ∧ w'.cell? ⟨gb266, 1, none⟩ = some (.int .i64 ((rd_T47 l0 x12_1).f1.f0)) ∧ w'.cell? ⟨gb266, 2, none⟩ = some (.int .i64 ((rd_T47 l0 x12_1).f1.f1)) ∧ w'.cell? (ad265.add (((ji14)).toNat * 3)) = some (.string ((rd_T47 l0 (ji14)).f0)) ∧ w'.cell? ⟨(ad265.add (((ji14)).toNat * 3)).block, (ad265.add (((ji14)).toNat * 3)).off + 1, none⟩ = some (.int .i64 ((rd_T47 l0 (ji14)).f1.f0)) ∧ w'.cell? ⟨(ad265.add (((ji14)).toNat * 3)).block, (ad265.add (((ji14)).toNat * 3)).off + 2, none⟩ = some (.int .i64 ((rd_T47 l0 (ji14)).f1.f1))) (ds := []) ⟨(blk_cell BK266.out 0).trans rfl, (blk_cell BK266.out 1).trans rfl, (blk_cell BK266.out 2).trans rfl, ((HB.out.cell (World.block_lt_of_cell? w _ hw269_0)).trans hw269_0), ((HB.out.cell (World.block_lt_of_cell? w _ hw269_1)).trans hw269_1), ((HB.out.cell (World.block_lt_of_cell? w _ hw269_2)).trans hw269_2)⟩ (fun hHeld => ?_); refine with_tabW fleuronref08_terms.tab6 fleuronref08_terms.bits6 (fun HT_ HW_ => ?_)
               generalize w20.drew = w21 at BK266 HB hx269_0 hx269_1 hx269_2 hHeld ⊢
               refine pureU 0 (some 17) (upto 35 1) HT_ ?_
               refine takeU 1 (some 18) (upto 35 2) HT_ HW_ hHeld rfl (by rintro w' ⟨s0, s1, s2, s3, s4, s5⟩; go_simp; with_reducible rfl) ?_
               refine oneU 2 (some 19) (upto 35 3) HT_ (fun K hK => ?_)
               refine goes_ Tryz.func52 (by kernel_rfl) rfl #[.string ((rd_T47 l0 x12_1).f0)] (by rfl) rfl rfl (by (try simp only [List.map_toArray, List.map_cons, List.map_nil]); first | done | rfl | (simp only [List.length_drop, List.length_take]; rfl)) ?_
               with_reducible refine (fleuronref08_Name.calls k1 ((rd_T47 l0 x12_1).f0) true _ A7.out).mono ?_
               rintro e w' ⟨rfl, ⟨nd, rfl⟩⟩
               refine ⟨_, rfl, ?_⟩
               refine hK.out _ _ ⟨(blk_cell BK266.out 0).trans rfl, (blk_cell BK266.out 1).trans rfl, (blk_cell BK266.out 2).trans rfl, ((HB.out.cell (World.block_lt_of_cell? w _ hw269_0)).trans hw269_0), ((HB.out.cell (World.block_lt_of_cell? w _ hw269_1)).trans hw269_1), ((HB.out.cell (World.block_lt_of_cell? w _ hw269_2)).trans hw269_2)⟩ (fun hHeld => ?_)
               clear hK K
               refine normU (some 19) ?_
               refine pureU 3 (some 20) (upto 35 4) HT_ ?_
               refine pureU 4 (some 21) (upto 35 5) HT_ ?_
               refine pureU 5 (some 22) (upto 35 6) HT_ ?_
               refine takeU 6 (some 23) (upto 35 7) HT_ HW_ hHeld rfl (by rintro w' ⟨s0, s1, s2, s3, s4, s5⟩; go_simp; with_reducible rfl) ?_
               refine oneU 7 (some 24) (upto 35 8) HT_ (fun K hK => ?_)
               refine goes_ Tryz.func34 (by kernel_rfl) rfl #[.agg #[.int .i64 ((rd_T47 l0 x12_1).f1.f0), .int .i64 ((rd_T47 l0 x12_1).f1.f1)]] (by rfl) rfl rfl (by (try simp only [List.map_toArray, List.map_cons, List.map_nil]); first | done | rfl | (simp only [List.length_drop, List.length_take]; rfl)) ?_
               with_reducible refine (fleuronref01_Valid.calls k1 ((rd_T47 l0 x12_1).f1.f0) ((rd_T47 l0 x12_1).f1.f1) true _ A9.out).mono ?_
               rintro e w22 ⟨rfl, hb⟩
               refine ⟨_, rfl, ?_⟩
               have n0_ := Fa.mk (blk_below (g := gb266) (o := .cells #[.string ((rd_T47 l0 x12_1).f0), .int .i64 ((rd_T47 l0 x12_1).f1.f0), .int .i64 ((rd_T47 l0 x12_1).f1.f1)] 47 (0, 0)) fa hb)
               have n1_ := Fa.mk (bst w hb)
               clear BK266 HB
               have BK266 := n0_
               have HB := n1_
               clear n0_ n1_
               (try clear hb)
               (try clear hb2)
               (try clear hk)
               (try clear hi)
               refine hK.out _ _ ⟨(blk_cell BK266.out 0).trans rfl, (blk_cell BK266.out 1).trans rfl, (blk_cell BK266.out 2).trans rfl, ((HB.out.cell (World.block_lt_of_cell? w _ hw269_0)).trans hw269_0), ((HB.out.cell (World.block_lt_of_cell? w _ hw269_1)).trans hw269_1), ((HB.out.cell (World.block_lt_of_cell? w _ hw269_2)).trans hw269_2)⟩ (fun hHeld => ?_)
               clear hK K
               refine normU (some 24) ?_
               refine pureU 8 (some 25) (upto 35 9) HT_ ?_
               refine pureU 9 (some 26) (upto 35 10) HT_ ?_
               refine pureU 10 (some 27) (upto 35 11) HT_ ?_
               refine pureU 11 (some 28) (upto 35 12) HT_ ?_
               refine pureU 12 (some 29) (upto 35 13) HT_ ?_
               refine takeU 13 (some 30) (upto 35 14) HT_ HW_ hHeld rfl (by rintro w' ⟨s0, s1, s2, s3, s4, s5⟩; go_simp; with_reducible rfl) ?_
               refine pureU 14 (some 31) (upto 35 15) HT_ ?_
               refine pureU 15 (some 32) (upto 35 16) HT_ ?_
               refine pureU 16 (some 33) (upto 35 17) HT_ ?_
               refine pureU 17 (some 34) (upto 35 18) HT_ ?_
               refine pureU 18 (some 35) (upto 35 19) HT_ ?_
               refine pureU 19 (some 36) (upto 35 20) HT_ ?_
               refine pureU 20 (some 37) (upto 35 21) HT_ ?_
               refine pureU 21 (some 38) (upto 35 22) HT_ ?_
               refine pureU 22 (some 39) (upto 35 23) HT_ ?_
               refine pureU 23 (some 40) (upto 35 24) HT_ ?_
               refine pureU 24 (some 41) (upto 35 25) HT_ ?_
               refine pureU 25 (some 42) (upto 35 26) HT_ ?_
               refine pureU 26 (some 43) (upto 35 27) HT_ ?_
               refine pureU 27 (some 44) (upto 35 28) HT_ ?_
               refine pureU 28 (some 45) (upto 35 29) HT_ ?_
               refine pureU 30 (some 47) #[true, true, true, true, true, true, true, true, true, true, true, true, true, true, true, true, true, true, true, true, true, true, true, true, true, true, true, true, true, false, true, false, false, false, false] HT_ ?_
               refine takeU 29 (some 46) (upto 35 31) HT_ HW_ hHeld rfl (by rintro w' ⟨s0, s1, s2, s3, s4, s5⟩; go_simp; with_reducible rfl) ?_
               refine takeU 31 (some 48) (upto 35 32) HT_ HW_ hHeld rfl (by rintro w' ⟨s0, s1, s2, s3, s4, s5⟩; go_simp; with_reducible rfl) ?_
               refine pureU 32 (some 49) (upto 35 33) HT_ ?_
               refine pureU 33 (some 50) (upto 35 34) HT_ ?_
               refine pureU 34 (some 51) (upto 35 35) HT_ ?_
               refine done_ (done_of HT_.out (by kernel_rfl)) ?_
               try go_wp2
               go_roundg k1
               case measure => have := HK1.out; omega
               case rel => exact ⟨(wrap64 (x12_1 + 1)), (by first | rfl | (simp; done) | (simp [*]; done)), H', ⟨by have := HK1.out; omega⟩, ⟨fa⟩⟩
              ·
               rw [if_neg c17] at H
               have c17b0 : (Op.bytesLess (((rd_T47 l0 (ji14)).f0).toList) (((rd_T47 l0 x12_1).f0).toList)) = false := by simpa using c17
               clear c17
               obtain rfl := Option.some.inj H
               have p265 : 0 ≤ (x12_1 : Int) := of_decide_eq_true (by first | (with_reducible assumption) | assumption)
               have q265 : x12_1 < (l0.length : Int) := of_decide_eq_true (by first | (with_reducible assumption) | assumption)
               obtain ⟨ad265, e265, hx265_0, hx265_1, hx265_2⟩ := at_T47 HR0.out x12_1 p265 q265
               cases e265
               replace hx265_0 := (HB.out.cell (World.block_lt_of_cell? w _ hx265_0)).trans hx265_0
               replace hx265_1 := (HB.out.cell (World.block_lt_of_cell? w _ hx265_1)).trans hx265_1
               replace hx265_2 := (HB.out.cell (World.block_lt_of_cell? w _ hx265_2)).trans hx265_2
               replace p265 := eq_true p265
               replace q265 := eq_true q265
               try go_wp2_with (first | ((with_reducible refine gate_dst (N := 6) rfl ?_); refine boxF (N := 6) (cs := #[.string (⟨#[]⟩ : ByteArray), .int .i64 0, .int .i64 0]) (t := 47) ?_; intro gb266 hg w23 hbox hb; have n0_ := Fa.mk (bst w hb); have n1_ := Fa.mk (hbox); have n2_ := Fa.mk (gle hg : w.heap.size ≤ gb266); have n3_ := n2_; clear HB; have HB := n0_; have BK266 := n1_; have GW266 := n2_; have GE266 := n3_; clear n0_ n1_ n2_ n3_; clear hb hbox hg; have hcz24_0 := jcell BK266.out (i := 0) rfl; have hcz24_1 := jcell BK266.out (i := 1) rfl; have hcz24_2 := jcell BK266.out (i := 2) rfl; have hfz24_0 := blk_frozen BK266.out 0; have hfz24_1 := blk_frozen BK266.out 1; have hfz24_2 := blk_frozen BK266.out 2))
               have n0_ : Fa ((((w23.setCell ⟨gb266, 0, none⟩ (.string ((rd_T47 l0 x12_1).f0))).setCell ⟨gb266, 1, none⟩ (.int .i64 ((rd_T47 l0 x12_1).f1.f0))).setCell ⟨gb266, 2, none⟩ (.int .i64 ((rd_T47 l0 x12_1).f1.f1))).heap[gb266]? = some (.cells #[.string ((rd_T47 l0 x12_1).f0), .int .i64 ((rd_T47 l0 x12_1).f1.f0), .int .i64 ((rd_T47 l0 x12_1).f1.f1)] 47 (0, 0))) := ⟨by (with_reducible repeat (first | refine blk_drewN ?_ _ | refine blk_drew ?_ | refine blk_alloc ?_ _)); refine blk_put (cs := #[.string ((rd_T47 l0 x12_1).f0), .int .i64 ((rd_T47 l0 x12_1).f1.f0), .int .i64 0]) ?_ 2 _ rfl; (with_reducible repeat (first | refine blk_drewN ?_ _ | refine blk_drew ?_ | refine blk_alloc ?_ _)); refine blk_put (cs := #[.string ((rd_T47 l0 x12_1).f0), .int .i64 0, .int .i64 0]) ?_ 1 _ rfl; (with_reducible repeat (first | refine blk_drewN ?_ _ | refine blk_drew ?_ | refine blk_alloc ?_ _)); refine blk_put (cs := #[.string (⟨#[]⟩ : ByteArray), .int .i64 0, .int .i64 0]) ?_ 0 _ rfl; (with_reducible repeat (first | refine blk_drewN ?_ _ | refine blk_drew ?_ | refine blk_alloc ?_ _)); exact fa⟩
               have n1_ : Fa (Below w.heap.size w (((w23.setCell ⟨gb266, 0, none⟩ (.string ((rd_T47 l0 x12_1).f0))).setCell ⟨gb266, 1, none⟩ (.int .i64 ((rd_T47 l0 x12_1).f1.f0))).setCell ⟨gb266, 2, none⟩ (.int .i64 ((rd_T47 l0 x12_1).f1.f1)))) := ⟨fa⟩
               (try clear BK266)
               (try clear HB)
               generalize (((w23.setCell ⟨gb266, 0, none⟩ (.string ((rd_T47 l0 x12_1).f0))).setCell ⟨gb266, 1, none⟩ (.int .i64 ((rd_T47 l0 x12_1).f1.f0))).setCell ⟨gb266, 2, none⟩ (.int .i64 ((rd_T47 l0 x12_1).f1.f1))) = w25 at n0_ n1_ ⊢
               have BK266 := n0_
               have HB := n1_
               clear n0_ n1_
               have n0_ := Fa.mk (blk_drew BK266.out)
               have n1_ := Fa.mk (below_drew1 HB.out)
               clear BK266 HB
               have BK266 := n0_
               have HB := n1_
               clear n0_ n1_
               have p269 : 0 ≤ ((ji14) : Int) := of_decide_eq_true (by first | (with_reducible assumption) | assumption)
               have q269 : (ji14) < (l0.length : Int) := of_decide_eq_true (by first | (with_reducible assumption) | assumption)
               obtain ⟨ad269, e269, hx269_0, hx269_1, hx269_2⟩ := at_T47 HR0.out (ji14) p269 q269
               have hw269_2 := hx269_2
               have hw269_1 := hx269_1
               have hw269_0 := hx269_0
               obtain rfl : ad265 = ad269 := (by injection e269)
               replace hx269_0 := (HB.out.cell (World.block_lt_of_cell? w _ hx269_0)).trans hx269_0
               replace hx269_1 := (HB.out.cell (World.block_lt_of_cell? w _ hx269_1)).trans hx269_1
               replace hx269_2 := (HB.out.cell (World.block_lt_of_cell? w _ hx269_2)).trans hx269_2
               replace p269 := eq_true p269
               replace q269 := eq_true q269
               refine startU 35 (S := fun w' => w'.cell? ⟨gb266, 0, none⟩ = some (.string ((rd_T47 l0 x12_1).f0)) ∧ w'.cell? ⟨gb266, 1, none⟩ = some (.int .i64 ((rd_T47 l0 x12_1).f1.f0)) ∧ w'.cell? ⟨gb266, 2, none⟩ = some (.int .i64 ((rd_T47 l0 x12_1).f1.f1)) ∧ w'.cell? (ad265.add (((ji14)).toNat * 3)) = some (.string ((rd_T47 l0 (ji14)).f0)) ∧ w'.cell? ⟨(ad265.add (((ji14)).toNat * 3)).block, (ad265.add (((ji14)).toNat * 3)).off + 1, none⟩ = some (.int .i64 ((rd_T47 l0 (ji14)).f1.f0)) ∧ w'.cell? ⟨(ad265.add (((ji14)).toNat * 3)).block, (ad265.add (((ji14)).toNat * 3)).off + 2, none⟩ = some (.int .i64 ((rd_T47 l0 (ji14)).f1.f1))) (ds := []) ⟨(blk_cell BK266.out 0).trans rfl, (blk_cell BK266.out 1).trans rfl, (blk_cell BK266.out 2).trans rfl, ((HB.out.cell (World.block_lt_of_cell? w _ hw269_0)).trans hw269_0), ((HB.out.cell (World.block_lt_of_cell? w _ hw269_1)).trans hw269_1), ((HB.out.cell (World.block_lt_of_cell? w _ hw269_2)).trans hw269_2)⟩ (fun hHeld => ?_); refine with_tabW fleuronref08_terms.tab6 fleuronref08_terms.bits6 (fun HT_ HW_ => ?_)
               generalize w25.drew = w26 at BK266 HB hx269_0 hx269_1 hx269_2 hHeld ⊢
               refine pureU 0 (some 17) (upto 35 1) HT_ ?_
               refine takeU 1 (some 18) (upto 35 2) HT_ HW_ hHeld rfl (by rintro w' ⟨s0, s1, s2, s3, s4, s5⟩; go_simp; with_reducible rfl) ?_
               refine oneU 2 (some 19) (upto 35 3) HT_ (fun K hK => ?_)
               refine goes_ Tryz.func52 (by kernel_rfl) rfl #[.string ((rd_T47 l0 x12_1).f0)] (by rfl) rfl rfl (by (try simp only [List.map_toArray, List.map_cons, List.map_nil]); first | done | rfl | (simp only [List.length_drop, List.length_take]; rfl)) ?_
               with_reducible refine (fleuronref08_Name.calls k1 ((rd_T47 l0 x12_1).f0) true _ A7.out).mono ?_
               rintro e w' ⟨rfl, ⟨nd, rfl⟩⟩
               refine ⟨_, rfl, ?_⟩
               refine hK.out _ _ ⟨(blk_cell BK266.out 0).trans rfl, (blk_cell BK266.out 1).trans rfl, (blk_cell BK266.out 2).trans rfl, ((HB.out.cell (World.block_lt_of_cell? w _ hw269_0)).trans hw269_0), ((HB.out.cell (World.block_lt_of_cell? w _ hw269_1)).trans hw269_1), ((HB.out.cell (World.block_lt_of_cell? w _ hw269_2)).trans hw269_2)⟩ (fun hHeld => ?_)
               clear hK K
               refine normU (some 19) ?_
               refine pureU 3 (some 20) (upto 35 4) HT_ ?_
               refine pureU 4 (some 21) (upto 35 5) HT_ ?_
               refine pureU 5 (some 22) (upto 35 6) HT_ ?_
               refine takeU 6 (some 23) (upto 35 7) HT_ HW_ hHeld rfl (by rintro w' ⟨s0, s1, s2, s3, s4, s5⟩; go_simp; with_reducible rfl) ?_
               refine oneU 7 (some 24) (upto 35 8) HT_ (fun K hK => ?_)
               refine goes_ Tryz.func34 (by kernel_rfl) rfl #[.agg #[.int .i64 ((rd_T47 l0 x12_1).f1.f0), .int .i64 ((rd_T47 l0 x12_1).f1.f1)]] (by rfl) rfl rfl (by (try simp only [List.map_toArray, List.map_cons, List.map_nil]); first | done | rfl | (simp only [List.length_drop, List.length_take]; rfl)) ?_
               with_reducible refine (fleuronref01_Valid.calls k1 ((rd_T47 l0 x12_1).f1.f0) ((rd_T47 l0 x12_1).f1.f1) true _ A9.out).mono ?_
               rintro e w27 ⟨rfl, hb⟩
               refine ⟨_, rfl, ?_⟩
               have n0_ := Fa.mk (blk_below (g := gb266) (o := .cells #[.string ((rd_T47 l0 x12_1).f0), .int .i64 ((rd_T47 l0 x12_1).f1.f0), .int .i64 ((rd_T47 l0 x12_1).f1.f1)] 47 (0, 0)) fa hb)
               have n1_ := Fa.mk (bst w hb)
               clear BK266 HB
               have BK266 := n0_
               have HB := n1_
               clear n0_ n1_
               (try clear hb)
               (try clear hb2)
               (try clear hk)
               (try clear hi)
               refine hK.out _ _ ⟨(blk_cell BK266.out 0).trans rfl, (blk_cell BK266.out 1).trans rfl, (blk_cell BK266.out 2).trans rfl, ((HB.out.cell (World.block_lt_of_cell? w _ hw269_0)).trans hw269_0), ((HB.out.cell (World.block_lt_of_cell? w _ hw269_1)).trans hw269_1), ((HB.out.cell (World.block_lt_of_cell? w _ hw269_2)).trans hw269_2)⟩ (fun hHeld => ?_)
               clear hK K
               refine normU (some 24) ?_
               refine pureU 8 (some 25) (upto 35 9) HT_ ?_
               refine pureU 9 (some 26) (upto 35 10) HT_ ?_
               refine pureU 10 (some 27) (upto 35 11) HT_ ?_
               refine pureU 11 (some 28) (upto 35 12) HT_ ?_
               refine pureU 12 (some 29) (upto 35 13) HT_ ?_
               refine takeU 13 (some 30) (upto 35 14) HT_ HW_ hHeld rfl (by rintro w' ⟨s0, s1, s2, s3, s4, s5⟩; go_simp; with_reducible rfl) ?_
               refine pureU 14 (some 31) (upto 35 15) HT_ ?_
               refine pureU 15 (some 32) (upto 35 16) HT_ ?_
               refine pureU 16 (some 33) (upto 35 17) HT_ ?_
               refine pureU 17 (some 34) (upto 35 18) HT_ ?_
               refine pureU 18 (some 35) (upto 35 19) HT_ ?_
               refine pureU 19 (some 36) (upto 35 20) HT_ ?_
               refine pureU 20 (some 37) (upto 35 21) HT_ ?_
               refine pureU 21 (some 38) (upto 35 22) HT_ ?_
               refine pureU 22 (some 39) (upto 35 23) HT_ ?_
               refine pureU 23 (some 40) (upto 35 24) HT_ ?_
               refine pureU 24 (some 41) (upto 35 25) HT_ ?_
               refine pureU 25 (some 42) (upto 35 26) HT_ ?_
               refine pureU 26 (some 43) (upto 35 27) HT_ ?_
               refine pureU 27 (some 44) (upto 35 28) HT_ ?_
               refine pureU 28 (some 45) (upto 35 29) HT_ ?_
               refine pureU 30 (some 47) #[true, true, true, true, true, true, true, true, true, true, true, true, true, true, true, true, true, true, true, true, true, true, true, true, true, true, true, true, true, false, true, false, false, false, false] HT_ ?_
               refine takeU 29 (some 46) (upto 35 31) HT_ HW_ hHeld rfl (by rintro w' ⟨s0, s1, s2, s3, s4, s5⟩; go_simp; with_reducible rfl) ?_
               refine takeU 31 (some 48) (upto 35 32) HT_ HW_ hHeld rfl (by rintro w' ⟨s0, s1, s2, s3, s4, s5⟩; go_simp; with_reducible rfl) ?_
               refine pureU 32 (some 49) (upto 35 33) HT_ ?_
               refine pureU 33 (some 50) (upto 35 34) HT_ ?_
               refine pureU 34 (some 51) (upto 35 35) HT_ ?_
               refine done_ (done_of HT_.out (by kernel_rfl)) ?_
               try go_wp2
               go_ret
               exact ⟨by first | rfl | (simp [errW_none, errW_some] <;> rfl) | (simp only [← hji14]; first | rfl | (simp [errW_none, errW_some] <;> rfl)) | (simp [*, errW_none, errW_some] <;> rfl), fa⟩
             ·
              rw [if_neg c16] at H
              exact absurd H (by simp)
            ·
             rw [if_neg c15] at H
             exact absurd H (by simp)
           ·
            rw [if_neg c13] at H
            have c13b0 : decide (0 < x12_1) = false := decide_eq_false c13
            clear c13
            have H' := Fa.mk H
            clear H
            have p265 : 0 ≤ (x12_1 : Int) := of_decide_eq_true (by first | (with_reducible assumption) | assumption)
            have q265 : x12_1 < (l0.length : Int) := of_decide_eq_true (by first | (with_reducible assumption) | assumption)
            obtain ⟨ad265, e265, hx265_0, hx265_1, hx265_2⟩ := at_T47 HR0.out x12_1 p265 q265
            cases e265
            replace hx265_0 := (HB.out.cell (World.block_lt_of_cell? w _ hx265_0)).trans hx265_0
            replace hx265_1 := (HB.out.cell (World.block_lt_of_cell? w _ hx265_1)).trans hx265_1
            replace hx265_2 := (HB.out.cell (World.block_lt_of_cell? w _ hx265_2)).trans hx265_2
            replace p265 := eq_true p265
            replace q265 := eq_true q265
            try go_wp2_with (first | ((with_reducible refine gate_dst (N := 6) rfl ?_); refine boxF (N := 6) (cs := #[.string (⟨#[]⟩ : ByteArray), .int .i64 0, .int .i64 0]) (t := 47) ?_; intro gb266 hg w28 hbox hb; have n0_ := Fa.mk (bst w hb); have n1_ := Fa.mk (hbox); have n2_ := Fa.mk (gle hg : w.heap.size ≤ gb266); have n3_ := n2_; clear HB; have HB := n0_; have BK266 := n1_; have GW266 := n2_; have GE266 := n3_; clear n0_ n1_ n2_ n3_; clear hb hbox hg; have hcz29_0 := jcell BK266.out (i := 0) rfl; have hcz29_1 := jcell BK266.out (i := 1) rfl; have hcz29_2 := jcell BK266.out (i := 2) rfl; have hfz29_0 := blk_frozen BK266.out 0; have hfz29_1 := blk_frozen BK266.out 1; have hfz29_2 := blk_frozen BK266.out 2))
            have n0_ : Fa ((((w28.setCell ⟨gb266, 0, none⟩ (.string ((rd_T47 l0 x12_1).f0))).setCell ⟨gb266, 1, none⟩ (.int .i64 ((rd_T47 l0 x12_1).f1.f0))).setCell ⟨gb266, 2, none⟩ (.int .i64 ((rd_T47 l0 x12_1).f1.f1))).heap[gb266]? = some (.cells #[.string ((rd_T47 l0 x12_1).f0), .int .i64 ((rd_T47 l0 x12_1).f1.f0), .int .i64 ((rd_T47 l0 x12_1).f1.f1)] 47 (0, 0))) := ⟨by (with_reducible repeat (first | refine blk_drewN ?_ _ | refine blk_drew ?_ | refine blk_alloc ?_ _)); refine blk_put (cs := #[.string ((rd_T47 l0 x12_1).f0), .int .i64 ((rd_T47 l0 x12_1).f1.f0), .int .i64 0]) ?_ 2 _ rfl; (with_reducible repeat (first | refine blk_drewN ?_ _ | refine blk_drew ?_ | refine blk_alloc ?_ _)); refine blk_put (cs := #[.string ((rd_T47 l0 x12_1).f0), .int .i64 0, .int .i64 0]) ?_ 1 _ rfl; (with_reducible repeat (first | refine blk_drewN ?_ _ | refine blk_drew ?_ | refine blk_alloc ?_ _)); refine blk_put (cs := #[.string (⟨#[]⟩ : ByteArray), .int .i64 0, .int .i64 0]) ?_ 0 _ rfl; (with_reducible repeat (first | refine blk_drewN ?_ _ | refine blk_drew ?_ | refine blk_alloc ?_ _)); exact fa⟩
            have n1_ : Fa (Below w.heap.size w (((w28.setCell ⟨gb266, 0, none⟩ (.string ((rd_T47 l0 x12_1).f0))).setCell ⟨gb266, 1, none⟩ (.int .i64 ((rd_T47 l0 x12_1).f1.f0))).setCell ⟨gb266, 2, none⟩ (.int .i64 ((rd_T47 l0 x12_1).f1.f1)))) := ⟨fa⟩
            (try clear BK266)
            (try clear HB)
            generalize (((w28.setCell ⟨gb266, 0, none⟩ (.string ((rd_T47 l0 x12_1).f0))).setCell ⟨gb266, 1, none⟩ (.int .i64 ((rd_T47 l0 x12_1).f1.f0))).setCell ⟨gb266, 2, none⟩ (.int .i64 ((rd_T47 l0 x12_1).f1.f1))) = w30 at n0_ n1_ ⊢
            have BK266 := n0_
            have HB := n1_
            clear n0_ n1_
            have n0_ := Fa.mk (blk_drew BK266.out)
            have n1_ := Fa.mk (below_drew1 HB.out)
            clear BK266 HB
            have BK266 := n0_
            have HB := n1_
            clear n0_ n1_
            refine startU 35 (S := fun w' => w'.cell? ⟨gb266, 0, none⟩ = some (.string ((rd_T47 l0 x12_1).f0)) ∧ w'.cell? ⟨gb266, 1, none⟩ = some (.int .i64 ((rd_T47 l0 x12_1).f1.f0)) ∧ w'.cell? ⟨gb266, 2, none⟩ = some (.int .i64 ((rd_T47 l0 x12_1).f1.f1))) (ds := []) ⟨(blk_cell BK266.out 0).trans rfl, (blk_cell BK266.out 1).trans rfl, (blk_cell BK266.out 2).trans rfl⟩ (fun hHeld => ?_); refine with_tabW fleuronref08_terms.tab6 fleuronref08_terms.bits6 (fun HT_ HW_ => ?_)
            generalize w30.drew = w31 at BK266 HB hHeld ⊢
            refine pureU 0 (some 17) (upto 35 1) HT_ ?_
            refine takeU 1 (some 18) (upto 35 2) HT_ HW_ hHeld rfl (by rintro w' ⟨s0, s1, s2⟩; go_simp; with_reducible rfl) ?_
            refine oneU 2 (some 19) (upto 35 3) HT_ (fun K hK => ?_)
            refine goes_ Tryz.func52 (by kernel_rfl) rfl #[.string ((rd_T47 l0 x12_1).f0)] (by rfl) rfl rfl (by (try simp only [List.map_toArray, List.map_cons, List.map_nil]); first | done | rfl | (simp only [List.length_drop, List.length_take]; rfl)) ?_
            with_reducible refine (fleuronref08_Name.calls k1 ((rd_T47 l0 x12_1).f0) true _ A7.out).mono ?_
            rintro e w' ⟨rfl, ⟨nd, rfl⟩⟩
            refine ⟨_, rfl, ?_⟩
            refine hK.out _ _ ⟨(blk_cell BK266.out 0).trans rfl, (blk_cell BK266.out 1).trans rfl, (blk_cell BK266.out 2).trans rfl⟩ (fun hHeld => ?_)
            clear hK K
            refine normU (some 19) ?_
            refine pureU 3 (some 20) (upto 35 4) HT_ ?_
            refine pureU 4 (some 21) (upto 35 5) HT_ ?_
            refine pureU 5 (some 22) (upto 35 6) HT_ ?_
            refine takeU 6 (some 23) (upto 35 7) HT_ HW_ hHeld rfl (by rintro w' ⟨s0, s1, s2⟩; go_simp; with_reducible rfl) ?_
            refine oneU 7 (some 24) (upto 35 8) HT_ (fun K hK => ?_)
            refine goes_ Tryz.func34 (by kernel_rfl) rfl #[.agg #[.int .i64 ((rd_T47 l0 x12_1).f1.f0), .int .i64 ((rd_T47 l0 x12_1).f1.f1)]] (by rfl) rfl rfl (by (try simp only [List.map_toArray, List.map_cons, List.map_nil]); first | done | rfl | (simp only [List.length_drop, List.length_take]; rfl)) ?_
            with_reducible refine (fleuronref01_Valid.calls k1 ((rd_T47 l0 x12_1).f1.f0) ((rd_T47 l0 x12_1).f1.f1) true _ A9.out).mono ?_
            rintro e w32 ⟨rfl, hb⟩
            refine ⟨_, rfl, ?_⟩
            have n0_ := Fa.mk (blk_below (g := gb266) (o := .cells #[.string ((rd_T47 l0 x12_1).f0), .int .i64 ((rd_T47 l0 x12_1).f1.f0), .int .i64 ((rd_T47 l0 x12_1).f1.f1)] 47 (0, 0)) fa hb)
            have n1_ := Fa.mk (bst w hb)
            clear BK266 HB
            have BK266 := n0_
            have HB := n1_
            clear n0_ n1_
            (try clear hb)
            (try clear hb2)
            (try clear hk)
            (try clear hi)
            refine hK.out _ _ ⟨(blk_cell BK266.out 0).trans rfl, (blk_cell BK266.out 1).trans rfl, (blk_cell BK266.out 2).trans rfl⟩ (fun hHeld => ?_)
            clear hK K
            refine normU (some 24) ?_
            refine pureU 8 (some 25) (upto 35 9) HT_ ?_
            refine pureU 9 (some 26) (upto 35 10) HT_ ?_
            refine pureU 10 (some 27) (upto 35 11) HT_ ?_
            refine pureU 11 (some 28) (upto 35 12) HT_ ?_
            refine pureU 12 (some 29) (upto 35 13) HT_ ?_
            refine takeU 13 (some 30) (upto 35 14) HT_ HW_ hHeld rfl (by rintro w' ⟨s0, s1, s2⟩; go_simp; with_reducible rfl) ?_
            refine pureU 14 (some 31) (upto 35 15) HT_ ?_
            refine pureU 15 (some 32) (upto 35 16) HT_ ?_
            refine pureU 16 (some 33) (upto 35 17) HT_ ?_
            refine pureU 17 (some 34) (upto 35 18) HT_ ?_
            refine pureU 18 (some 35) (upto 35 19) HT_ ?_
            refine pureU 19 (some 36) (upto 35 20) HT_ ?_
            refine pureU 20 (some 37) (upto 35 21) HT_ ?_
            refine pureU 21 (some 38) (upto 35 22) HT_ ?_
            refine pureU 22 (some 39) (upto 35 23) HT_ ?_
            refine pureU 23 (some 40) (upto 35 24) HT_ ?_
            refine offU 24 (some 41) (upto 35 25) HT_ ?_
            refine offU 25 (some 42) (upto 35 26) HT_ ?_
            refine offU 26 (some 43) (upto 35 27) HT_ ?_
            refine offU 27 (some 44) (upto 35 28) HT_ ?_
            refine offU 28 (some 45) (upto 35 29) HT_ ?_
            refine offU 29 (some 46) (upto 35 30) HT_ ?_
            refine offU 30 (some 47) (upto 35 31) HT_ ?_
            refine offU 31 (some 48) (upto 35 32) HT_ ?_
            refine offU 32 (some 49) (upto 35 33) HT_ ?_
            refine pureU 33 (some 50) (upto 35 34) HT_ ?_
            refine pureU 34 (some 51) (upto 35 35) HT_ ?_
            refine done_ (done_of HT_.out (by kernel_rfl)) ?_
            try go_wp2
            go_roundg k1
            case measure => have := HK1.out; omega
            case rel => exact ⟨(wrap64 (x12_1 + 1)), (by first | rfl | (simp; done) | (simp [*]; done)), H', ⟨by have := HK1.out; omega⟩, ⟨fa⟩⟩
          ·
           replace c12 := Bool.eq_false_iff.mpr c12
           subst c12
           rw [if_neg (show ¬ (false = true) by decide)] at H
           obtain rfl := Option.some.inj H
           have p265 : 0 ≤ (x12_1 : Int) := of_decide_eq_true (by first | (with_reducible assumption) | assumption)
           have q265 : x12_1 < (l0.length : Int) := of_decide_eq_true (by first | (with_reducible assumption) | assumption)
           obtain ⟨ad265, e265, hx265_0, hx265_1, hx265_2⟩ := at_T47 HR0.out x12_1 p265 q265
           cases e265
           replace hx265_0 := (HB.out.cell (World.block_lt_of_cell? w _ hx265_0)).trans hx265_0
           replace hx265_1 := (HB.out.cell (World.block_lt_of_cell? w _ hx265_1)).trans hx265_1
           replace hx265_2 := (HB.out.cell (World.block_lt_of_cell? w _ hx265_2)).trans hx265_2
           replace p265 := eq_true p265
           replace q265 := eq_true q265
           try go_wp2_with (first | ((with_reducible refine gate_dst (N := 6) rfl ?_); refine boxF (N := 6) (cs := #[.string (⟨#[]⟩ : ByteArray), .int .i64 0, .int .i64 0]) (t := 47) ?_; intro gb266 hg w33 hbox hb; have n0_ := Fa.mk (bst w hb); have n1_ := Fa.mk (hbox); have n2_ := Fa.mk (gle hg : w.heap.size ≤ gb266); have n3_ := n2_; clear HB; have HB := n0_; have BK266 := n1_; have GW266 := n2_; have GE266 := n3_; clear n0_ n1_ n2_ n3_; clear hb hbox hg; have hcz34_0 := jcell BK266.out (i := 0) rfl; have hcz34_1 := jcell BK266.out (i := 1) rfl; have hcz34_2 := jcell BK266.out (i := 2) rfl; have hfz34_0 := blk_frozen BK266.out 0; have hfz34_1 := blk_frozen BK266.out 1; have hfz34_2 := blk_frozen BK266.out 2))
           have n0_ : Fa ((((w33.setCell ⟨gb266, 0, none⟩ (.string ((rd_T47 l0 x12_1).f0))).setCell ⟨gb266, 1, none⟩ (.int .i64 ((rd_T47 l0 x12_1).f1.f0))).setCell ⟨gb266, 2, none⟩ (.int .i64 ((rd_T47 l0 x12_1).f1.f1))).heap[gb266]? = some (.cells #[.string ((rd_T47 l0 x12_1).f0), .int .i64 ((rd_T47 l0 x12_1).f1.f0), .int .i64 ((rd_T47 l0 x12_1).f1.f1)] 47 (0, 0))) := ⟨by (with_reducible repeat (first | refine blk_drewN ?_ _ | refine blk_drew ?_ | refine blk_alloc ?_ _)); refine blk_put (cs := #[.string ((rd_T47 l0 x12_1).f0), .int .i64 ((rd_T47 l0 x12_1).f1.f0), .int .i64 0]) ?_ 2 _ rfl; (with_reducible repeat (first | refine blk_drewN ?_ _ | refine blk_drew ?_ | refine blk_alloc ?_ _)); refine blk_put (cs := #[.string ((rd_T47 l0 x12_1).f0), .int .i64 0, .int .i64 0]) ?_ 1 _ rfl; (with_reducible repeat (first | refine blk_drewN ?_ _ | refine blk_drew ?_ | refine blk_alloc ?_ _)); refine blk_put (cs := #[.string (⟨#[]⟩ : ByteArray), .int .i64 0, .int .i64 0]) ?_ 0 _ rfl; (with_reducible repeat (first | refine blk_drewN ?_ _ | refine blk_drew ?_ | refine blk_alloc ?_ _)); exact fa⟩
           have n1_ : Fa (Below w.heap.size w (((w33.setCell ⟨gb266, 0, none⟩ (.string ((rd_T47 l0 x12_1).f0))).setCell ⟨gb266, 1, none⟩ (.int .i64 ((rd_T47 l0 x12_1).f1.f0))).setCell ⟨gb266, 2, none⟩ (.int .i64 ((rd_T47 l0 x12_1).f1.f1)))) := ⟨fa⟩
           (try clear BK266)
           (try clear HB)
           generalize (((w33.setCell ⟨gb266, 0, none⟩ (.string ((rd_T47 l0 x12_1).f0))).setCell ⟨gb266, 1, none⟩ (.int .i64 ((rd_T47 l0 x12_1).f1.f0))).setCell ⟨gb266, 2, none⟩ (.int .i64 ((rd_T47 l0 x12_1).f1.f1))) = w35 at n0_ n1_ ⊢
           have BK266 := n0_
           have HB := n1_
           clear n0_ n1_
           have n0_ := Fa.mk (blk_drew BK266.out)
           have n1_ := Fa.mk (below_drew1 HB.out)
           clear BK266 HB
           have BK266 := n0_
           have HB := n1_
           clear n0_ n1_
           refine startU 35 (S := fun w' => w'.cell? ⟨gb266, 0, none⟩ = some (.string ((rd_T47 l0 x12_1).f0)) ∧ w'.cell? ⟨gb266, 1, none⟩ = some (.int .i64 ((rd_T47 l0 x12_1).f1.f0)) ∧ w'.cell? ⟨gb266, 2, none⟩ = some (.int .i64 ((rd_T47 l0 x12_1).f1.f1))) (ds := []) ⟨(blk_cell BK266.out 0).trans rfl, (blk_cell BK266.out 1).trans rfl, (blk_cell BK266.out 2).trans rfl⟩ (fun hHeld => ?_); refine with_tabW fleuronref08_terms.tab6 fleuronref08_terms.bits6 (fun HT_ HW_ => ?_)
           generalize w35.drew = w36 at BK266 HB hHeld ⊢
           refine pureU 0 (some 17) (upto 35 1) HT_ ?_
           refine takeU 1 (some 18) (upto 35 2) HT_ HW_ hHeld rfl (by rintro w' ⟨s0, s1, s2⟩; go_simp; with_reducible rfl) ?_
           refine oneU 2 (some 19) (upto 35 3) HT_ (fun K hK => ?_)
           refine goes_ Tryz.func52 (by kernel_rfl) rfl #[.string ((rd_T47 l0 x12_1).f0)] (by rfl) rfl rfl (by (try simp only [List.map_toArray, List.map_cons, List.map_nil]); first | done | rfl | (simp only [List.length_drop, List.length_take]; rfl)) ?_
           with_reducible refine (fleuronref08_Name.calls k1 ((rd_T47 l0 x12_1).f0) true _ A7.out).mono ?_
           rintro e w' ⟨rfl, ⟨nd, rfl⟩⟩
           refine ⟨_, rfl, ?_⟩
           refine hK.out _ _ ⟨(blk_cell BK266.out 0).trans rfl, (blk_cell BK266.out 1).trans rfl, (blk_cell BK266.out 2).trans rfl⟩ (fun hHeld => ?_)
           clear hK K
           refine normU (some 19) ?_
           refine pureU 3 (some 20) (upto 35 4) HT_ ?_
           refine pureU 4 (some 21) (upto 35 5) HT_ ?_
           refine pureU 5 (some 22) (upto 35 6) HT_ ?_
           refine takeU 6 (some 23) (upto 35 7) HT_ HW_ hHeld rfl (by rintro w' ⟨s0, s1, s2⟩; go_simp; with_reducible rfl) ?_
           refine oneU 7 (some 24) (upto 35 8) HT_ (fun K hK => ?_)
           refine goes_ Tryz.func34 (by kernel_rfl) rfl #[.agg #[.int .i64 ((rd_T47 l0 x12_1).f1.f0), .int .i64 ((rd_T47 l0 x12_1).f1.f1)]] (by rfl) rfl rfl (by (try simp only [List.map_toArray, List.map_cons, List.map_nil]); first | done | rfl | (simp only [List.length_drop, List.length_take]; rfl)) ?_
           with_reducible refine (fleuronref01_Valid.calls k1 ((rd_T47 l0 x12_1).f1.f0) ((rd_T47 l0 x12_1).f1.f1) true _ A9.out).mono ?_
           rintro e w37 ⟨rfl, hb⟩
           refine ⟨_, rfl, ?_⟩
           have n0_ := Fa.mk (blk_below (g := gb266) (o := .cells #[.string ((rd_T47 l0 x12_1).f0), .int .i64 ((rd_T47 l0 x12_1).f1.f0), .int .i64 ((rd_T47 l0 x12_1).f1.f1)] 47 (0, 0)) fa hb)
           have n1_ := Fa.mk (bst w hb)
           clear BK266 HB
           have BK266 := n0_
           have HB := n1_
           clear n0_ n1_
           (try clear hb)
           (try clear hb2)
           (try clear hk)
           (try clear hi)
           refine hK.out _ _ ⟨(blk_cell BK266.out 0).trans rfl, (blk_cell BK266.out 1).trans rfl, (blk_cell BK266.out 2).trans rfl⟩ (fun hHeld => ?_)
           clear hK K
           refine normU (some 24) ?_
           refine pureU 8 (some 25) (upto 35 9) HT_ ?_
           refine pureU 9 (some 26) (upto 35 10) HT_ ?_
           refine pureU 10 (some 27) (upto 35 11) HT_ ?_
           refine pureU 11 (some 28) (upto 35 12) HT_ ?_
           refine pureU 12 (some 29) (upto 35 13) HT_ ?_
           refine takeU 13 (some 30) (upto 35 14) HT_ HW_ hHeld rfl (by rintro w' ⟨s0, s1, s2⟩; go_simp; with_reducible rfl) ?_
           refine pureU 14 (some 31) (upto 35 15) HT_ ?_
           refine pureU 15 (some 32) (upto 35 16) HT_ ?_
           refine pureU 16 (some 33) (upto 35 17) HT_ ?_
           refine pureU 17 (some 34) (upto 35 18) HT_ ?_
           refine pureU 18 (some 35) (upto 35 19) HT_ ?_
           refine pureU 19 (some 36) (upto 35 20) HT_ ?_
           refine pureU 20 (some 37) (upto 35 21) HT_ ?_
           refine offU 21 (some 38) (upto 35 22) HT_ ?_
           refine offU 22 (some 39) (upto 35 23) HT_ ?_
           refine offU 23 (some 40) (upto 35 24) HT_ ?_
           refine offU 24 (some 41) (upto 35 25) HT_ ?_
           refine offU 25 (some 42) (upto 35 26) HT_ ?_
           refine offU 26 (some 43) (upto 35 27) HT_ ?_
           refine offU 27 (some 44) (upto 35 28) HT_ ?_
           refine offU 28 (some 45) (upto 35 29) HT_ ?_
           refine offU 29 (some 46) (upto 35 30) HT_ ?_
           refine offU 30 (some 47) (upto 35 31) HT_ ?_
           refine offU 31 (some 48) (upto 35 32) HT_ ?_
           refine offU 32 (some 49) (upto 35 33) HT_ ?_
           refine offU 33 (some 50) (upto 35 34) HT_ ?_
           refine pureU 34 (some 51) (upto 35 35) HT_ ?_
           refine done_ (done_of HT_.out (by kernel_rfl)) ?_
           try go_wp2
           go_ret
           exact ⟨rfl, fa⟩
         ·
          rw [if_neg c11] at H
          have c11b0 : (((rd_T47 l0 x12_1).f1.f0) == 0) = false := beq_eq_false_iff_ne.mpr c11
          have c11b1 : (((rd_T47 l0 x12_1).f1.f0) != 0) = true := bne_iff_ne.mpr c11
          by_cases c38 : x12_1 > 0
          ·
           rw [if_pos c38] at H
           have c38b0 : decide (0 < x12_1) = true := decide_eq_true c38
           clear c38
           obtain ⟨ji39, hji39⟩ : ∃ j_ : Int, (wrap64 (x12_1 - 1)) = j_ := ⟨_, rfl⟩
           replace H : (if 0 ≤ (ji39) then (if (ji39) < (l0.length : Int) then (if ((Op.bytesLess (((rd_T47 l0 (ji39)).f0).toList) (((rd_T47 l0 x12_1).f0).toList)) = true) then (fleuronref08_terms.l0 k1 l0 a1 l0 (l0.length : Int) (wrap64 (x12_1 + 1))) else (some false)) else (none)) else (none)) = some r := by first | (rw [hji39] at H; exact H) | (simp only [hji39] at H ⊢; exact H)
           (try rw [hji39] at A7)
           (try rw [hji39] at A9)
           have hji39w : (IntKind.i64.wrap (x12_1 - 1)) = ji39 := (i64_w _).trans hji39
           by_cases c40 : 0 ≤ (ji39)
           ·
            rw [if_pos c40] at H
            have c40b0 : decide (0 ≤ (ji39)) = true := decide_eq_true c40
            clear c40
            by_cases c41 : (ji39) < (l0.length : Int)
            ·
             rw [if_pos c41] at H
             have c41b0 : decide ((ji39) < (l0.length : Int)) = true := decide_eq_true c41
             clear c41
             by_cases c42 : ((Op.bytesLess (((rd_T47 l0 (ji39)).f0).toList) (((rd_T47 l0 x12_1).f0).toList)) = true)
             ·
              rw [if_pos c42] at H
              have c42b0 : (Op.bytesLess (((rd_T47 l0 (ji39)).f0).toList) (((rd_T47 l0 x12_1).f0).toList)) = true := c42
              clear c42
              have H' := Fa.mk H
              clear H
              have p265 : 0 ≤ (x12_1 : Int) := of_decide_eq_true (by first | (with_reducible assumption) | assumption)
              have q265 : x12_1 < (l0.length : Int) := of_decide_eq_true (by first | (with_reducible assumption) | assumption)
              obtain ⟨ad265, e265, hx265_0, hx265_1, hx265_2⟩ := at_T47 HR0.out x12_1 p265 q265
              cases e265
              replace hx265_0 := (HB.out.cell (World.block_lt_of_cell? w _ hx265_0)).trans hx265_0
              replace hx265_1 := (HB.out.cell (World.block_lt_of_cell? w _ hx265_1)).trans hx265_1
              replace hx265_2 := (HB.out.cell (World.block_lt_of_cell? w _ hx265_2)).trans hx265_2
              replace p265 := eq_true p265
              replace q265 := eq_true q265
              try go_wp2_with (first | ((with_reducible refine gate_dst (N := 6) rfl ?_); refine boxF (N := 6) (cs := #[.string (⟨#[]⟩ : ByteArray), .int .i64 0, .int .i64 0]) (t := 47) ?_; intro gb266 hg w43 hbox hb; have n0_ := Fa.mk (bst w hb); have n1_ := Fa.mk (hbox); have n2_ := Fa.mk (gle hg : w.heap.size ≤ gb266); have n3_ := n2_; clear HB; have HB := n0_; have BK266 := n1_; have GW266 := n2_; have GE266 := n3_; clear n0_ n1_ n2_ n3_; clear hb hbox hg; have hcz44_0 := jcell BK266.out (i := 0) rfl; have hcz44_1 := jcell BK266.out (i := 1) rfl; have hcz44_2 := jcell BK266.out (i := 2) rfl; have hfz44_0 := blk_frozen BK266.out 0; have hfz44_1 := blk_frozen BK266.out 1; have hfz44_2 := blk_frozen BK266.out 2))
              have n0_ : Fa ((((w43.setCell ⟨gb266, 0, none⟩ (.string ((rd_T47 l0 x12_1).f0))).setCell ⟨gb266, 1, none⟩ (.int .i64 ((rd_T47 l0 x12_1).f1.f0))).setCell ⟨gb266, 2, none⟩ (.int .i64 ((rd_T47 l0 x12_1).f1.f1))).heap[gb266]? = some (.cells #[.string ((rd_T47 l0 x12_1).f0), .int .i64 ((rd_T47 l0 x12_1).f1.f0), .int .i64 ((rd_T47 l0 x12_1).f1.f1)] 47 (0, 0))) := ⟨by (with_reducible repeat (first | refine blk_drewN ?_ _ | refine blk_drew ?_ | refine blk_alloc ?_ _)); refine blk_put (cs := #[.string ((rd_T47 l0 x12_1).f0), .int .i64 ((rd_T47 l0 x12_1).f1.f0), .int .i64 0]) ?_ 2 _ rfl; (with_reducible repeat (first | refine blk_drewN ?_ _ | refine blk_drew ?_ | refine blk_alloc ?_ _)); refine blk_put (cs := #[.string ((rd_T47 l0 x12_1).f0), .int .i64 0, .int .i64 0]) ?_ 1 _ rfl; (with_reducible repeat (first | refine blk_drewN ?_ _ | refine blk_drew ?_ | refine blk_alloc ?_ _)); refine blk_put (cs := #[.string (⟨#[]⟩ : ByteArray), .int .i64 0, .int .i64 0]) ?_ 0 _ rfl; (with_reducible repeat (first | refine blk_drewN ?_ _ | refine blk_drew ?_ | refine blk_alloc ?_ _)); exact fa⟩
              have n1_ : Fa (Below w.heap.size w (((w43.setCell ⟨gb266, 0, none⟩ (.string ((rd_T47 l0 x12_1).f0))).setCell ⟨gb266, 1, none⟩ (.int .i64 ((rd_T47 l0 x12_1).f1.f0))).setCell ⟨gb266, 2, none⟩ (.int .i64 ((rd_T47 l0 x12_1).f1.f1)))) := ⟨fa⟩
              (try clear BK266)
              (try clear HB)
              generalize (((w43.setCell ⟨gb266, 0, none⟩ (.string ((rd_T47 l0 x12_1).f0))).setCell ⟨gb266, 1, none⟩ (.int .i64 ((rd_T47 l0 x12_1).f1.f0))).setCell ⟨gb266, 2, none⟩ (.int .i64 ((rd_T47 l0 x12_1).f1.f1))) = w45 at n0_ n1_ ⊢
              have BK266 := n0_
              have HB := n1_
              clear n0_ n1_
              have n0_ := Fa.mk (blk_drew BK266.out)
              have n1_ := Fa.mk (below_drew1 HB.out)
              clear BK266 HB
              have BK266 := n0_
              have HB := n1_
              clear n0_ n1_
              have p270 : 0 ≤ ((ji39) : Int) := of_decide_eq_true (by first | (with_reducible assumption) | assumption)
              have q270 : (ji39) < (l0.length : Int) := of_decide_eq_true (by first | (with_reducible assumption) | assumption)
              obtain ⟨ad270, e270, hx270_0, hx270_1, hx270_2⟩ := at_T47 HR0.out (ji39) p270 q270
              have hw270_2 := hx270_2
              have hw270_1 := hx270_1
              have hw270_0 := hx270_0
              obtain rfl : ad265 = ad270 := (by injection e270)
              replace hx270_0 := (HB.out.cell (World.block_lt_of_cell? w _ hx270_0)).trans hx270_0
              replace hx270_1 := (HB.out.cell (World.block_lt_of_cell? w _ hx270_1)).trans hx270_1
              replace hx270_2 := (HB.out.cell (World.block_lt_of_cell? w _ hx270_2)).trans hx270_2
              replace p270 := eq_true p270
              replace q270 := eq_true q270
              refine startU 35 (S := fun w' => w'.cell? ⟨gb266, 0, none⟩ = some (.string ((rd_T47 l0 x12_1).f0)) ∧ w'.cell? ⟨gb266, 1, none⟩ = some (.int .i64 ((rd_T47 l0 x12_1).f1.f0)) ∧ w'.cell? ⟨gb266, 2, none⟩ = some (.int .i64 ((rd_T47 l0 x12_1).f1.f1)) ∧ w'.cell? (ad265.add (((ji39)).toNat * 3)) = some (.string ((rd_T47 l0 (ji39)).f0)) ∧ w'.cell? ⟨(ad265.add (((ji39)).toNat * 3)).block, (ad265.add (((ji39)).toNat * 3)).off + 1, none⟩ = some (.int .i64 ((rd_T47 l0 (ji39)).f1.f0)) ∧ w'.cell? ⟨(ad265.add (((ji39)).toNat * 3)).block, (ad265.add (((ji39)).toNat * 3)).off + 2, none⟩ = some (.int .i64 ((rd_T47 l0 (ji39)).f1.f1))) (ds := []) ⟨(blk_cell BK266.out 0).trans rfl, (blk_cell BK266.out 1).trans rfl, (blk_cell BK266.out 2).trans rfl, ((HB.out.cell (World.block_lt_of_cell? w _ hw270_0)).trans hw270_0), ((HB.out.cell (World.block_lt_of_cell? w _ hw270_1)).trans hw270_1), ((HB.out.cell (World.block_lt_of_cell? w _ hw270_2)).trans hw270_2)⟩ (fun hHeld => ?_); refine with_tabW fleuronref08_terms.tab6 fleuronref08_terms.bits6 (fun HT_ HW_ => ?_)
              generalize w45.drew = w46 at BK266 HB hx270_0 hx270_1 hx270_2 hHeld ⊢
              refine pureU 0 (some 17) (upto 35 1) HT_ ?_
              refine takeU 1 (some 18) (upto 35 2) HT_ HW_ hHeld rfl (by rintro w' ⟨s0, s1, s2, s3, s4, s5⟩; go_simp; with_reducible rfl) ?_
              refine oneU 2 (some 19) (upto 35 3) HT_ (fun K hK => ?_)
              refine goes_ Tryz.func52 (by kernel_rfl) rfl #[.string ((rd_T47 l0 x12_1).f0)] (by rfl) rfl rfl (by (try simp only [List.map_toArray, List.map_cons, List.map_nil]); first | done | rfl | (simp only [List.length_drop, List.length_take]; rfl)) ?_
              with_reducible refine (fleuronref08_Name.calls k1 ((rd_T47 l0 x12_1).f0) true _ A7.out).mono ?_
              rintro e w' ⟨rfl, ⟨nd, rfl⟩⟩
              refine ⟨_, rfl, ?_⟩
              refine hK.out _ _ ⟨(blk_cell BK266.out 0).trans rfl, (blk_cell BK266.out 1).trans rfl, (blk_cell BK266.out 2).trans rfl, ((HB.out.cell (World.block_lt_of_cell? w _ hw270_0)).trans hw270_0), ((HB.out.cell (World.block_lt_of_cell? w _ hw270_1)).trans hw270_1), ((HB.out.cell (World.block_lt_of_cell? w _ hw270_2)).trans hw270_2)⟩ (fun hHeld => ?_)
              clear hK K
              refine normU (some 19) ?_
              refine pureU 3 (some 20) (upto 35 4) HT_ ?_
              refine pureU 4 (some 21) (upto 35 5) HT_ ?_
              refine pureU 5 (some 22) (upto 35 6) HT_ ?_
              refine takeU 6 (some 23) (upto 35 7) HT_ HW_ hHeld rfl (by rintro w' ⟨s0, s1, s2, s3, s4, s5⟩; go_simp; with_reducible rfl) ?_
              refine oneU 7 (some 24) (upto 35 8) HT_ (fun K hK => ?_)
              refine goes_ Tryz.func34 (by kernel_rfl) rfl #[.agg #[.int .i64 ((rd_T47 l0 x12_1).f1.f0), .int .i64 ((rd_T47 l0 x12_1).f1.f1)]] (by rfl) rfl rfl (by (try simp only [List.map_toArray, List.map_cons, List.map_nil]); first | done | rfl | (simp only [List.length_drop, List.length_take]; rfl)) ?_
              with_reducible refine (fleuronref01_Valid.calls k1 ((rd_T47 l0 x12_1).f1.f0) ((rd_T47 l0 x12_1).f1.f1) true _ A9.out).mono ?_
              rintro e w47 ⟨rfl, hb⟩
              refine ⟨_, rfl, ?_⟩
              have n0_ := Fa.mk (blk_below (g := gb266) (o := .cells #[.string ((rd_T47 l0 x12_1).f0), .int .i64 ((rd_T47 l0 x12_1).f1.f0), .int .i64 ((rd_T47 l0 x12_1).f1.f1)] 47 (0, 0)) fa hb)
              have n1_ := Fa.mk (bst w hb)
              clear BK266 HB
              have BK266 := n0_
              have HB := n1_
              clear n0_ n1_
              (try clear hb)
              (try clear hb2)
              (try clear hk)
              (try clear hi)
              refine hK.out _ _ ⟨(blk_cell BK266.out 0).trans rfl, (blk_cell BK266.out 1).trans rfl, (blk_cell BK266.out 2).trans rfl, ((HB.out.cell (World.block_lt_of_cell? w _ hw270_0)).trans hw270_0), ((HB.out.cell (World.block_lt_of_cell? w _ hw270_1)).trans hw270_1), ((HB.out.cell (World.block_lt_of_cell? w _ hw270_2)).trans hw270_2)⟩ (fun hHeld => ?_)
              clear hK K
              refine normU (some 24) ?_
              refine pureU 8 (some 25) (upto 35 9) HT_ ?_
              refine pureU 9 (some 26) (upto 35 10) HT_ ?_
              refine pureU 10 (some 27) (upto 35 11) HT_ ?_
              refine pureU 11 (some 28) (upto 35 12) HT_ ?_
              refine pureU 12 (some 29) (upto 35 13) HT_ ?_
              refine takeU 13 (some 30) (upto 35 14) HT_ HW_ hHeld rfl (by rintro w' ⟨s0, s1, s2, s3, s4, s5⟩; go_simp; with_reducible rfl) ?_
              refine pureU 14 (some 31) (upto 35 15) HT_ ?_
              refine pureU 15 (some 32) (upto 35 16) HT_ ?_
              refine offU 16 (some 33) (upto 35 17) HT_ ?_
              refine offU 17 (some 34) (upto 35 18) HT_ ?_
              refine pureU 18 (some 35) (upto 35 19) HT_ ?_
              refine pureU 19 (some 36) (upto 35 20) HT_ ?_
              refine pureU 20 (some 37) (upto 35 21) HT_ ?_
              refine pureU 21 (some 38) (upto 35 22) HT_ ?_
              refine pureU 22 (some 39) (upto 35 23) HT_ ?_
              refine pureU 23 (some 40) (upto 35 24) HT_ ?_
              refine pureU 24 (some 41) (upto 35 25) HT_ ?_
              refine pureU 25 (some 42) (upto 35 26) HT_ ?_
              refine pureU 26 (some 43) (upto 35 27) HT_ ?_
              refine pureU 27 (some 44) (upto 35 28) HT_ ?_
              refine pureU 28 (some 45) (upto 35 29) HT_ ?_
              refine pureU 30 (some 47) #[true, true, true, true, true, true, true, true, true, true, true, true, true, true, true, true, true, true, true, true, true, true, true, true, true, true, true, true, true, false, true, false, false, false, false] HT_ ?_
              refine takeU 29 (some 46) (upto 35 31) HT_ HW_ hHeld rfl (by rintro w' ⟨s0, s1, s2, s3, s4, s5⟩; go_simp; with_reducible rfl) ?_
              refine takeU 31 (some 48) (upto 35 32) HT_ HW_ hHeld rfl (by rintro w' ⟨s0, s1, s2, s3, s4, s5⟩; go_simp; with_reducible rfl) ?_
              refine pureU 32 (some 49) (upto 35 33) HT_ ?_
              refine pureU 33 (some 50) (upto 35 34) HT_ ?_
              refine pureU 34 (some 51) (upto 35 35) HT_ ?_
              refine done_ (done_of HT_.out (by kernel_rfl)) ?_
              try go_wp2
              go_roundg k1
              case measure => have := HK1.out; omega
              case rel => exact ⟨(wrap64 (x12_1 + 1)), (by first | rfl | (simp; done) | (simp [*]; done)), H', ⟨by have := HK1.out; omega⟩, ⟨fa⟩⟩
             ·
              rw [if_neg c42] at H
              have c42b0 : (Op.bytesLess (((rd_T47 l0 (ji39)).f0).toList) (((rd_T47 l0 x12_1).f0).toList)) = false := by simpa using c42
              clear c42
              obtain rfl := Option.some.inj H
              have p265 : 0 ≤ (x12_1 : Int) := of_decide_eq_true (by first | (with_reducible assumption) | assumption)
              have q265 : x12_1 < (l0.length : Int) := of_decide_eq_true (by first | (with_reducible assumption) | assumption)
              obtain ⟨ad265, e265, hx265_0, hx265_1, hx265_2⟩ := at_T47 HR0.out x12_1 p265 q265
              cases e265
              replace hx265_0 := (HB.out.cell (World.block_lt_of_cell? w _ hx265_0)).trans hx265_0
              replace hx265_1 := (HB.out.cell (World.block_lt_of_cell? w _ hx265_1)).trans hx265_1
              replace hx265_2 := (HB.out.cell (World.block_lt_of_cell? w _ hx265_2)).trans hx265_2
              replace p265 := eq_true p265
              replace q265 := eq_true q265
              try go_wp2_with (first | ((with_reducible refine gate_dst (N := 6) rfl ?_); refine boxF (N := 6) (cs := #[.string (⟨#[]⟩ : ByteArray), .int .i64 0, .int .i64 0]) (t := 47) ?_; intro gb266 hg w48 hbox hb; have n0_ := Fa.mk (bst w hb); have n1_ := Fa.mk (hbox); have n2_ := Fa.mk (gle hg : w.heap.size ≤ gb266); have n3_ := n2_; clear HB; have HB := n0_; have BK266 := n1_; have GW266 := n2_; have GE266 := n3_; clear n0_ n1_ n2_ n3_; clear hb hbox hg; have hcz49_0 := jcell BK266.out (i := 0) rfl; have hcz49_1 := jcell BK266.out (i := 1) rfl; have hcz49_2 := jcell BK266.out (i := 2) rfl; have hfz49_0 := blk_frozen BK266.out 0; have hfz49_1 := blk_frozen BK266.out 1; have hfz49_2 := blk_frozen BK266.out 2))
              have n0_ : Fa ((((w48.setCell ⟨gb266, 0, none⟩ (.string ((rd_T47 l0 x12_1).f0))).setCell ⟨gb266, 1, none⟩ (.int .i64 ((rd_T47 l0 x12_1).f1.f0))).setCell ⟨gb266, 2, none⟩ (.int .i64 ((rd_T47 l0 x12_1).f1.f1))).heap[gb266]? = some (.cells #[.string ((rd_T47 l0 x12_1).f0), .int .i64 ((rd_T47 l0 x12_1).f1.f0), .int .i64 ((rd_T47 l0 x12_1).f1.f1)] 47 (0, 0))) := ⟨by (with_reducible repeat (first | refine blk_drewN ?_ _ | refine blk_drew ?_ | refine blk_alloc ?_ _)); refine blk_put (cs := #[.string ((rd_T47 l0 x12_1).f0), .int .i64 ((rd_T47 l0 x12_1).f1.f0), .int .i64 0]) ?_ 2 _ rfl; (with_reducible repeat (first | refine blk_drewN ?_ _ | refine blk_drew ?_ | refine blk_alloc ?_ _)); refine blk_put (cs := #[.string ((rd_T47 l0 x12_1).f0), .int .i64 0, .int .i64 0]) ?_ 1 _ rfl; (with_reducible repeat (first | refine blk_drewN ?_ _ | refine blk_drew ?_ | refine blk_alloc ?_ _)); refine blk_put (cs := #[.string (⟨#[]⟩ : ByteArray), .int .i64 0, .int .i64 0]) ?_ 0 _ rfl; (with_reducible repeat (first | refine blk_drewN ?_ _ | refine blk_drew ?_ | refine blk_alloc ?_ _)); exact fa⟩
              have n1_ : Fa (Below w.heap.size w (((w48.setCell ⟨gb266, 0, none⟩ (.string ((rd_T47 l0 x12_1).f0))).setCell ⟨gb266, 1, none⟩ (.int .i64 ((rd_T47 l0 x12_1).f1.f0))).setCell ⟨gb266, 2, none⟩ (.int .i64 ((rd_T47 l0 x12_1).f1.f1)))) := ⟨fa⟩
              (try clear BK266)
              (try clear HB)
              generalize (((w48.setCell ⟨gb266, 0, none⟩ (.string ((rd_T47 l0 x12_1).f0))).setCell ⟨gb266, 1, none⟩ (.int .i64 ((rd_T47 l0 x12_1).f1.f0))).setCell ⟨gb266, 2, none⟩ (.int .i64 ((rd_T47 l0 x12_1).f1.f1))) = w50 at n0_ n1_ ⊢
              have BK266 := n0_
              have HB := n1_
              clear n0_ n1_
              have n0_ := Fa.mk (blk_drew BK266.out)
              have n1_ := Fa.mk (below_drew1 HB.out)
              clear BK266 HB
              have BK266 := n0_
              have HB := n1_
              clear n0_ n1_
              have p270 : 0 ≤ ((ji39) : Int) := of_decide_eq_true (by first | (with_reducible assumption) | assumption)
              have q270 : (ji39) < (l0.length : Int) := of_decide_eq_true (by first | (with_reducible assumption) | assumption)
              obtain ⟨ad270, e270, hx270_0, hx270_1, hx270_2⟩ := at_T47 HR0.out (ji39) p270 q270
              have hw270_2 := hx270_2
              have hw270_1 := hx270_1
              have hw270_0 := hx270_0
              obtain rfl : ad265 = ad270 := (by injection e270)
              replace hx270_0 := (HB.out.cell (World.block_lt_of_cell? w _ hx270_0)).trans hx270_0
              replace hx270_1 := (HB.out.cell (World.block_lt_of_cell? w _ hx270_1)).trans hx270_1
              replace hx270_2 := (HB.out.cell (World.block_lt_of_cell? w _ hx270_2)).trans hx270_2
              replace p270 := eq_true p270
              replace q270 := eq_true q270
              refine startU 35 (S := fun w' => w'.cell? ⟨gb266, 0, none⟩ = some (.string ((rd_T47 l0 x12_1).f0)) ∧ w'.cell? ⟨gb266, 1, none⟩ = some (.int .i64 ((rd_T47 l0 x12_1).f1.f0)) ∧ w'.cell? ⟨gb266, 2, none⟩ = some (.int .i64 ((rd_T47 l0 x12_1).f1.f1)) ∧ w'.cell? (ad265.add (((ji39)).toNat * 3)) = some (.string ((rd_T47 l0 (ji39)).f0)) ∧ w'.cell? ⟨(ad265.add (((ji39)).toNat * 3)).block, (ad265.add (((ji39)).toNat * 3)).off + 1, none⟩ = some (.int .i64 ((rd_T47 l0 (ji39)).f1.f0)) ∧ w'.cell? ⟨(ad265.add (((ji39)).toNat * 3)).block, (ad265.add (((ji39)).toNat * 3)).off + 2, none⟩ = some (.int .i64 ((rd_T47 l0 (ji39)).f1.f1))) (ds := []) ⟨(blk_cell BK266.out 0).trans rfl, (blk_cell BK266.out 1).trans rfl, (blk_cell BK266.out 2).trans rfl, ((HB.out.cell (World.block_lt_of_cell? w _ hw270_0)).trans hw270_0), ((HB.out.cell (World.block_lt_of_cell? w _ hw270_1)).trans hw270_1), ((HB.out.cell (World.block_lt_of_cell? w _ hw270_2)).trans hw270_2)⟩ (fun hHeld => ?_); refine with_tabW fleuronref08_terms.tab6 fleuronref08_terms.bits6 (fun HT_ HW_ => ?_)
              generalize w50.drew = w51 at BK266 HB hx270_0 hx270_1 hx270_2 hHeld ⊢
              refine pureU 0 (some 17) (upto 35 1) HT_ ?_
              refine takeU 1 (some 18) (upto 35 2) HT_ HW_ hHeld rfl (by rintro w' ⟨s0, s1, s2, s3, s4, s5⟩; go_simp; with_reducible rfl) ?_
              refine oneU 2 (some 19) (upto 35 3) HT_ (fun K hK => ?_)
              refine goes_ Tryz.func52 (by kernel_rfl) rfl #[.string ((rd_T47 l0 x12_1).f0)] (by rfl) rfl rfl (by (try simp only [List.map_toArray, List.map_cons, List.map_nil]); first | done | rfl | (simp only [List.length_drop, List.length_take]; rfl)) ?_
              with_reducible refine (fleuronref08_Name.calls k1 ((rd_T47 l0 x12_1).f0) true _ A7.out).mono ?_
              rintro e w' ⟨rfl, ⟨nd, rfl⟩⟩
              refine ⟨_, rfl, ?_⟩
              refine hK.out _ _ ⟨(blk_cell BK266.out 0).trans rfl, (blk_cell BK266.out 1).trans rfl, (blk_cell BK266.out 2).trans rfl, ((HB.out.cell (World.block_lt_of_cell? w _ hw270_0)).trans hw270_0), ((HB.out.cell (World.block_lt_of_cell? w _ hw270_1)).trans hw270_1), ((HB.out.cell (World.block_lt_of_cell? w _ hw270_2)).trans hw270_2)⟩ (fun hHeld => ?_)
              clear hK K
              refine normU (some 19) ?_
              refine pureU 3 (some 20) (upto 35 4) HT_ ?_
              refine pureU 4 (some 21) (upto 35 5) HT_ ?_
              refine pureU 5 (some 22) (upto 35 6) HT_ ?_
              refine takeU 6 (some 23) (upto 35 7) HT_ HW_ hHeld rfl (by rintro w' ⟨s0, s1, s2, s3, s4, s5⟩; go_simp; with_reducible rfl) ?_
              refine oneU 7 (some 24) (upto 35 8) HT_ (fun K hK => ?_)
              refine goes_ Tryz.func34 (by kernel_rfl) rfl #[.agg #[.int .i64 ((rd_T47 l0 x12_1).f1.f0), .int .i64 ((rd_T47 l0 x12_1).f1.f1)]] (by rfl) rfl rfl (by (try simp only [List.map_toArray, List.map_cons, List.map_nil]); first | done | rfl | (simp only [List.length_drop, List.length_take]; rfl)) ?_
              with_reducible refine (fleuronref01_Valid.calls k1 ((rd_T47 l0 x12_1).f1.f0) ((rd_T47 l0 x12_1).f1.f1) true _ A9.out).mono ?_
              rintro e w52 ⟨rfl, hb⟩
              refine ⟨_, rfl, ?_⟩
              have n0_ := Fa.mk (blk_below (g := gb266) (o := .cells #[.string ((rd_T47 l0 x12_1).f0), .int .i64 ((rd_T47 l0 x12_1).f1.f0), .int .i64 ((rd_T47 l0 x12_1).f1.f1)] 47 (0, 0)) fa hb)
              have n1_ := Fa.mk (bst w hb)
              clear BK266 HB
              have BK266 := n0_
              have HB := n1_
              clear n0_ n1_
              (try clear hb)
              (try clear hb2)
              (try clear hk)
              (try clear hi)
              refine hK.out _ _ ⟨(blk_cell BK266.out 0).trans rfl, (blk_cell BK266.out 1).trans rfl, (blk_cell BK266.out 2).trans rfl, ((HB.out.cell (World.block_lt_of_cell? w _ hw270_0)).trans hw270_0), ((HB.out.cell (World.block_lt_of_cell? w _ hw270_1)).trans hw270_1), ((HB.out.cell (World.block_lt_of_cell? w _ hw270_2)).trans hw270_2)⟩ (fun hHeld => ?_)
              clear hK K
              refine normU (some 24) ?_
              refine pureU 8 (some 25) (upto 35 9) HT_ ?_
              refine pureU 9 (some 26) (upto 35 10) HT_ ?_
              refine pureU 10 (some 27) (upto 35 11) HT_ ?_
              refine pureU 11 (some 28) (upto 35 12) HT_ ?_
              refine pureU 12 (some 29) (upto 35 13) HT_ ?_
              refine takeU 13 (some 30) (upto 35 14) HT_ HW_ hHeld rfl (by rintro w' ⟨s0, s1, s2, s3, s4, s5⟩; go_simp; with_reducible rfl) ?_
              refine pureU 14 (some 31) (upto 35 15) HT_ ?_
              refine pureU 15 (some 32) (upto 35 16) HT_ ?_
              refine offU 16 (some 33) (upto 35 17) HT_ ?_
              refine offU 17 (some 34) (upto 35 18) HT_ ?_
              refine pureU 18 (some 35) (upto 35 19) HT_ ?_
              refine pureU 19 (some 36) (upto 35 20) HT_ ?_
              refine pureU 20 (some 37) (upto 35 21) HT_ ?_
              refine pureU 21 (some 38) (upto 35 22) HT_ ?_
              refine pureU 22 (some 39) (upto 35 23) HT_ ?_
              refine pureU 23 (some 40) (upto 35 24) HT_ ?_
              refine pureU 24 (some 41) (upto 35 25) HT_ ?_
              refine pureU 25 (some 42) (upto 35 26) HT_ ?_
              refine pureU 26 (some 43) (upto 35 27) HT_ ?_
              refine pureU 27 (some 44) (upto 35 28) HT_ ?_
              refine pureU 28 (some 45) (upto 35 29) HT_ ?_
              refine pureU 30 (some 47) #[true, true, true, true, true, true, true, true, true, true, true, true, true, true, true, true, true, true, true, true, true, true, true, true, true, true, true, true, true, false, true, false, false, false, false] HT_ ?_
              refine takeU 29 (some 46) (upto 35 31) HT_ HW_ hHeld rfl (by rintro w' ⟨s0, s1, s2, s3, s4, s5⟩; go_simp; with_reducible rfl) ?_
              refine takeU 31 (some 48) (upto 35 32) HT_ HW_ hHeld rfl (by rintro w' ⟨s0, s1, s2, s3, s4, s5⟩; go_simp; with_reducible rfl) ?_
              refine pureU 32 (some 49) (upto 35 33) HT_ ?_
              refine pureU 33 (some 50) (upto 35 34) HT_ ?_
              refine pureU 34 (some 51) (upto 35 35) HT_ ?_
              refine done_ (done_of HT_.out (by kernel_rfl)) ?_
              try go_wp2
              go_ret
              exact ⟨by first | rfl | (simp [errW_none, errW_some] <;> rfl) | (simp only [← hji39]; first | rfl | (simp [errW_none, errW_some] <;> rfl)) | (simp [*, errW_none, errW_some] <;> rfl), fa⟩
            ·
             rw [if_neg c41] at H
             exact absurd H (by simp)
           ·
            rw [if_neg c40] at H
            exact absurd H (by simp)
          ·
           rw [if_neg c38] at H
           have c38b0 : decide (0 < x12_1) = false := decide_eq_false c38
           clear c38
           have H' := Fa.mk H
           clear H
           have p265 : 0 ≤ (x12_1 : Int) := of_decide_eq_true (by first | (with_reducible assumption) | assumption)
           have q265 : x12_1 < (l0.length : Int) := of_decide_eq_true (by first | (with_reducible assumption) | assumption)
           obtain ⟨ad265, e265, hx265_0, hx265_1, hx265_2⟩ := at_T47 HR0.out x12_1 p265 q265
           cases e265
           replace hx265_0 := (HB.out.cell (World.block_lt_of_cell? w _ hx265_0)).trans hx265_0
           replace hx265_1 := (HB.out.cell (World.block_lt_of_cell? w _ hx265_1)).trans hx265_1
           replace hx265_2 := (HB.out.cell (World.block_lt_of_cell? w _ hx265_2)).trans hx265_2
           replace p265 := eq_true p265
           replace q265 := eq_true q265
           try go_wp2_with (first | ((with_reducible refine gate_dst (N := 6) rfl ?_); refine boxF (N := 6) (cs := #[.string (⟨#[]⟩ : ByteArray), .int .i64 0, .int .i64 0]) (t := 47) ?_; intro gb266 hg w53 hbox hb; have n0_ := Fa.mk (bst w hb); have n1_ := Fa.mk (hbox); have n2_ := Fa.mk (gle hg : w.heap.size ≤ gb266); have n3_ := n2_; clear HB; have HB := n0_; have BK266 := n1_; have GW266 := n2_; have GE266 := n3_; clear n0_ n1_ n2_ n3_; clear hb hbox hg; have hcz54_0 := jcell BK266.out (i := 0) rfl; have hcz54_1 := jcell BK266.out (i := 1) rfl; have hcz54_2 := jcell BK266.out (i := 2) rfl; have hfz54_0 := blk_frozen BK266.out 0; have hfz54_1 := blk_frozen BK266.out 1; have hfz54_2 := blk_frozen BK266.out 2))
           have n0_ : Fa ((((w53.setCell ⟨gb266, 0, none⟩ (.string ((rd_T47 l0 x12_1).f0))).setCell ⟨gb266, 1, none⟩ (.int .i64 ((rd_T47 l0 x12_1).f1.f0))).setCell ⟨gb266, 2, none⟩ (.int .i64 ((rd_T47 l0 x12_1).f1.f1))).heap[gb266]? = some (.cells #[.string ((rd_T47 l0 x12_1).f0), .int .i64 ((rd_T47 l0 x12_1).f1.f0), .int .i64 ((rd_T47 l0 x12_1).f1.f1)] 47 (0, 0))) := ⟨by (with_reducible repeat (first | refine blk_drewN ?_ _ | refine blk_drew ?_ | refine blk_alloc ?_ _)); refine blk_put (cs := #[.string ((rd_T47 l0 x12_1).f0), .int .i64 ((rd_T47 l0 x12_1).f1.f0), .int .i64 0]) ?_ 2 _ rfl; (with_reducible repeat (first | refine blk_drewN ?_ _ | refine blk_drew ?_ | refine blk_alloc ?_ _)); refine blk_put (cs := #[.string ((rd_T47 l0 x12_1).f0), .int .i64 0, .int .i64 0]) ?_ 1 _ rfl; (with_reducible repeat (first | refine blk_drewN ?_ _ | refine blk_drew ?_ | refine blk_alloc ?_ _)); refine blk_put (cs := #[.string (⟨#[]⟩ : ByteArray), .int .i64 0, .int .i64 0]) ?_ 0 _ rfl; (with_reducible repeat (first | refine blk_drewN ?_ _ | refine blk_drew ?_ | refine blk_alloc ?_ _)); exact fa⟩
           have n1_ : Fa (Below w.heap.size w (((w53.setCell ⟨gb266, 0, none⟩ (.string ((rd_T47 l0 x12_1).f0))).setCell ⟨gb266, 1, none⟩ (.int .i64 ((rd_T47 l0 x12_1).f1.f0))).setCell ⟨gb266, 2, none⟩ (.int .i64 ((rd_T47 l0 x12_1).f1.f1)))) := ⟨fa⟩
           (try clear BK266)
           (try clear HB)
           generalize (((w53.setCell ⟨gb266, 0, none⟩ (.string ((rd_T47 l0 x12_1).f0))).setCell ⟨gb266, 1, none⟩ (.int .i64 ((rd_T47 l0 x12_1).f1.f0))).setCell ⟨gb266, 2, none⟩ (.int .i64 ((rd_T47 l0 x12_1).f1.f1))) = w55 at n0_ n1_ ⊢
           have BK266 := n0_
           have HB := n1_
           clear n0_ n1_
           have n0_ := Fa.mk (blk_drew BK266.out)
           have n1_ := Fa.mk (below_drew1 HB.out)
           clear BK266 HB
           have BK266 := n0_
           have HB := n1_
           clear n0_ n1_
           refine startU 35 (S := fun w' => w'.cell? ⟨gb266, 0, none⟩ = some (.string ((rd_T47 l0 x12_1).f0)) ∧ w'.cell? ⟨gb266, 1, none⟩ = some (.int .i64 ((rd_T47 l0 x12_1).f1.f0)) ∧ w'.cell? ⟨gb266, 2, none⟩ = some (.int .i64 ((rd_T47 l0 x12_1).f1.f1))) (ds := []) ⟨(blk_cell BK266.out 0).trans rfl, (blk_cell BK266.out 1).trans rfl, (blk_cell BK266.out 2).trans rfl⟩ (fun hHeld => ?_); refine with_tabW fleuronref08_terms.tab6 fleuronref08_terms.bits6 (fun HT_ HW_ => ?_)
           generalize w55.drew = w56 at BK266 HB hHeld ⊢
           refine pureU 0 (some 17) (upto 35 1) HT_ ?_
           refine takeU 1 (some 18) (upto 35 2) HT_ HW_ hHeld rfl (by rintro w' ⟨s0, s1, s2⟩; go_simp; with_reducible rfl) ?_
           refine oneU 2 (some 19) (upto 35 3) HT_ (fun K hK => ?_)
           refine goes_ Tryz.func52 (by kernel_rfl) rfl #[.string ((rd_T47 l0 x12_1).f0)] (by rfl) rfl rfl (by (try simp only [List.map_toArray, List.map_cons, List.map_nil]); first | done | rfl | (simp only [List.length_drop, List.length_take]; rfl)) ?_
           with_reducible refine (fleuronref08_Name.calls k1 ((rd_T47 l0 x12_1).f0) true _ A7.out).mono ?_
           rintro e w' ⟨rfl, ⟨nd, rfl⟩⟩
           refine ⟨_, rfl, ?_⟩
           refine hK.out _ _ ⟨(blk_cell BK266.out 0).trans rfl, (blk_cell BK266.out 1).trans rfl, (blk_cell BK266.out 2).trans rfl⟩ (fun hHeld => ?_)
           clear hK K
           refine normU (some 19) ?_
           refine pureU 3 (some 20) (upto 35 4) HT_ ?_
           refine pureU 4 (some 21) (upto 35 5) HT_ ?_
           refine pureU 5 (some 22) (upto 35 6) HT_ ?_
           refine takeU 6 (some 23) (upto 35 7) HT_ HW_ hHeld rfl (by rintro w' ⟨s0, s1, s2⟩; go_simp; with_reducible rfl) ?_
           refine oneU 7 (some 24) (upto 35 8) HT_ (fun K hK => ?_)
           refine goes_ Tryz.func34 (by kernel_rfl) rfl #[.agg #[.int .i64 ((rd_T47 l0 x12_1).f1.f0), .int .i64 ((rd_T47 l0 x12_1).f1.f1)]] (by rfl) rfl rfl (by (try simp only [List.map_toArray, List.map_cons, List.map_nil]); first | done | rfl | (simp only [List.length_drop, List.length_take]; rfl)) ?_
           with_reducible refine (fleuronref01_Valid.calls k1 ((rd_T47 l0 x12_1).f1.f0) ((rd_T47 l0 x12_1).f1.f1) true _ A9.out).mono ?_
           rintro e w57 ⟨rfl, hb⟩
           refine ⟨_, rfl, ?_⟩
           have n0_ := Fa.mk (blk_below (g := gb266) (o := .cells #[.string ((rd_T47 l0 x12_1).f0), .int .i64 ((rd_T47 l0 x12_1).f1.f0), .int .i64 ((rd_T47 l0 x12_1).f1.f1)] 47 (0, 0)) fa hb)
           have n1_ := Fa.mk (bst w hb)
           clear BK266 HB
           have BK266 := n0_
           have HB := n1_
           clear n0_ n1_
           (try clear hb)
           (try clear hb2)
           (try clear hk)
           (try clear hi)
           refine hK.out _ _ ⟨(blk_cell BK266.out 0).trans rfl, (blk_cell BK266.out 1).trans rfl, (blk_cell BK266.out 2).trans rfl⟩ (fun hHeld => ?_)
           clear hK K
           refine normU (some 24) ?_
           refine pureU 8 (some 25) (upto 35 9) HT_ ?_
           refine pureU 9 (some 26) (upto 35 10) HT_ ?_
           refine pureU 10 (some 27) (upto 35 11) HT_ ?_
           refine pureU 11 (some 28) (upto 35 12) HT_ ?_
           refine pureU 12 (some 29) (upto 35 13) HT_ ?_
           refine takeU 13 (some 30) (upto 35 14) HT_ HW_ hHeld rfl (by rintro w' ⟨s0, s1, s2⟩; go_simp; with_reducible rfl) ?_
           refine pureU 14 (some 31) (upto 35 15) HT_ ?_
           refine pureU 15 (some 32) (upto 35 16) HT_ ?_
           refine offU 16 (some 33) (upto 35 17) HT_ ?_
           refine offU 17 (some 34) (upto 35 18) HT_ ?_
           refine pureU 18 (some 35) (upto 35 19) HT_ ?_
           refine pureU 19 (some 36) (upto 35 20) HT_ ?_
           refine pureU 20 (some 37) (upto 35 21) HT_ ?_
           refine pureU 21 (some 38) (upto 35 22) HT_ ?_
           refine pureU 22 (some 39) (upto 35 23) HT_ ?_
           refine pureU 23 (some 40) (upto 35 24) HT_ ?_
           refine offU 24 (some 41) (upto 35 25) HT_ ?_
           refine offU 25 (some 42) (upto 35 26) HT_ ?_
           refine offU 26 (some 43) (upto 35 27) HT_ ?_
           refine offU 27 (some 44) (upto 35 28) HT_ ?_
           refine offU 28 (some 45) (upto 35 29) HT_ ?_
           refine offU 29 (some 46) (upto 35 30) HT_ ?_
           refine offU 30 (some 47) (upto 35 31) HT_ ?_
           refine offU 31 (some 48) (upto 35 32) HT_ ?_
           refine offU 32 (some 49) (upto 35 33) HT_ ?_
           refine pureU 33 (some 50) (upto 35 34) HT_ ?_
           refine pureU 34 (some 51) (upto 35 35) HT_ ?_
           refine done_ (done_of HT_.out (by kernel_rfl)) ?_
           try go_wp2
           go_roundg k1
           case measure => have := HK1.out; omega
           case rel => exact ⟨(wrap64 (x12_1 + 1)), (by first | rfl | (simp; done) | (simp [*]; done)), H', ⟨by have := HK1.out; omega⟩, ⟨fa⟩⟩
        ·
         replace c10 := Bool.eq_false_iff.mpr c10
         subst c10
         rw [if_neg (show ¬ (false = true) by decide)] at H
         obtain rfl := Option.some.inj H
         have p265 : 0 ≤ (x12_1 : Int) := of_decide_eq_true (by first | (with_reducible assumption) | assumption)
         have q265 : x12_1 < (l0.length : Int) := of_decide_eq_true (by first | (with_reducible assumption) | assumption)
         obtain ⟨ad265, e265, hx265_0, hx265_1, hx265_2⟩ := at_T47 HR0.out x12_1 p265 q265
         cases e265
         replace hx265_0 := (HB.out.cell (World.block_lt_of_cell? w _ hx265_0)).trans hx265_0
         replace hx265_1 := (HB.out.cell (World.block_lt_of_cell? w _ hx265_1)).trans hx265_1
         replace hx265_2 := (HB.out.cell (World.block_lt_of_cell? w _ hx265_2)).trans hx265_2
         replace p265 := eq_true p265
         replace q265 := eq_true q265
         try go_wp2_with (first | ((with_reducible refine gate_dst (N := 6) rfl ?_); refine boxF (N := 6) (cs := #[.string (⟨#[]⟩ : ByteArray), .int .i64 0, .int .i64 0]) (t := 47) ?_; intro gb266 hg w58 hbox hb; have n0_ := Fa.mk (bst w hb); have n1_ := Fa.mk (hbox); have n2_ := Fa.mk (gle hg : w.heap.size ≤ gb266); have n3_ := n2_; clear HB; have HB := n0_; have BK266 := n1_; have GW266 := n2_; have GE266 := n3_; clear n0_ n1_ n2_ n3_; clear hb hbox hg; have hcz59_0 := jcell BK266.out (i := 0) rfl; have hcz59_1 := jcell BK266.out (i := 1) rfl; have hcz59_2 := jcell BK266.out (i := 2) rfl; have hfz59_0 := blk_frozen BK266.out 0; have hfz59_1 := blk_frozen BK266.out 1; have hfz59_2 := blk_frozen BK266.out 2))
         have n0_ : Fa ((((w58.setCell ⟨gb266, 0, none⟩ (.string ((rd_T47 l0 x12_1).f0))).setCell ⟨gb266, 1, none⟩ (.int .i64 ((rd_T47 l0 x12_1).f1.f0))).setCell ⟨gb266, 2, none⟩ (.int .i64 ((rd_T47 l0 x12_1).f1.f1))).heap[gb266]? = some (.cells #[.string ((rd_T47 l0 x12_1).f0), .int .i64 ((rd_T47 l0 x12_1).f1.f0), .int .i64 ((rd_T47 l0 x12_1).f1.f1)] 47 (0, 0))) := ⟨by (with_reducible repeat (first | refine blk_drewN ?_ _ | refine blk_drew ?_ | refine blk_alloc ?_ _)); refine blk_put (cs := #[.string ((rd_T47 l0 x12_1).f0), .int .i64 ((rd_T47 l0 x12_1).f1.f0), .int .i64 0]) ?_ 2 _ rfl; (with_reducible repeat (first | refine blk_drewN ?_ _ | refine blk_drew ?_ | refine blk_alloc ?_ _)); refine blk_put (cs := #[.string ((rd_T47 l0 x12_1).f0), .int .i64 0, .int .i64 0]) ?_ 1 _ rfl; (with_reducible repeat (first | refine blk_drewN ?_ _ | refine blk_drew ?_ | refine blk_alloc ?_ _)); refine blk_put (cs := #[.string (⟨#[]⟩ : ByteArray), .int .i64 0, .int .i64 0]) ?_ 0 _ rfl; (with_reducible repeat (first | refine blk_drewN ?_ _ | refine blk_drew ?_ | refine blk_alloc ?_ _)); exact fa⟩
         have n1_ : Fa (Below w.heap.size w (((w58.setCell ⟨gb266, 0, none⟩ (.string ((rd_T47 l0 x12_1).f0))).setCell ⟨gb266, 1, none⟩ (.int .i64 ((rd_T47 l0 x12_1).f1.f0))).setCell ⟨gb266, 2, none⟩ (.int .i64 ((rd_T47 l0 x12_1).f1.f1)))) := ⟨fa⟩
         (try clear BK266)
         (try clear HB)
         generalize (((w58.setCell ⟨gb266, 0, none⟩ (.string ((rd_T47 l0 x12_1).f0))).setCell ⟨gb266, 1, none⟩ (.int .i64 ((rd_T47 l0 x12_1).f1.f0))).setCell ⟨gb266, 2, none⟩ (.int .i64 ((rd_T47 l0 x12_1).f1.f1))) = w60 at n0_ n1_ ⊢
         have BK266 := n0_
         have HB := n1_
         clear n0_ n1_
         have n0_ := Fa.mk (blk_drew BK266.out)
         have n1_ := Fa.mk (below_drew1 HB.out)
         clear BK266 HB
         have BK266 := n0_
         have HB := n1_
         clear n0_ n1_
         refine startU 35 (S := fun w' => w'.cell? ⟨gb266, 0, none⟩ = some (.string ((rd_T47 l0 x12_1).f0)) ∧ w'.cell? ⟨gb266, 1, none⟩ = some (.int .i64 ((rd_T47 l0 x12_1).f1.f0)) ∧ w'.cell? ⟨gb266, 2, none⟩ = some (.int .i64 ((rd_T47 l0 x12_1).f1.f1))) (ds := []) ⟨(blk_cell BK266.out 0).trans rfl, (blk_cell BK266.out 1).trans rfl, (blk_cell BK266.out 2).trans rfl⟩ (fun hHeld => ?_); refine with_tabW fleuronref08_terms.tab6 fleuronref08_terms.bits6 (fun HT_ HW_ => ?_)
         generalize w60.drew = w61 at BK266 HB hHeld ⊢
         refine pureU 0 (some 17) (upto 35 1) HT_ ?_
         refine takeU 1 (some 18) (upto 35 2) HT_ HW_ hHeld rfl (by rintro w' ⟨s0, s1, s2⟩; go_simp; with_reducible rfl) ?_
         refine oneU 2 (some 19) (upto 35 3) HT_ (fun K hK => ?_)
         refine goes_ Tryz.func52 (by kernel_rfl) rfl #[.string ((rd_T47 l0 x12_1).f0)] (by rfl) rfl rfl (by (try simp only [List.map_toArray, List.map_cons, List.map_nil]); first | done | rfl | (simp only [List.length_drop, List.length_take]; rfl)) ?_
         with_reducible refine (fleuronref08_Name.calls k1 ((rd_T47 l0 x12_1).f0) true _ A7.out).mono ?_
         rintro e w' ⟨rfl, ⟨nd, rfl⟩⟩
         refine ⟨_, rfl, ?_⟩
         refine hK.out _ _ ⟨(blk_cell BK266.out 0).trans rfl, (blk_cell BK266.out 1).trans rfl, (blk_cell BK266.out 2).trans rfl⟩ (fun hHeld => ?_)
         clear hK K
         refine normU (some 19) ?_
         refine pureU 3 (some 20) (upto 35 4) HT_ ?_
         refine pureU 4 (some 21) (upto 35 5) HT_ ?_
         refine pureU 5 (some 22) (upto 35 6) HT_ ?_
         refine takeU 6 (some 23) (upto 35 7) HT_ HW_ hHeld rfl (by rintro w' ⟨s0, s1, s2⟩; go_simp; with_reducible rfl) ?_
         refine oneU 7 (some 24) (upto 35 8) HT_ (fun K hK => ?_)
         refine goes_ Tryz.func34 (by kernel_rfl) rfl #[.agg #[.int .i64 ((rd_T47 l0 x12_1).f1.f0), .int .i64 ((rd_T47 l0 x12_1).f1.f1)]] (by rfl) rfl rfl (by (try simp only [List.map_toArray, List.map_cons, List.map_nil]); first | done | rfl | (simp only [List.length_drop, List.length_take]; rfl)) ?_
         with_reducible refine (fleuronref01_Valid.calls k1 ((rd_T47 l0 x12_1).f1.f0) ((rd_T47 l0 x12_1).f1.f1) false _ A9.out).mono ?_
         rintro e w62 ⟨rfl, hb⟩
         refine ⟨_, rfl, ?_⟩
         have n0_ := Fa.mk (blk_below (g := gb266) (o := .cells #[.string ((rd_T47 l0 x12_1).f0), .int .i64 ((rd_T47 l0 x12_1).f1.f0), .int .i64 ((rd_T47 l0 x12_1).f1.f1)] 47 (0, 0)) fa hb)
         have n1_ := Fa.mk (bst w hb)
         clear BK266 HB
         have BK266 := n0_
         have HB := n1_
         clear n0_ n1_
         (try clear hb)
         (try clear hb2)
         (try clear hk)
         (try clear hi)
         refine hK.out _ _ ⟨(blk_cell BK266.out 0).trans rfl, (blk_cell BK266.out 1).trans rfl, (blk_cell BK266.out 2).trans rfl⟩ (fun hHeld => ?_)
         clear hK K
         refine normU (some 24) ?_
         refine pureU 8 (some 25) (upto 35 9) HT_ ?_
         refine pureU 9 (some 26) (upto 35 10) HT_ ?_
         refine pureU 10 (some 27) (upto 35 11) HT_ ?_
         refine offU 11 (some 28) (upto 35 12) HT_ ?_
         refine offU 12 (some 29) (upto 35 13) HT_ ?_
         refine offU 13 (some 30) (upto 35 14) HT_ ?_
         refine offU 14 (some 31) (upto 35 15) HT_ ?_
         refine offU 15 (some 32) (upto 35 16) HT_ ?_
         refine offU 16 (some 33) (upto 35 17) HT_ ?_
         refine offU 17 (some 34) (upto 35 18) HT_ ?_
         refine offU 18 (some 35) (upto 35 19) HT_ ?_
         refine pureU 19 (some 36) (upto 35 20) HT_ ?_
         refine pureU 20 (some 37) (upto 35 21) HT_ ?_
         refine offU 21 (some 38) (upto 35 22) HT_ ?_
         refine offU 22 (some 39) (upto 35 23) HT_ ?_
         refine offU 23 (some 40) (upto 35 24) HT_ ?_
         refine offU 24 (some 41) (upto 35 25) HT_ ?_
         refine offU 25 (some 42) (upto 35 26) HT_ ?_
         refine offU 26 (some 43) (upto 35 27) HT_ ?_
         refine offU 27 (some 44) (upto 35 28) HT_ ?_
         refine offU 28 (some 45) (upto 35 29) HT_ ?_
         refine offU 29 (some 46) (upto 35 30) HT_ ?_
         refine offU 30 (some 47) (upto 35 31) HT_ ?_
         refine offU 31 (some 48) (upto 35 32) HT_ ?_
         refine offU 32 (some 49) (upto 35 33) HT_ ?_
         refine offU 33 (some 50) (upto 35 34) HT_ ?_
         refine pureU 34 (some 51) (upto 35 35) HT_ ?_
         refine done_ (done_of HT_.out (by kernel_rfl)) ?_
         try go_wp2
         go_ret
         exact ⟨rfl, fa⟩
       ·
        replace c8 := Bool.eq_false_iff.mpr c8
        subst c8
        rw [if_neg (show ¬ (false = true) by decide)] at H
        obtain rfl := Option.some.inj H
        have p265 : 0 ≤ (x12_1 : Int) := of_decide_eq_true (by first | (with_reducible assumption) | assumption)
        have q265 : x12_1 < (l0.length : Int) := of_decide_eq_true (by first | (with_reducible assumption) | assumption)
        obtain ⟨ad265, e265, hx265_0, hx265_1, hx265_2⟩ := at_T47 HR0.out x12_1 p265 q265
        cases e265
        replace hx265_0 := (HB.out.cell (World.block_lt_of_cell? w _ hx265_0)).trans hx265_0
        replace hx265_1 := (HB.out.cell (World.block_lt_of_cell? w _ hx265_1)).trans hx265_1
        replace hx265_2 := (HB.out.cell (World.block_lt_of_cell? w _ hx265_2)).trans hx265_2
        replace p265 := eq_true p265
        replace q265 := eq_true q265
        try go_wp2_with (first | ((with_reducible refine gate_dst (N := 6) rfl ?_); refine boxF (N := 6) (cs := #[.string (⟨#[]⟩ : ByteArray), .int .i64 0, .int .i64 0]) (t := 47) ?_; intro gb266 hg w63 hbox hb; have n0_ := Fa.mk (bst w hb); have n1_ := Fa.mk (hbox); have n2_ := Fa.mk (gle hg : w.heap.size ≤ gb266); have n3_ := n2_; clear HB; have HB := n0_; have BK266 := n1_; have GW266 := n2_; have GE266 := n3_; clear n0_ n1_ n2_ n3_; clear hb hbox hg; have hcz64_0 := jcell BK266.out (i := 0) rfl; have hcz64_1 := jcell BK266.out (i := 1) rfl; have hcz64_2 := jcell BK266.out (i := 2) rfl; have hfz64_0 := blk_frozen BK266.out 0; have hfz64_1 := blk_frozen BK266.out 1; have hfz64_2 := blk_frozen BK266.out 2))
        have n0_ : Fa ((((w63.setCell ⟨gb266, 0, none⟩ (.string ((rd_T47 l0 x12_1).f0))).setCell ⟨gb266, 1, none⟩ (.int .i64 ((rd_T47 l0 x12_1).f1.f0))).setCell ⟨gb266, 2, none⟩ (.int .i64 ((rd_T47 l0 x12_1).f1.f1))).heap[gb266]? = some (.cells #[.string ((rd_T47 l0 x12_1).f0), .int .i64 ((rd_T47 l0 x12_1).f1.f0), .int .i64 ((rd_T47 l0 x12_1).f1.f1)] 47 (0, 0))) := ⟨by (with_reducible repeat (first | refine blk_drewN ?_ _ | refine blk_drew ?_ | refine blk_alloc ?_ _)); refine blk_put (cs := #[.string ((rd_T47 l0 x12_1).f0), .int .i64 ((rd_T47 l0 x12_1).f1.f0), .int .i64 0]) ?_ 2 _ rfl; (with_reducible repeat (first | refine blk_drewN ?_ _ | refine blk_drew ?_ | refine blk_alloc ?_ _)); refine blk_put (cs := #[.string ((rd_T47 l0 x12_1).f0), .int .i64 0, .int .i64 0]) ?_ 1 _ rfl; (with_reducible repeat (first | refine blk_drewN ?_ _ | refine blk_drew ?_ | refine blk_alloc ?_ _)); refine blk_put (cs := #[.string (⟨#[]⟩ : ByteArray), .int .i64 0, .int .i64 0]) ?_ 0 _ rfl; (with_reducible repeat (first | refine blk_drewN ?_ _ | refine blk_drew ?_ | refine blk_alloc ?_ _)); exact fa⟩
        have n1_ : Fa (Below w.heap.size w (((w63.setCell ⟨gb266, 0, none⟩ (.string ((rd_T47 l0 x12_1).f0))).setCell ⟨gb266, 1, none⟩ (.int .i64 ((rd_T47 l0 x12_1).f1.f0))).setCell ⟨gb266, 2, none⟩ (.int .i64 ((rd_T47 l0 x12_1).f1.f1)))) := ⟨fa⟩
        (try clear BK266)
        (try clear HB)
        generalize (((w63.setCell ⟨gb266, 0, none⟩ (.string ((rd_T47 l0 x12_1).f0))).setCell ⟨gb266, 1, none⟩ (.int .i64 ((rd_T47 l0 x12_1).f1.f0))).setCell ⟨gb266, 2, none⟩ (.int .i64 ((rd_T47 l0 x12_1).f1.f1))) = w65 at n0_ n1_ ⊢
        have BK266 := n0_
        have HB := n1_
        clear n0_ n1_
        have n0_ := Fa.mk (blk_drew BK266.out)
        have n1_ := Fa.mk (below_drew1 HB.out)
        clear BK266 HB
        have BK266 := n0_
        have HB := n1_
        clear n0_ n1_
        refine startU 35 (S := fun w' => w'.cell? ⟨gb266, 0, none⟩ = some (.string ((rd_T47 l0 x12_1).f0)) ∧ w'.cell? ⟨gb266, 1, none⟩ = some (.int .i64 ((rd_T47 l0 x12_1).f1.f0)) ∧ w'.cell? ⟨gb266, 2, none⟩ = some (.int .i64 ((rd_T47 l0 x12_1).f1.f1))) (ds := []) ⟨(blk_cell BK266.out 0).trans rfl, (blk_cell BK266.out 1).trans rfl, (blk_cell BK266.out 2).trans rfl⟩ (fun hHeld => ?_); refine with_tabW fleuronref08_terms.tab6 fleuronref08_terms.bits6 (fun HT_ HW_ => ?_)
        generalize w65.drew = w66 at BK266 HB hHeld ⊢
        refine pureU 0 (some 17) (upto 35 1) HT_ ?_
        refine takeU 1 (some 18) (upto 35 2) HT_ HW_ hHeld rfl (by rintro w' ⟨s0, s1, s2⟩; go_simp; with_reducible rfl) ?_
        refine oneU 2 (some 19) (upto 35 3) HT_ (fun K hK => ?_)
        refine goes_ Tryz.func52 (by kernel_rfl) rfl #[.string ((rd_T47 l0 x12_1).f0)] (by rfl) rfl rfl (by (try simp only [List.map_toArray, List.map_cons, List.map_nil]); first | done | rfl | (simp only [List.length_drop, List.length_take]; rfl)) ?_
        with_reducible refine (fleuronref08_Name.calls k1 ((rd_T47 l0 x12_1).f0) false _ A7.out).mono ?_
        rintro e w' ⟨rfl, ⟨nd, rfl⟩⟩
        refine ⟨_, rfl, ?_⟩
        refine hK.out _ _ ⟨(blk_cell BK266.out 0).trans rfl, (blk_cell BK266.out 1).trans rfl, (blk_cell BK266.out 2).trans rfl⟩ (fun hHeld => ?_)
        clear hK K
        refine normU (some 19) ?_
        refine pureU 3 (some 20) (upto 35 4) HT_ ?_
        refine pureU 4 (some 21) (upto 35 5) HT_ ?_
        refine offU 5 (some 22) (upto 35 6) HT_ ?_
        refine offU 6 (some 23) (upto 35 7) HT_ ?_
        refine offU 7 (some 24) (upto 35 8) HT_ ?_
        refine offU 8 (some 25) (upto 35 9) HT_ ?_
        refine pureU 9 (some 26) (upto 35 10) HT_ ?_
        refine pureU 10 (some 27) (upto 35 11) HT_ ?_
        refine offU 11 (some 28) (upto 35 12) HT_ ?_
        refine offU 12 (some 29) (upto 35 13) HT_ ?_
        refine offU 13 (some 30) (upto 35 14) HT_ ?_
        refine offU 14 (some 31) (upto 35 15) HT_ ?_
        refine offU 15 (some 32) (upto 35 16) HT_ ?_
        refine offU 16 (some 33) (upto 35 17) HT_ ?_
        refine offU 17 (some 34) (upto 35 18) HT_ ?_
        refine offU 18 (some 35) (upto 35 19) HT_ ?_
        refine pureU 19 (some 36) (upto 35 20) HT_ ?_
        refine pureU 20 (some 37) (upto 35 21) HT_ ?_
        refine offU 21 (some 38) (upto 35 22) HT_ ?_
        refine offU 22 (some 39) (upto 35 23) HT_ ?_
        refine offU 23 (some 40) (upto 35 24) HT_ ?_
        refine offU 24 (some 41) (upto 35 25) HT_ ?_
        refine offU 25 (some 42) (upto 35 26) HT_ ?_
        refine offU 26 (some 43) (upto 35 27) HT_ ?_
        refine offU 27 (some 44) (upto 35 28) HT_ ?_
        refine offU 28 (some 45) (upto 35 29) HT_ ?_
        refine offU 29 (some 46) (upto 35 30) HT_ ?_
        refine offU 30 (some 47) (upto 35 31) HT_ ?_
        refine offU 31 (some 48) (upto 35 32) HT_ ?_
        refine offU 32 (some 49) (upto 35 33) HT_ ?_
        refine offU 33 (some 50) (upto 35 34) HT_ ?_
        refine pureU 34 (some 51) (upto 35 35) HT_ ?_
        refine done_ (done_of HT_.out (by kernel_rfl)) ?_
        try go_wp2
        go_ret
        exact ⟨rfl, fa⟩
      ·
       rw [if_neg c6] at H
       exact absurd H (by simp)
     ·
      rw [if_neg c5] at H
      exact absurd H (by simp)
    ·
     rw [if_neg c4] at H
     have c4b0 : decide (x12_1 < (l0.length : Int)) = false := decide_eq_false c4
     clear c4
     obtain rfl := Option.some.inj H
     go_wp2
     go_ret
     exact ⟨rfl, fa⟩
end Go.Proofs.YtilamkcpbibnmaaGreatDoor.P
