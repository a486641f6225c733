import Derived.Test.YtilamkcpbibnmaaGreatDoorZPx0
import Derived.Test.YtilamkcpbibnmaaGreatDoorZPxfleuronlaw08few
namespace Go.Proofs.YtilamkcpbibnmaaGreatDoor.P
open Go.RowKit Go.Proofs.YtilamkcpbibnmaaGreatDoorW.PrintWords Go.Proofs.YtilamkcpbibnmaaGreatDoorW.PrintLast Go.Proofs.YtilamkcpbibnmaaGreatDoorW.PrintMore
attribute [local go_sem] max2_int min2_int max_two min_two max_three min_three max_four min_four
set_option linter.unusedVariables false
set_option linter.unusedSimpArgs false
def linear_rising.l0 : Nat → List (S47) → List (S47) → Int → Int → Option (Bool)
  | 0, _, _, _, _ => none
  | k + 1, x0, x5, x6, x7 => if x7 < x6 then (if 0 ≤ x7 then (if x7 < (x5.length : Int) then ((linear_Named.f ((rd_T47 x5 x7).f0)).bind fun t116 => (if t116 = true then (if x7 > 0 then (if 0 ≤ (wrap64 (x7 - 1)) then (if (wrap64 (x7 - 1)) < (x0.length : Int) then (if ((Op.bytesLess (((rd_T47 x0 (wrap64 (x7 - 1))).f0).toList) (((rd_T47 x5 x7).f0).toList)) = true) then ((num_Valid.f k ((rd_T47 x5 x7).f1.f0) ((rd_T47 x5 x7).f1.f1)).bind fun t118 => (if t118 = true then (linear_rising.l0 k x0 x5 x6 (wrap64 (x7 + 1))) else (some false))) else (some false)) else (none)) else (none)) else ((num_Valid.f k ((rd_T47 x5 x7).f1.f0) ((rd_T47 x5 x7).f1.f1)).bind fun t119 => (if t119 = true then (linear_rising.l0 k x0 x5 x6 (wrap64 (x7 + 1))) else (some false)))) else (some false))) else (none)) else (none)) else (some (decide ((x0.length : Int) ≤ 60)))
def linear_rising.f (k : Nat) (l0 : List (S47)) : Option (Bool) := linear_rising.l0 k l0 l0 (l0.length : Int) 0
theorem linear_rising.mono_l : ∀ k, (∀ y0 y1 y2 y3, LeO (linear_rising.l0 k y0 y1 y2 y3) (linear_rising.l0 (k + 1) y0 y1 y2 y3))
  | 0 => fun _ _ _ _ r h => by simp [linear_rising.l0] at h
  | k + 1 => by
    have ih0 := linear_rising.mono_l k
    all_goals intros
    all_goals first | unfold linear_rising.l0
    all_goals repeat' first | (with_reducible exact ih0 _ _ _ _) | (with_reducible exact num_Valid.mono _ _ _) | (with_reducible exact LeO.refl _) | (with_reducible exact LeO.none _) | (with_reducible refine LeO.ite ?_ ?_) | (with_reducible refine LeO.bind ?_ (fun _ => ?_)) | exact ih0 _ _ _ _ | exact num_Valid.mono _ _ _ | exact LeO.none _ | refine LeO.ite ?_ ?_ | refine LeO.bind ?_ (fun _ => ?_)
theorem linear_rising.mono : ∀ a0 k, LeO (linear_rising.f k a0) (linear_rising.f (k + 1) a0) := by
  intro a0 k
  have ih0 := linear_rising.mono_l k
  unfold linear_rising.f
  repeat' first
      | (with_reducible exact ih0 _ _ _ _)
      | (with_reducible exact num_Valid.mono _ _ _)
      | (with_reducible exact LeO.refl _)
      | (with_reducible exact LeO.none _)
      | (with_reducible refine LeO.ite ?_ ?_)
      | (with_reducible refine LeO.bind ?_ (fun _ => ?_))
      | exact ih0 _ _ _ _
      | exact num_Valid.mono _ _ _
      | exact LeO.none _
      | refine LeO.ite ?_ ?_
      | refine LeO.bind ?_ (fun _ => ?_)
def linear_rising.T4 : Bool × List (List Nat × List Nat) := (true, [([], []), ([0], [0]), ([1], [1]), ([2], [2]), ([3, 2], [3]), ([4], [4]), ([5, 4], [4, 5]), ([6, 4, 4], [4, 6]), ([7], [7]), ([7], [7]), ([9, 7], [7, 9]), ([8, 10, 7], [7, 8, 10]), ([11, 7], [7, 11]), ([12, 7], [7, 12]), ([7], [7]), ([14, 7], [7, 14]), ([13, 15, 7], [7, 13, 15]), ([7, 16, 4], [4, 7, 16]), ([4, 17], [4, 17]), ([18, 7], [18]), ([19], [19]), ([20, 19], [19, 20]), ([21, 19, 19], [19, 21]), ([22, 19], [19, 22]), ([19, 23], [19, 23])])
def linear_rising.B4 : List Nat := [0, 1, 3, 7, 15, 31, 63, 127, 255, 255, 767, 2047, 4095, 8191, 255, 16639, 65535, 131071, 262143, 524287, 1048575, 2097151, 4194303, 8388607, 16777215]
theorem linear_rising.tab4 : rtab .any (opsOf Tryz.f45 4) = linear_rising.T4 := by kernel_rfl
theorem linear_rising.bits4 : waitsOk linear_rising.T4.2 linear_rising.B4 = true := by kernel_rfl
set_option maxHeartbeats 8000000 in
set_option maxRecDepth 100000 in
theorem linear_rising.calls (k : Nat) (A0 : Option Addr) (c0 : Nat) (l0 : List (S47)) (r : Bool) (w : World) (hr0 : Kd.C k47 w A0 l0.length l0) (hc0 : l0.length ≤ c0) (h : linear_rising.f k l0 = some r) :
  Calls Tryz.prog 45 #[.slice A0 l0.length c0] w fun e w' => e = .returned (.bool r) ∧ Below w.heap.size w w' := by
 have hu47 := Tryz.underlying47
 have hu23 := Tryz.underlying23
 have HR0 := Fa.mk hr0
 have HC0 := Fa.mk hc0
 clear hr0 hc0
 have HB := Fa.mk (Below.refl w.heap.size w)
 have H : (linear_rising.l0 k l0 l0 (l0.length : Int) 0) = some r := h
 clear h
 have H' := Fa.mk H
 clear H
 go_enter Tryz.func45, Tryz.ntmps45
 go_wp2
 go_loopg [7] k (fun kq v7 w' => ∃ (x7_1 : Int), v7 = .int .i64 x7_1 ∧ Fa (linear_rising.l0 kq l0 l0 (l0.length : Int) x7_1 = some r) ∧ Fa (kq ≤ k) ∧ Fa (Below w.heap.size w w'))
 case atStart => exact ⟨(0), (by first | rfl | (simp; done) | (simp [*]; done)), H', ⟨Nat.le_refl _⟩, ⟨fa⟩⟩
 case round =>
  clear H'
  obtain ⟨x7_1, rfl, HA, HK1, HB⟩ := hrel
  cases gk with
  | zero => exact absurd HA.out (by simp [linear_rising.l0])
  | succ k1 =>
   have H := HA.out
   clear HA
   simp only [linear_rising.l0] at H
   by_cases c2 : x7_1 < (l0.length : Int)
   ·
    rw [if_pos c2] at H
    have c2b0 : decide (x7_1 < (l0.length : Int)) = true := decide_eq_true c2
    clear c2
    by_cases c3 : 0 ≤ x7_1
    ·
     rw [if_pos c3] at H
     have c3b0 : decide (0 ≤ x7_1) = true := decide_eq_true c3
     clear c3
     by_cases c4 : x7_1 < (l0.length : Int)
     ·
      rw [if_pos c4] at H
      have c4b0 : decide (x7_1 < (l0.length : Int)) = true := decide_eq_true c4
      clear c4
      replace H := Option.bind_eq_some_iff.mp H
      obtain ⟨t116, A50, H⟩ := H
      (try dsimp only at H)
      have A5 := Fa.mk A50
      clear A50
      by_cases c6 : t116 = true
      ·
       subst c6
       rw [if_pos rfl] at H
       by_cases c7 : x7_1 > 0
       ·
        rw [if_pos c7] at H
        have c7b0 : decide (0 < x7_1) = true := decide_eq_true c7
        clear c7
        obtain ⟨ji8, hji8⟩ : ∃ j_ : Int, (wrap64 (x7_1 - 1)) = j_ := ⟨_, rfl⟩
        replace H : (if 0 ≤ (ji8) then (if (ji8) < (l0.length : Int) then (if ((Op.bytesLess (((rd_T47 l0 (ji8)).f0).toList) (((rd_T47 l0 x7_1).f0).toList)) = true) then ((num_Valid.f k1 ((rd_T47 l0 x7_1).f1.f0) ((rd_T47 l0 x7_1).f1.f1)).bind fun t118 => (if t118 = true then (linear_rising.l0 k1 l0 l0 (l0.length : Int) (wrap64 (x7_1 + 1))) else (some false))) else (some false)) else (none)) else (none)) = some r := by first | (rw [hji8] at H; exact H) | (simp only [hji8] at H ⊢; exact H)
        (try rw [hji8] at A5)
        have hji8w : (IntKind.i64.wrap (x7_1 - 1)) = ji8 := (i64_w _).trans hji8
        by_cases c9 : 0 ≤ (ji8)
        ·
         rw [if_pos c9] at H
         have c9b0 : decide (0 ≤ (ji8)) = true := decide_eq_true c9
         clear c9
         by_cases c10 : (ji8) < (l0.length : Int)
         ·
          rw [if_pos c10] at H
          have c10b0 : decide ((ji8) < (l0.length : Int)) = true := decide_eq_true c10
          clear c10
          by_cases c11 : ((Op.bytesLess (((rd_T47 l0 (ji8)).f0).toList) (((rd_T47 l0 x7_1).f0).toList)) = true)
          ·
           rw [if_pos c11] at H
           have c11b0 : (Op.bytesLess (((rd_T47 l0 (ji8)).f0).toList) (((rd_T47 l0 x7_1).f0).toList)) = true := c11
           clear c11
           replace H := Option.bind_eq_some_iff.mp H
           obtain ⟨t118, A120, H⟩ := H
           (try dsimp only at H)
           have A12 := Fa.mk A120
           clear A120
           by_cases c13 : t118 = true
           ·
            subst c13
            rw [if_pos rfl] at H
            have H' := Fa.mk H
            clear H
            have p114 : 0 ≤ (x7_1 : Int) := of_decide_eq_true (by first | (with_reducible assumption) | assumption)
            have q114 : x7_1 < (l0.length : Int) := of_decide_eq_true (by first | (with_reducible assumption) | assumption)
            obtain ⟨ad114, e114, hx114_0, hx114_1, hx114_2⟩ := at_T47 HR0.out x7_1 p114 q114
            cases e114
            replace hx114_0 := (HB.out.cell (World.block_lt_of_cell? w _ hx114_0)).trans hx114_0
            replace hx114_1 := (HB.out.cell (World.block_lt_of_cell? w _ hx114_1)).trans hx114_1
            replace hx114_2 := (HB.out.cell (World.block_lt_of_cell? w _ hx114_2)).trans hx114_2
            replace p114 := eq_true p114
            replace q114 := eq_true q114
            try go_wp2_with (first | ((with_reducible refine gate_dst (N := 4) rfl ?_); refine boxF (N := 4) (cs := #[.string (⟨#[]⟩ : ByteArray), .int .i64 0, .int .i64 0]) (t := 47) ?_; intro gb115 hg w14 hbox hb; have n0_ := Fa.mk (bst w hb); have n1_ := Fa.mk (hbox); have n2_ := Fa.mk (gle hg : w.heap.size ≤ gb115); have n3_ := n2_; clear HB; have HB := n0_; have BK115 := n1_; have GW115 := n2_; have GE115 := n3_; clear n0_ n1_ n2_ n3_; clear hb hbox hg; have hcz15_0 := jcell BK115.out (i := 0) rfl; have hcz15_1 := jcell BK115.out (i := 1) rfl; have hcz15_2 := jcell BK115.out (i := 2) rfl; have hfz15_0 := blk_frozen BK115.out 0; have hfz15_1 := blk_frozen BK115.out 1; have hfz15_2 := blk_frozen BK115.out 2))
            have n0_ : Fa ((((w14.setCell ⟨gb115, 0, none⟩ (.string ((rd_T47 l0 x7_1).f0))).setCell ⟨gb115, 1, none⟩ (.int .i64 ((rd_T47 l0 x7_1).f1.f0))).setCell ⟨gb115, 2, none⟩ (.int .i64 ((rd_T47 l0 x7_1).f1.f1))).heap[gb115]? = some (.cells #[.string ((rd_T47 l0 x7_1).f0), .int .i64 ((rd_T47 l0 x7_1).f1.f0), .int .i64 ((rd_T47 l0 x7_1).f1.f1)] 47 (0, 0))) := ⟨by (with_reducible repeat (first | refine blk_drewN ?_ _ | refine blk_drew ?_ | refine blk_alloc ?_ _)); refine blk_put (cs := #[.string ((rd_T47 l0 x7_1).f0), .int .i64 ((rd_T47 l0 x7_1).f1.f0), .int .i64 0]) ?_ 2 _ rfl; (with_reducible repeat (first | refine blk_drewN ?_ _ | refine blk_drew ?_ | refine blk_alloc ?_ _)); refine blk_put (cs := #[.string ((rd_T47 l0 x7_1).f0), .int .i64 0, .int .i64 0]) ?_ 1 _ rfl; (with_reducible repeat (first | refine blk_drewN ?_ _ | refine blk_drew ?_ | refine blk_alloc ?_ _)); refine blk_put (cs := #[.string (⟨#[]⟩ : ByteArray), .int .i64 0, .int .i64 0]) ?_ 0 _ rfl; (with_reducible repeat (first | refine blk_drewN ?_ _ | refine blk_drew ?_ | refine blk_alloc ?_ _)); exact fa⟩
            have n1_ : Fa (Below w.heap.size w (((w14.setCell ⟨gb115, 0, none⟩ (.string ((rd_T47 l0 x7_1).f0))).setCell ⟨gb115, 1, none⟩ (.int .i64 ((rd_T47 l0 x7_1).f1.f0))).setCell ⟨gb115, 2, none⟩ (.int .i64 ((rd_T47 l0 x7_1).f1.f1)))) := ⟨fa⟩
            (try clear BK115)
            (try clear HB)
            generalize (((w14.setCell ⟨gb115, 0, none⟩ (.string ((rd_T47 l0 x7_1).f0))).setCell ⟨gb115, 1, none⟩ (.int .i64 ((rd_T47 l0 x7_1).f1.f0))).setCell ⟨gb115, 2, none⟩ (.int .i64 ((rd_T47 l0 x7_1).f1.f1))) = w16 at n0_ n1_ ⊢
            have BK115 := n0_
            have HB := n1_
            clear n0_ n1_
            have n0_ := Fa.mk (blk_drew BK115.out)
            have n1_ := Fa.mk (below_drew1 HB.out)
            clear BK115 HB
            have BK115 := n0_
            have HB := n1_
            clear n0_ n1_
            have p117 : 0 ≤ ((ji8) : Int) := of_decide_eq_true (by first | (with_reducible assumption) | assumption)
            have q117 : (ji8) < (l0.length : Int) := of_decide_eq_true (by first | (with_reducible assumption) | assumption)
            obtain ⟨ad117, e117, hx117_0, hx117_1, hx117_2⟩ := at_T47 HR0.out (ji8) p117 q117
            have hw117_2 := hx117_2
            have hw117_1 := hx117_1
            have hw117_0 := hx117_0
            obtain rfl : ad114 = ad117 := (by injection e117)
            replace hx117_0 := (HB.out.cell (World.block_lt_of_cell? w _ hx117_0)).trans hx117_0
            replace hx117_1 := (HB.out.cell (World.block_lt_of_cell? w _ hx117_1)).trans hx117_1
            replace hx117_2 := (HB.out.cell (World.block_lt_of_cell? w _ hx117_2)).trans hx117_2
            replace p117 := eq_true p117
            replace q117 := eq_true q117
            refine startU 25 (S := fun w' => w'.cell? ⟨gb115, 0, none⟩ = some (.string ((rd_T47 l0 x7_1).f0)) ∧ w'.cell? ⟨gb115, 1, none⟩ = some (.int .i64 ((rd_T47 l0 x7_1).f1.f0)) ∧ w'.cell? ⟨gb115, 2, none⟩ = some (.int .i64 ((rd_T47 l0 x7_1).f1.f1)) ∧ w'.cell? (ad114.add (((ji8)).toNat * 3)) = some (.string ((rd_T47 l0 (ji8)).f0)) ∧ w'.cell? ⟨(ad114.add (((ji8)).toNat * 3)).block, (ad114.add (((ji8)).toNat * 3)).off + 1, none⟩ = some (.int .i64 ((rd_T47 l0 (ji8)).f1.f0)) ∧ w'.cell? ⟨(ad114.add (((ji8)).toNat * 3)).block, (ad114.add (((ji8)).toNat * 3)).off + 2, none⟩ = some (.int .i64 ((rd_T47 l0 (ji8)).f1.f1))) (ds := []) ⟨(blk_cell BK115.out 0).trans rfl, (blk_cell BK115.out 1).trans rfl, (blk_cell BK115.out 2).trans rfl, ((HB.out.cell (World.block_lt_of_cell? w _ hw117_0)).trans hw117_0), ((HB.out.cell (World.block_lt_of_cell? w _ hw117_1)).trans hw117_1), ((HB.out.cell (World.block_lt_of_cell? w _ hw117_2)).trans hw117_2)⟩ (fun hHeld => ?_); refine with_tabW linear_rising.tab4 linear_rising.bits4 (fun HT_ HW_ => ?_)
            generalize w16.drew = w17 at BK115 HB hx117_0 hx117_1 hx117_2 hHeld ⊢
            refine pureU 0 (some 12) (upto 25 1) HT_ ?_
            refine takeU 1 (some 13) (upto 25 2) HT_ HW_ hHeld rfl (by rintro w' ⟨s0, s1, s2, s3, s4, s5⟩; go_simp; with_reducible rfl) ?_
            refine oneU 2 (some 14) (upto 25 3) HT_ (fun K hK => ?_)
            refine goes_ Tryz.func51 (by kernel_rfl) rfl #[.string ((rd_T47 l0 x7_1).f0)] (by rfl) rfl rfl (by (try simp only [List.map_toArray, List.map_cons, List.map_nil]); first | done | rfl | (simp only [List.length_drop, List.length_take]; rfl)) ?_
            with_reducible refine (linear_Named.calls ((rd_T47 l0 x7_1).f0) true _ A5.out).mono ?_
            rintro e w18 ⟨rfl, hb⟩
            refine ⟨_, rfl, ?_⟩
            have n0_ := Fa.mk (blk_below (g := gb115) (o := .cells #[.string ((rd_T47 l0 x7_1).f0), .int .i64 ((rd_T47 l0 x7_1).f1.f0), .int .i64 ((rd_T47 l0 x7_1).f1.f1)] 47 (0, 0)) fa hb)
            have n1_ := Fa.mk (bst w hb)
            clear BK115 HB
            have BK115 := n0_
            have HB := n1_
            clear n0_ n1_
            (try clear hb)
            (try clear hb2)
            (try clear hk)
            (try clear hi)
            refine hK.out _ _ ⟨(blk_cell BK115.out 0).trans rfl, (blk_cell BK115.out 1).trans rfl, (blk_cell BK115.out 2).trans rfl, ((HB.out.cell (World.block_lt_of_cell? w _ hw117_0)).trans hw117_0), ((HB.out.cell (World.block_lt_of_cell? w _ hw117_1)).trans hw117_1), ((HB.out.cell (World.block_lt_of_cell? w _ hw117_2)).trans hw117_2)⟩ (fun hHeld => ?_)
            clear hK K
            refine normU (some 14) ?_
            refine pureU 3 (some 15) (upto 25 4) HT_ ?_
            refine pureU 4 (some 16) (upto 25 5) HT_ ?_
            refine pureU 5 (some 17) (upto 25 6) HT_ ?_
            refine pureU 6 (some 18) (upto 25 7) HT_ ?_
            refine pureU 7 (some 19) (upto 25 8) HT_ ?_
            refine pureU 8 (some 20) (upto 25 9) HT_ ?_
            refine pureU 9 (some 21) (upto 25 10) HT_ ?_
            refine pureU 10 (some 22) (upto 25 11) HT_ ?_
            refine pureU 11 (some 23) (upto 25 12) HT_ ?_
            refine pureU 12 (some 24) (upto 25 13) HT_ ?_
            refine pureU 14 (some 26) #[true, true, true, true, true, true, true, true, true, true, true, true, true, false, true, false, false, false, false, false, false, false, false, false, false] HT_ ?_
            refine takeU 13 (some 25) (upto 25 15) HT_ HW_ hHeld rfl (by rintro w' ⟨s0, s1, s2, s3, s4, s5⟩; go_simp; with_reducible rfl) ?_
            refine takeU 15 (some 27) (upto 25 16) HT_ HW_ hHeld rfl (by rintro w' ⟨s0, s1, s2, s3, s4, s5⟩; go_simp; with_reducible rfl) ?_
            refine pureU 16 (some 28) (upto 25 17) HT_ ?_
            refine pureU 17 (some 29) (upto 25 18) HT_ ?_
            refine pureU 18 (some 30) (upto 25 19) HT_ ?_
            refine pureU 19 (some 31) (upto 25 20) HT_ ?_
            refine pureU 20 (some 32) (upto 25 21) HT_ ?_
            refine takeU 21 (some 33) (upto 25 22) HT_ HW_ hHeld rfl (by rintro w' ⟨s0, s1, s2, s3, s4, s5⟩; go_simp; with_reducible rfl) ?_
            refine oneU 22 (some 34) (upto 25 23) HT_ (fun K hK => ?_)
            refine goes_ Tryz.func44 (by kernel_rfl) rfl #[.agg #[.int .i64 ((rd_T47 l0 x7_1).f1.f0), .int .i64 ((rd_T47 l0 x7_1).f1.f1)]] (by rfl) rfl rfl (by (try simp only [List.map_toArray, List.map_cons, List.map_nil]); first | done | rfl | (simp only [List.length_drop, List.length_take]; rfl)) ?_
            with_reducible refine (num_Valid.calls k1 ((rd_T47 l0 x7_1).f1.f0) ((rd_T47 l0 x7_1).f1.f1) true _ A12.out).mono ?_
            rintro e w19 ⟨rfl, hb⟩
            refine ⟨_, rfl, ?_⟩
            have n0_ := Fa.mk (blk_below (g := gb115) (o := .cells #[.string ((rd_T47 l0 x7_1).f0), .int .i64 ((rd_T47 l0 x7_1).f1.f0), .int .i64 ((rd_T47 l0 x7_1).f1.f1)] 47 (0, 0)) fa hb)
            have n1_ := Fa.mk (bst w hb)
            clear BK115 HB
            have BK115 := n0_
            have HB := n1_
            clear n0_ n1_
            (try clear hb)
            (try clear hb2)
            (try clear hk)
            (try clear hi)
            refine hK.out _ _ ⟨(blk_cell BK115.out 0).trans rfl, (blk_cell BK115.out 1).trans rfl, (blk_cell BK115.out 2).trans rfl, ((HB.out.cell (World.block_lt_of_cell? w _ hw117_0)).trans hw117_0), ((HB.out.cell (World.block_lt_of_cell? w _ hw117_1)).trans hw117_1), ((HB.out.cell (World.block_lt_of_cell? w _ hw117_2)).trans hw117_2)⟩ (fun hHeld => ?_)
            clear hK K
            refine normU (some 34) ?_
            refine pureU 23 (some 35) (upto 25 24) HT_ ?_
            refine pureU 24 (some 36) (upto 25 25) HT_ ?_
            refine done_ (done_of HT_.out (by kernel_rfl)) ?_
            try go_wp2
            go_roundg k1
            case measure => have := HK1.out; omega
            case rel => exact ⟨(wrap64 (x7_1 + 1)), (by first | rfl | (simp; done) | (simp [*]; done)), H', ⟨by have := HK1.out; omega⟩, ⟨fa⟩⟩
           ·
            replace c13 := Bool.eq_false_iff.mpr c13
            subst c13
            rw [if_neg (show ¬ (false = true) by decide)] at H
            obtain rfl := Option.some.inj H
            have p114 : 0 ≤ (x7_1 : Int) := of_decide_eq_true (by first | (with_reducible assumption) | assumption)
            have q114 : x7_1 < (l0.length : Int) := of_decide_eq_true (by first | (with_reducible assumption) | assumption)
            obtain ⟨ad114, e114, hx114_0, hx114_1, hx114_2⟩ := at_T47 HR0.out x7_1 p114 q114
            cases e114
            replace hx114_0 := (HB.out.cell (World.block_lt_of_cell? w _ hx114_0)).trans hx114_0
            replace hx114_1 := (HB.out.cell (World.block_lt_of_cell? w _ hx114_1)).trans hx114_1
            replace hx114_2 := (HB.out.cell (World.block_lt_of_cell? w _ hx114_2)).trans hx114_2
            replace p114 := eq_true p114
            replace q114 := eq_true q114
            try go_wp2_with (first | ((with_reducible refine gate_dst (N := 4) rfl ?_); refine boxF (N := 4) (cs := #[.string (⟨#[]⟩ : ByteArray), .int .i64 0, .int .i64 0]) (t := 47) ?_; intro gb115 hg w20 hbox hb; have n0_ := Fa.mk (bst w hb); have n1_ := Fa.mk (hbox); have n2_ := Fa.mk (gle hg : w.heap.size ≤ gb115); have n3_ := n2_; clear HB; have HB := n0_; have BK115 := n1_; have GW115 := n2_; have GE115 := n3_; clear n0_ n1_ n2_ n3_; clear hb hbox hg; have hcz21_0 := jcell BK115.out (i := 0) rfl; have hcz21_1 := jcell BK115.out (i := 1) rfl; have hcz21_2 := jcell BK115.out (i := 2) rfl; have hfz21_0 := blk_frozen BK115.out 0; have hfz21_1 := blk_frozen BK115.out 1; have hfz21_2 := blk_frozen BK115.out 2))
            have n0_ : Fa ((((w20.setCell ⟨gb115, 0, none⟩ (.string ((rd_T47 l0 x7_1).f0))).setCell ⟨gb115, 1, none⟩ (.int .i64 ((rd_T47 l0 x7_1).f1.f0))).setCell ⟨gb115, 2, none⟩ (.int .i64 ((rd_T47 l0 x7_1).f1.f1))).heap[gb115]? = some (.cells #[.string ((rd_T47 l0 x7_1).f0), .int .i64 ((rd_T47 l0 x7_1).f1.f0), .int .i64 ((rd_T47 l0 x7_1).f1.f1)] 47 (0, 0))) := ⟨by (with_reducible repeat (first | refine blk_drewN ?_ _ | refine blk_drew ?_ | refine blk_alloc ?_ _)); refine blk_put (cs := #[.string ((rd_T47 l0 x7_1).f0), .int .i64 ((rd_T47 l0 x7_1).f1.f0), .int .i64 0]) ?_ 2 _ rfl; (with_reducible repeat (first | refine blk_drewN ?_ _ | refine blk_drew ?_ | refine blk_alloc ?_ _)); refine blk_put (cs := #[.string ((rd_T47 l0 x7_1).f0), .int .i64 0, .int .i64 0]) ?_ 1 _ rfl; (with_reducible repeat (first | refine blk_drewN ?_ _ | refine blk_drew ?_ | refine blk_alloc ?_ _)); refine blk_put (cs := #[.string (⟨#[]⟩ : ByteArray), .int .i64 0, .int .i64 0]) ?_ 0 _ rfl; (with_reducible repeat (first | refine blk_drewN ?_ _ | refine blk_drew ?_ | refine blk_alloc ?_ _)); exact fa⟩
            have n1_ : Fa (Below w.heap.size w (((w20.setCell ⟨gb115, 0, none⟩ (.string ((rd_T47 l0 x7_1).f0))).setCell ⟨gb115, 1, none⟩ (.int .i64 ((rd_T47 l0 x7_1).f1.f0))).setCell ⟨gb115, 2, none⟩ (.int .i64 ((rd_T47 l0 x7_1).f1.f1)))) := ⟨fa⟩
            (try clear BK115)
            (try clear HB)
            generalize (((w20.setCell ⟨gb115, 0, none⟩ (.string ((rd_T47 l0 x7_1).f0))).setCell ⟨gb115, 1, none⟩ (.int .i64 ((rd_T47 l0 x7_1).f1.f0))).setCell ⟨gb115, 2, none⟩ (.int .i64 ((rd_T47 l0 x7_1).f1.f1))) = w22 at n0_ n1_ ⊢
            have BK115 := n0_
            have HB := n1_
            clear n0_ n1_
            have n0_ := Fa.mk (blk_drew BK115.out)
            have n1_ := Fa.mk (below_drew1 HB.out)
            clear BK115 HB
            have BK115 := n0_
            have HB := n1_
            clear n0_ n1_
            have p117 : 0 ≤ ((ji8) : Int) := of_decide_eq_true (by first | (with_reducible assumption) | assumption)
            have q117 : (ji8) < (l0.length : Int) := of_decide_eq_true (by first | (with_reducible assumption) | assumption)
            obtain ⟨ad117, e117, hx117_0, hx117_1, hx117_2⟩ := at_T47 HR0.out (ji8) p117 q117
            have hw117_2 := hx117_2
            have hw117_1 := hx117_1
            have hw117_0 := hx117_0
            obtain rfl : ad114 = ad117 := (by injection e117)
            replace hx117_0 := (HB.out.cell (World.block_lt_of_cell? w _ hx117_0)).trans hx117_0
            replace hx117_1 := (HB.out.cell (World.block_lt_of_cell? w _ hx117_1)).trans hx117_1
            replace hx117_2 := (HB.out.cell (World.block_lt_of_cell? w _ hx117_2)).trans hx117_2
            replace p117 := eq_true p117
            replace q117 := eq_true q117
            refine startU 25 (S := fun w' => w'.cell? ⟨gb115, 0, none⟩ = some (.string ((rd_T47 l0 x7_1).f0)) ∧ w'.cell? ⟨gb115, 1, none⟩ = some (.int .i64 ((rd_T47 l0 x7_1).f1.f0)) ∧ w'.cell? ⟨gb115, 2, none⟩ = some (.int .i64 ((rd_T47 l0 x7_1).f1.f1)) ∧ w'.cell? (ad114.add (((ji8)).toNat * 3)) = some (.string ((rd_T47 l0 (ji8)).f0)) ∧ w'.cell? ⟨(ad114.add (((ji8)).toNat * 3)).block, (ad114.add (((ji8)).toNat * 3)).off + 1, none⟩ = some (.int .i64 ((rd_T47 l0 (ji8)).f1.f0)) ∧ w'.cell? ⟨(ad114.add (((ji8)).toNat * 3)).block, (ad114.add (((ji8)).toNat * 3)).off + 2, none⟩ = some (.int .i64 ((rd_T47 l0 (ji8)).f1.f1))) (ds := []) ⟨(blk_cell BK115.out 0).trans rfl, (blk_cell BK115.out 1).trans rfl, (blk_cell BK115.out 2).trans rfl, ((HB.out.cell (World.block_lt_of_cell? w _ hw117_0)).trans hw117_0), ((HB.out.cell (World.block_lt_of_cell? w _ hw117_1)).trans hw117_1), ((HB.out.cell (World.block_lt_of_cell? w _ hw117_2)).trans hw117_2)⟩ (fun hHeld => ?_); refine with_tabW linear_rising.tab4 linear_rising.bits4 (fun HT_ HW_ => ?_)
            generalize w22.drew = w23 at BK115 HB hx117_0 hx117_1 hx117_2 hHeld ⊢
            refine pureU 0 (some 12) (upto 25 1) HT_ ?_
            refine takeU 1 (some 13) (upto 25 2) HT_ HW_ hHeld rfl (by rintro w' ⟨s0, s1, s2, s3, s4, s5⟩; go_simp; with_reducible rfl) ?_
            refine oneU 2 (some 14) (upto 25 3) HT_ (fun K hK => ?_)
            refine goes_ Tryz.func51 (by kernel_rfl) rfl #[.string ((rd_T47 l0 x7_1).f0)] (by rfl) rfl rfl (by (try simp only [List.map_toArray, List.map_cons, List.map_nil]); first | done | rfl | (simp only [List.length_drop, List.length_take]; rfl)) ?_
            with_reducible refine (linear_Named.calls ((rd_T47 l0 x7_1).f0) true _ A5.out).mono ?_
            rintro e w24 ⟨rfl, hb⟩
            refine ⟨_, rfl, ?_⟩
            have n0_ := Fa.mk (blk_below (g := gb115) (o := .cells #[.string ((rd_T47 l0 x7_1).f0), .int .i64 ((rd_T47 l0 x7_1).f1.f0), .int .i64 ((rd_T47 l0 x7_1).f1.f1)] 47 (0, 0)) fa hb)
            have n1_ := Fa.mk (bst w hb)
            clear BK115 HB
            have BK115 := n0_
            have HB := n1_
            clear n0_ n1_
            (try clear hb)
            (try clear hb2)
            (try clear hk)
            (try clear hi)
            refine hK.out _ _ ⟨(blk_cell BK115.out 0).trans rfl, (blk_cell BK115.out 1).trans rfl, (blk_cell BK115.out 2).trans rfl, ((HB.out.cell (World.block_lt_of_cell? w _ hw117_0)).trans hw117_0), ((HB.out.cell (World.block_lt_of_cell? w _ hw117_1)).trans hw117_1), ((HB.out.cell (World.block_lt_of_cell? w _ hw117_2)).trans hw117_2)⟩ (fun hHeld => ?_)
            clear hK K
            refine normU (some 14) ?_
            refine pureU 3 (some 15) (upto 25 4) HT_ ?_
            refine pureU 4 (some 16) (upto 25 5) HT_ ?_
            refine pureU 5 (some 17) (upto 25 6) HT_ ?_
            refine pureU 6 (some 18) (upto 25 7) HT_ ?_
            refine pureU 7 (some 19) (upto 25 8) HT_ ?_
            refine pureU 8 (some 20) (upto 25 9) HT_ ?_
            refine pureU 9 (some 21) (upto 25 10) HT_ ?_
            refine pureU 10 (some 22) (upto 25 11) HT_ ?_
            refine pureU 11 (some 23) (upto 25 12) HT_ ?_
            refine pureU 12 (some 24) (upto 25 13) HT_ ?_
            refine pureU 14 (some 26) #[true, true, true, true, true, true, true, true, true, true, true, true, true, false, true, false, false, false, false, false, false, false, false, false, false] HT_ ?_
            refine takeU 13 (some 25) (upto 25 15) HT_ HW_ hHeld rfl (by rintro w' ⟨s0, s1, s2, s3, s4, s5⟩; go_simp; with_reducible rfl) ?_
            refine takeU 15 (some 27) (upto 25 16) HT_ HW_ hHeld rfl (by rintro w' ⟨s0, s1, s2, s3, s4, s5⟩; go_simp; with_reducible rfl) ?_
            refine pureU 16 (some 28) (upto 25 17) HT_ ?_
            refine pureU 17 (some 29) (upto 25 18) HT_ ?_
            refine pureU 18 (some 30) (upto 25 19) HT_ ?_
            refine pureU 19 (some 31) (upto 25 20) HT_ ?_
            refine pureU 20 (some 32) (upto 25 21) HT_ ?_
            refine takeU 21 (some 33) (upto 25 22) HT_ HW_ hHeld rfl (by rintro w' ⟨s0, s1, s2, s3, s4, s5⟩; go_simp; with_reducible rfl) ?_
            refine oneU 22 (some 34) (upto 25 23) HT_ (fun K hK => ?_)
            refine goes_ Tryz.func44 (by kernel_rfl) rfl #[.agg #[.int .i64 ((rd_T47 l0 x7_1).f1.f0), .int .i64 ((rd_T47 l0 x7_1).f1.f1)]] (by rfl) rfl rfl (by (try simp only [List.map_toArray, List.map_cons, List.map_nil]); first | done | rfl | (simp only [List.length_drop, List.length_take]; rfl)) ?_
            with_reducible refine (num_Valid.calls k1 ((rd_T47 l0 x7_1).f1.f0) ((rd_T47 l0 x7_1).f1.f1) false _ A12.out).mono ?_
            rintro e w25 ⟨rfl, hb⟩
            refine ⟨_, rfl, ?_⟩
            have n0_ := Fa.mk (blk_below (g := gb115) (o := .cells #[.string ((rd_T47 l0 x7_1).f0), .int .i64 ((rd_T47 l0 x7_1).f1.f0), .int .i64 ((rd_T47 l0 x7_1).f1.f1)] 47 (0, 0)) fa hb)
            have n1_ := Fa.mk (bst w hb)
            clear BK115 HB
            have BK115 := n0_
            have HB := n1_
            clear n0_ n1_
            (try clear hb)
            (try clear hb2)
            (try clear hk)
            (try clear hi)
            refine hK.out _ _ ⟨(blk_cell BK115.out 0).trans rfl, (blk_cell BK115.out 1).trans rfl, (blk_cell BK115.out 2).trans rfl, ((HB.out.cell (World.block_lt_of_cell? w _ hw117_0)).trans hw117_0), ((HB.out.cell (World.block_lt_of_cell? w _ hw117_1)).trans hw117_1), ((HB.out.cell (World.block_lt_of_cell? w _ hw117_2)).trans hw117_2)⟩ (fun hHeld => ?_)
            clear hK K
            refine normU (some 34) ?_
            refine pureU 23 (some 35) (upto 25 24) HT_ ?_
            refine pureU 24 (some 36) (upto 25 25) HT_ ?_
            refine done_ (done_of HT_.out (by kernel_rfl)) ?_
            try go_wp2
            go_ret
            exact ⟨by first | rfl | (simp [errW_none, errW_some] <;> rfl) | (simp only [← hji8]; first | rfl | (simp [errW_none, errW_some] <;> rfl)) | (simp [*, errW_none, errW_some] <;> rfl), fa⟩
          ·
           rw [if_neg c11] at H
           have c11b0 : (Op.bytesLess (((rd_T47 l0 (ji8)).f0).toList) (((rd_T47 l0 x7_1).f0).toList)) = false := by simpa using c11
           clear c11
           obtain rfl := Option.some.inj H
           have p114 : 0 ≤ (x7_1 : Int) := of_decide_eq_true (by first | (with_reducible assumption) | assumption)
           have q114 : x7_1 < (l0.length : Int) := of_decide_eq_true (by first | (with_reducible assumption) | assumption)
           obtain ⟨ad114, e114, hx114_0, hx114_1, hx114_2⟩ := at_T47 HR0.out x7_1 p114 q114
           cases e114
           replace hx114_0 := (HB.out.cell (World.block_lt_of_cell? w _ hx114_0)).trans hx114_0
           replace hx114_1 := (HB.out.cell (World.block_lt_of_cell? w _ hx114_1)).trans hx114_1
           replace hx114_2 := (HB.out.cell (World.block_lt_of_cell? w _ hx114_2)).trans hx114_2
           replace p114 := eq_true p114
           replace q114 := eq_true q114
           try go_wp2_with (first | ((with_reducible refine gate_dst (N := 4) rfl ?_); refine boxF (N := 4) (cs := #[.string (⟨#[]⟩ : ByteArray), .int .i64 0, .int .i64 0]) (t := 47) ?_; intro gb115 hg w26 hbox hb; have n0_ := Fa.mk (bst w hb); have n1_ := Fa.mk (hbox); have n2_ := Fa.mk (gle hg : w.heap.size ≤ gb115); have n3_ := n2_; clear HB; have HB := n0_; have BK115 := n1_; have GW115 := n2_; have GE115 := n3_; clear n0_ n1_ n2_ n3_; clear hb hbox hg; have hcz27_0 := jcell BK115.out (i := 0) rfl; have hcz27_1 := jcell BK115.out (i := 1) rfl; have hcz27_2 := jcell BK115.out (i := 2) rfl; have hfz27_0 := blk_frozen BK115.out 0; have hfz27_1 := blk_frozen BK115.out 1; have hfz27_2 := blk_frozen BK115.out 2))
           have n0_ : Fa ((((w26.setCell ⟨gb115, 0, none⟩ (.string ((rd_T47 l0 x7_1).f0))).setCell ⟨gb115, 1, none⟩ (.int .i64 ((rd_T47 l0 x7_1).f1.f0))).setCell ⟨gb115, 2, none⟩ (.int .i64 ((rd_T47 l0 x7_1).f1.f1))).heap[gb115]? = some (.cells #[.string ((rd_T47 l0 x7_1).f0), .int .i64 ((rd_T47 l0 x7_1).f1.f0), .int .i64 ((rd_T47 l0 x7_1).f1.f1)] 47 (0, 0))) := ⟨by (with_reducible repeat (first | refine blk_drewN ?_ _ | refine blk_drew ?_ | refine blk_alloc ?_ _)); refine blk_put (cs := #[.string ((rd_T47 l0 x7_1).f0), .int .i64 ((rd_T47 l0 x7_1).f1.f0), .int .i64 0]) ?_ 2 _ rfl; (with_reducible repeat (first | refine blk_drewN ?_ _ | refine blk_drew ?_ | refine blk_alloc ?_ _)); refine blk_put (cs := #[.string ((rd_T47 l0 x7_1).f0), .int .i64 0, .int .i64 0]) ?_ 1 _ rfl; (with_reducible repeat (first | refine blk_drewN ?_ _ | refine blk_drew ?_ | refine blk_alloc ?_ _)); refine blk_put (cs := #[.string (⟨#[]⟩ : ByteArray), .int .i64 0, .int .i64 0]) ?_ 0 _ rfl; (with_reducible repeat (first | refine blk_drewN ?_ _ | refine blk_drew ?_ | refine blk_alloc ?_ _)); exact fa⟩
           have n1_ : Fa (Below w.heap.size w (((w26.setCell ⟨gb115, 0, none⟩ (.string ((rd_T47 l0 x7_1).f0))).setCell ⟨gb115, 1, none⟩ (.int .i64 ((rd_T47 l0 x7_1).f1.f0))).setCell ⟨gb115, 2, none⟩ (.int .i64 ((rd_T47 l0 x7_1).f1.f1)))) := ⟨fa⟩
           (try clear BK115)
           (try clear HB)
           generalize (((w26.setCell ⟨gb115, 0, none⟩ (.string ((rd_T47 l0 x7_1).f0))).setCell ⟨gb115, 1, none⟩ (.int .i64 ((rd_T47 l0 x7_1).f1.f0))).setCell ⟨gb115, 2, none⟩ (.int .i64 ((rd_T47 l0 x7_1).f1.f1))) = w28 at n0_ n1_ ⊢
           have BK115 := n0_
           have HB := n1_
           clear n0_ n1_
           have n0_ := Fa.mk (blk_drew BK115.out)
           have n1_ := Fa.mk (below_drew1 HB.out)
           clear BK115 HB
           have BK115 := n0_
           have HB := n1_
           clear n0_ n1_
           have p117 : 0 ≤ ((ji8) : Int) := of_decide_eq_true (by first | (with_reducible assumption) | assumption)
           have q117 : (ji8) < (l0.length : Int) := of_decide_eq_true (by first | (with_reducible assumption) | assumption)
           obtain ⟨ad117, e117, hx117_0, hx117_1, hx117_2⟩ := at_T47 HR0.out (ji8) p117 q117
           have hw117_2 := hx117_2
           have hw117_1 := hx117_1
           have hw117_0 := hx117_0
           obtain rfl : ad114 = ad117 := (by injection e117)
           replace hx117_0 := (HB.out.cell (World.block_lt_of_cell? w _ hx117_0)).trans hx117_0
           replace hx117_1 := (HB.out.cell (World.block_lt_of_cell? w _ hx117_1)).trans hx117_1
           replace hx117_2 := (HB.out.cell (World.block_lt_of_cell? w _ hx117_2)).trans hx117_2
           replace p117 := eq_true p117
           replace q117 := eq_true q117
           refine startU 25 (S := fun w' => w'.cell? ⟨gb115, 0, none⟩ = some (.string ((rd_T47 l0 x7_1).f0)) ∧ w'.cell? ⟨gb115, 1, none⟩ = some (.int .i64 ((rd_T47 l0 x7_1).f1.f0)) ∧ w'.cell? ⟨gb115, 2, none⟩ = some (.int .i64 ((rd_T47 l0 x7_1).f1.f1)) ∧ w'.cell? (ad114.add (((ji8)).toNat * 3)) = some (.string ((rd_T47 l0 (ji8)).f0)) ∧ w'.cell? ⟨(ad114.add (((ji8)).toNat * 3)).block, (ad114.add (((ji8)).toNat * 3)).off + 1, none⟩ = some (.int .i64 ((rd_T47 l0 (ji8)).f1.f0)) ∧ w'.cell? ⟨(ad114.add (((ji8)).toNat * 3)).block, (ad114.add (((ji8)).toNat * 3)).off + 2, none⟩ = some (.int .i64 ((rd_T47 l0 (ji8)).f1.f1))) (ds := []) ⟨(blk_cell BK115.out 0).trans rfl, (blk_cell BK115.out 1).trans rfl, (blk_cell BK115.out 2).trans rfl, ((HB.out.cell (World.block_lt_of_cell? w _ hw117_0)).trans hw117_0), ((HB.out.cell (World.block_lt_of_cell? w _ hw117_1)).trans hw117_1), ((HB.out.cell (World.block_lt_of_cell? w _ hw117_2)).trans hw117_2)⟩ (fun hHeld => ?_); refine with_tabW linear_rising.tab4 linear_rising.bits4 (fun HT_ HW_ => ?_)
           generalize w28.drew = w29 at BK115 HB hx117_0 hx117_1 hx117_2 hHeld ⊢
           refine pureU 0 (some 12) (upto 25 1) HT_ ?_
           refine takeU 1 (some 13) (upto 25 2) HT_ HW_ hHeld rfl (by rintro w' ⟨s0, s1, s2, s3, s4, s5⟩; go_simp; with_reducible rfl) ?_
           refine oneU 2 (some 14) (upto 25 3) HT_ (fun K hK => ?_)
           refine goes_ Tryz.func51 (by kernel_rfl) rfl #[.string ((rd_T47 l0 x7_1).f0)] (by rfl) rfl rfl (by (try simp only [List.map_toArray, List.map_cons, List.map_nil]); first | done | rfl | (simp only [List.length_drop, List.length_take]; rfl)) ?_
           with_reducible refine (linear_Named.calls ((rd_T47 l0 x7_1).f0) true _ A5.out).mono ?_
           rintro e w30 ⟨rfl, hb⟩
           refine ⟨_, rfl, ?_⟩
           have n0_ := Fa.mk (blk_below (g := gb115) (o := .cells #[.string ((rd_T47 l0 x7_1).f0), .int .i64 ((rd_T47 l0 x7_1).f1.f0), .int .i64 ((rd_T47 l0 x7_1).f1.f1)] 47 (0, 0)) fa hb)
           have n1_ := Fa.mk (bst w hb)
           clear BK115 HB
           have BK115 := n0_
           have HB := n1_
           clear n0_ n1_
           (try clear hb)
           (try clear hb2)
           (try clear hk)
           (try clear hi)
           refine hK.out _ _ ⟨(blk_cell BK115.out 0).trans rfl, (blk_cell BK115.out 1).trans rfl, (blk_cell BK115.out 2).trans rfl, ((HB.out.cell (World.block_lt_of_cell? w _ hw117_0)).trans hw117_0), ((HB.out.cell (World.block_lt_of_cell? w _ hw117_1)).trans hw117_1), ((HB.out.cell (World.block_lt_of_cell? w _ hw117_2)).trans hw117_2)⟩ (fun hHeld => ?_)
           clear hK K
           refine normU (some 14) ?_
           refine pureU 3 (some 15) (upto 25 4) HT_ ?_
           refine pureU 4 (some 16) (upto 25 5) HT_ ?_
           refine pureU 5 (some 17) (upto 25 6) HT_ ?_
           refine pureU 6 (some 18) (upto 25 7) HT_ ?_
           refine pureU 7 (some 19) (upto 25 8) HT_ ?_
           refine pureU 8 (some 20) (upto 25 9) HT_ ?_
           refine pureU 9 (some 21) (upto 25 10) HT_ ?_
           refine pureU 10 (some 22) (upto 25 11) HT_ ?_
           refine pureU 11 (some 23) (upto 25 12) HT_ ?_
           refine pureU 12 (some 24) (upto 25 13) HT_ ?_
           refine pureU 14 (some 26) #[true, true, true, true, true, true, true, true, true, true, true, true, true, false, true, false, false, false, false, false, false, false, false, false, false] HT_ ?_
           refine takeU 13 (some 25) (upto 25 15) HT_ HW_ hHeld rfl (by rintro w' ⟨s0, s1, s2, s3, s4, s5⟩; go_simp; with_reducible rfl) ?_
           refine takeU 15 (some 27) (upto 25 16) HT_ HW_ hHeld rfl (by rintro w' ⟨s0, s1, s2, s3, s4, s5⟩; go_simp; with_reducible rfl) ?_
           refine pureU 16 (some 28) (upto 25 17) HT_ ?_
           refine pureU 17 (some 29) (upto 25 18) HT_ ?_
           refine pureU 18 (some 30) (upto 25 19) HT_ ?_
           refine pureU 19 (some 31) (upto 25 20) HT_ ?_
           refine offU 20 (some 32) (upto 25 21) HT_ ?_
           refine offU 21 (some 33) (upto 25 22) HT_ ?_
           refine offU 22 (some 34) (upto 25 23) HT_ ?_
           refine offU 23 (some 35) (upto 25 24) HT_ ?_
           refine pureU 24 (some 36) (upto 25 25) HT_ ?_
           refine done_ (done_of HT_.out (by kernel_rfl)) ?_
           try go_wp2
           go_ret
           exact ⟨by first | rfl | (simp [errW_none, errW_some] <;> rfl) | (simp only [← hji8]; first | rfl | (simp [errW_none, errW_some] <;> rfl)) | (simp [*, errW_none, errW_some] <;> rfl), fa⟩
         ·
          rw [if_neg c10] at H
          exact absurd H (by simp)
        ·
         rw [if_neg c9] at H
         exact absurd H (by simp)
       ·
        rw [if_neg c7] at H
        have c7b0 : decide (0 < x7_1) = false := decide_eq_false c7
        clear c7
        replace H := Option.bind_eq_some_iff.mp H
        obtain ⟨t119, A310, H⟩ := H
        (try dsimp only at H)
        have A31 := Fa.mk A310
        clear A310
        by_cases c32 : t119 = true
        ·
         subst c32
         rw [if_pos rfl] at H
         have H' := Fa.mk H
         clear H
         have p114 : 0 ≤ (x7_1 : Int) := of_decide_eq_true (by first | (with_reducible assumption) | assumption)
         have q114 : x7_1 < (l0.length : Int) := of_decide_eq_true (by first | (with_reducible assumption) | assumption)
         obtain ⟨ad114, e114, hx114_0, hx114_1, hx114_2⟩ := at_T47 HR0.out x7_1 p114 q114
         cases e114
         replace hx114_0 := (HB.out.cell (World.block_lt_of_cell? w _ hx114_0)).trans hx114_0
         replace hx114_1 := (HB.out.cell (World.block_lt_of_cell? w _ hx114_1)).trans hx114_1
         replace hx114_2 := (HB.out.cell (World.block_lt_of_cell? w _ hx114_2)).trans hx114_2
         replace p114 := eq_true p114
         replace q114 := eq_true q114
         try go_wp2_with (first | ((with_reducible refine gate_dst (N := 4) rfl ?_); refine boxF (N := 4) (cs := #[.string (⟨#[]⟩ : ByteArray), .int .i64 0, .int .i64 0]) (t := 47) ?_; intro gb115 hg w33 hbox hb; have n0_ := Fa.mk (bst w hb); have n1_ := Fa.mk (hbox); have n2_ := Fa.mk (gle hg : w.heap.size ≤ gb115); have n3_ := n2_; clear HB; have HB := n0_; have BK115 := n1_; have GW115 := n2_; have GE115 := n3_; clear n0_ n1_ n2_ n3_; clear hb hbox hg; have hcz34_0 := jcell BK115.out (i := 0) rfl; have hcz34_1 := jcell BK115.out (i := 1) rfl; have hcz34_2 := jcell BK115.out (i := 2) rfl; have hfz34_0 := blk_frozen BK115.out 0; have hfz34_1 := blk_frozen BK115.out 1; have hfz34_2 := blk_frozen BK115.out 2))
         have n0_ : Fa ((((w33.setCell ⟨gb115, 0, none⟩ (.string ((rd_T47 l0 x7_1).f0))).setCell ⟨gb115, 1, none⟩ (.int .i64 ((rd_T47 l0 x7_1).f1.f0))).setCell ⟨gb115, 2, none⟩ (.int .i64 ((rd_T47 l0 x7_1).f1.f1))).heap[gb115]? = some (.cells #[.string ((rd_T47 l0 x7_1).f0), .int .i64 ((rd_T47 l0 x7_1).f1.f0), .int .i64 ((rd_T47 l0 x7_1).f1.f1)] 47 (0, 0))) := ⟨by (with_reducible repeat (first | refine blk_drewN ?_ _ | refine blk_drew ?_ | refine blk_alloc ?_ _)); refine blk_put (cs := #[.string ((rd_T47 l0 x7_1).f0), .int .i64 ((rd_T47 l0 x7_1).f1.f0), .int .i64 0]) ?_ 2 _ rfl; (with_reducible repeat (first | refine blk_drewN ?_ _ | refine blk_drew ?_ | refine blk_alloc ?_ _)); refine blk_put (cs := #[.string ((rd_T47 l0 x7_1).f0), .int .i64 0, .int .i64 0]) ?_ 1 _ rfl; (with_reducible repeat (first | refine blk_drewN ?_ _ | refine blk_drew ?_ | refine blk_alloc ?_ _)); refine blk_put (cs := #[.string (⟨#[]⟩ : ByteArray), .int .i64 0, .int .i64 0]) ?_ 0 _ rfl; (with_reducible repeat (first | refine blk_drewN ?_ _ | refine blk_drew ?_ | refine blk_alloc ?_ _)); exact fa⟩
         have n1_ : Fa (Below w.heap.size w (((w33.setCell ⟨gb115, 0, none⟩ (.string ((rd_T47 l0 x7_1).f0))).setCell ⟨gb115, 1, none⟩ (.int .i64 ((rd_T47 l0 x7_1).f1.f0))).setCell ⟨gb115, 2, none⟩ (.int .i64 ((rd_T47 l0 x7_1).f1.f1)))) := ⟨fa⟩
         (try clear BK115)
         (try clear HB)
         generalize (((w33.setCell ⟨gb115, 0, none⟩ (.string ((rd_T47 l0 x7_1).f0))).setCell ⟨gb115, 1, none⟩ (.int .i64 ((rd_T47 l0 x7_1).f1.f0))).setCell ⟨gb115, 2, none⟩ (.int .i64 ((rd_T47 l0 x7_1).f1.f1))) = w35 at n0_ n1_ ⊢
         have BK115 := n0_
         have HB := n1_
         clear n0_ n1_
         have n0_ := Fa.mk (blk_drew BK115.out)
         have n1_ := Fa.mk (below_drew1 HB.out)
         clear BK115 HB
         have BK115 := n0_
         have HB := n1_
         clear n0_ n1_
         refine startU 25 (S := fun w' => w'.cell? ⟨gb115, 0, none⟩ = some (.string ((rd_T47 l0 x7_1).f0)) ∧ w'.cell? ⟨gb115, 1, none⟩ = some (.int .i64 ((rd_T47 l0 x7_1).f1.f0)) ∧ w'.cell? ⟨gb115, 2, none⟩ = some (.int .i64 ((rd_T47 l0 x7_1).f1.f1))) (ds := []) ⟨(blk_cell BK115.out 0).trans rfl, (blk_cell BK115.out 1).trans rfl, (blk_cell BK115.out 2).trans rfl⟩ (fun hHeld => ?_); refine with_tabW linear_rising.tab4 linear_rising.bits4 (fun HT_ HW_ => ?_)
         generalize w35.drew = w36 at BK115 HB hHeld ⊢
         refine pureU 0 (some 12) (upto 25 1) HT_ ?_
         refine takeU 1 (some 13) (upto 25 2) HT_ HW_ hHeld rfl (by rintro w' ⟨s0, s1, s2⟩; go_simp; with_reducible rfl) ?_
         refine oneU 2 (some 14) (upto 25 3) HT_ (fun K hK => ?_)
         refine goes_ Tryz.func51 (by kernel_rfl) rfl #[.string ((rd_T47 l0 x7_1).f0)] (by rfl) rfl rfl (by (try simp only [List.map_toArray, List.map_cons, List.map_nil]); first | done | rfl | (simp only [List.length_drop, List.length_take]; rfl)) ?_
         with_reducible refine (linear_Named.calls ((rd_T47 l0 x7_1).f0) true _ A5.out).mono ?_
         rintro e w37 ⟨rfl, hb⟩
         refine ⟨_, rfl, ?_⟩
         have n0_ := Fa.mk (blk_below (g := gb115) (o := .cells #[.string ((rd_T47 l0 x7_1).f0), .int .i64 ((rd_T47 l0 x7_1).f1.f0), .int .i64 ((rd_T47 l0 x7_1).f1.f1)] 47 (0, 0)) fa hb)
         have n1_ := Fa.mk (bst w hb)
         clear BK115 HB
         have BK115 := n0_
         have HB := n1_
         clear n0_ n1_
         (try clear hb)
         (try clear hb2)
         (try clear hk)
         (try clear hi)
         refine hK.out _ _ ⟨(blk_cell BK115.out 0).trans rfl, (blk_cell BK115.out 1).trans rfl, (blk_cell BK115.out 2).trans rfl⟩ (fun hHeld => ?_)
         clear hK K
         refine normU (some 14) ?_
         refine pureU 3 (some 15) (upto 25 4) HT_ ?_
         refine pureU 4 (some 16) (upto 25 5) HT_ ?_
         refine pureU 5 (some 17) (upto 25 6) HT_ ?_
         refine pureU 6 (some 18) (upto 25 7) HT_ ?_
         refine pureU 7 (some 19) (upto 25 8) HT_ ?_
         refine offU 8 (some 20) (upto 25 9) HT_ ?_
         refine offU 9 (some 21) (upto 25 10) HT_ ?_
         refine offU 10 (some 22) (upto 25 11) HT_ ?_
         refine offU 11 (some 23) (upto 25 12) HT_ ?_
         refine offU 12 (some 24) (upto 25 13) HT_ ?_
         refine offU 13 (some 25) (upto 25 14) HT_ ?_
         refine offU 14 (some 26) (upto 25 15) HT_ ?_
         refine offU 15 (some 27) (upto 25 16) HT_ ?_
         refine offU 16 (some 28) (upto 25 17) HT_ ?_
         refine pureU 17 (some 29) (upto 25 18) HT_ ?_
         refine pureU 18 (some 30) (upto 25 19) HT_ ?_
         refine pureU 19 (some 31) (upto 25 20) HT_ ?_
         refine pureU 20 (some 32) (upto 25 21) HT_ ?_
         refine takeU 21 (some 33) (upto 25 22) HT_ HW_ hHeld rfl (by rintro w' ⟨s0, s1, s2⟩; go_simp; with_reducible rfl) ?_
         refine oneU 22 (some 34) (upto 25 23) HT_ (fun K hK => ?_)
         refine goes_ Tryz.func44 (by kernel_rfl) rfl #[.agg #[.int .i64 ((rd_T47 l0 x7_1).f1.f0), .int .i64 ((rd_T47 l0 x7_1).f1.f1)]] (by rfl) rfl rfl (by (try simp only [List.map_toArray, List.map_cons, List.map_nil]); first | done | rfl | (simp only [List.length_drop, List.length_take]; rfl)) ?_
         with_reducible refine (num_Valid.calls k1 ((rd_T47 l0 x7_1).f1.f0) ((rd_T47 l0 x7_1).f1.f1) true _ A31.out).mono ?_
         rintro e w38 ⟨rfl, hb⟩
         refine ⟨_, rfl, ?_⟩
         have n0_ := Fa.mk (blk_below (g := gb115) (o := .cells #[.string ((rd_T47 l0 x7_1).f0), .int .i64 ((rd_T47 l0 x7_1).f1.f0), .int .i64 ((rd_T47 l0 x7_1).f1.f1)] 47 (0, 0)) fa hb)
         have n1_ := Fa.mk (bst w hb)
         clear BK115 HB
         have BK115 := n0_
         have HB := n1_
         clear n0_ n1_
         (try clear hb)
         (try clear hb2)
         (try clear hk)
         (try clear hi)
         refine hK.out _ _ ⟨(blk_cell BK115.out 0).trans rfl, (blk_cell BK115.out 1).trans rfl, (blk_cell BK115.out 2).trans rfl⟩ (fun hHeld => ?_)
         clear hK K
         refine normU (some 34) ?_
         refine pureU 23 (some 35) (upto 25 24) HT_ ?_
         refine pureU 24 (some 36) (upto 25 25) HT_ ?_
         refine done_ (done_of HT_.out (by kernel_rfl)) ?_
         try go_wp2
         go_roundg k1
         case measure => have := HK1.out; omega
         case rel => exact ⟨(wrap64 (x7_1 + 1)), (by first | rfl | (simp; done) | (simp [*]; done)), H', ⟨by have := HK1.out; omega⟩, ⟨fa⟩⟩
        ·
         replace c32 := Bool.eq_false_iff.mpr c32
         subst c32
         rw [if_neg (show ¬ (false = true) by decide)] at H
         obtain rfl := Option.some.inj H
         have p114 : 0 ≤ (x7_1 : Int) := of_decide_eq_true (by first | (with_reducible assumption) | assumption)
         have q114 : x7_1 < (l0.length : Int) := of_decide_eq_true (by first | (with_reducible assumption) | assumption)
         obtain ⟨ad114, e114, hx114_0, hx114_1, hx114_2⟩ := at_T47 HR0.out x7_1 p114 q114
         cases e114
         replace hx114_0 := (HB.out.cell (World.block_lt_of_cell? w _ hx114_0)).trans hx114_0
         replace hx114_1 := (HB.out.cell (World.block_lt_of_cell? w _ hx114_1)).trans hx114_1
         replace hx114_2 := (HB.out.cell (World.block_lt_of_cell? w _ hx114_2)).trans hx114_2
         replace p114 := eq_true p114
         replace q114 := eq_true q114
         try go_wp2_with (first | ((with_reducible refine gate_dst (N := 4) rfl ?_); refine boxF (N := 4) (cs := #[.string (⟨#[]⟩ : ByteArray), .int .i64 0, .int .i64 0]) (t := 47) ?_; intro gb115 hg w39 hbox hb; have n0_ := Fa.mk (bst w hb); have n1_ := Fa.mk (hbox); have n2_ := Fa.mk (gle hg : w.heap.size ≤ gb115); have n3_ := n2_; clear HB; have HB := n0_; have BK115 := n1_; have GW115 := n2_; have GE115 := n3_; clear n0_ n1_ n2_ n3_; clear hb hbox hg; have hcz40_0 := jcell BK115.out (i := 0) rfl; have hcz40_1 := jcell BK115.out (i := 1) rfl; have hcz40_2 := jcell BK115.out (i := 2) rfl; have hfz40_0 := blk_frozen BK115.out 0; have hfz40_1 := blk_frozen BK115.out 1; have hfz40_2 := blk_frozen BK115.out 2))
         have n0_ : Fa ((((w39.setCell ⟨gb115, 0, none⟩ (.string ((rd_T47 l0 x7_1).f0))).setCell ⟨gb115, 1, none⟩ (.int .i64 ((rd_T47 l0 x7_1).f1.f0))).setCell ⟨gb115, 2, none⟩ (.int .i64 ((rd_T47 l0 x7_1).f1.f1))).heap[gb115]? = some (.cells #[.string ((rd_T47 l0 x7_1).f0), .int .i64 ((rd_T47 l0 x7_1).f1.f0), .int .i64 ((rd_T47 l0 x7_1).f1.f1)] 47 (0, 0))) := ⟨by (with_reducible repeat (first | refine blk_drewN ?_ _ | refine blk_drew ?_ | refine blk_alloc ?_ _)); refine blk_put (cs := #[.string ((rd_T47 l0 x7_1).f0), .int .i64 ((rd_T47 l0 x7_1).f1.f0), .int .i64 0]) ?_ 2 _ rfl; (with_reducible repeat (first | refine blk_drewN ?_ _ | refine blk_drew ?_ | refine blk_alloc ?_ _)); refine blk_put (cs := #[.string ((rd_T47 l0 x7_1).f0), .int .i64 0, .int .i64 0]) ?_ 1 _ rfl; (with_reducible repeat (first | refine blk_drewN ?_ _ | refine blk_drew ?_ | refine blk_alloc ?_ _)); refine blk_put (cs := #[.string (⟨#[]⟩ : ByteArray), .int .i64 0, .int .i64 0]) ?_ 0 _ rfl; (with_reducible repeat (first | refine blk_drewN ?_ _ | refine blk_drew ?_ | refine blk_alloc ?_ _)); exact fa⟩
         have n1_ : Fa (Below w.heap.size w (((w39.setCell ⟨gb115, 0, none⟩ (.string ((rd_T47 l0 x7_1).f0))).setCell ⟨gb115, 1, none⟩ (.int .i64 ((rd_T47 l0 x7_1).f1.f0))).setCell ⟨gb115, 2, none⟩ (.int .i64 ((rd_T47 l0 x7_1).f1.f1)))) := ⟨fa⟩
         (try clear BK115)
         (try clear HB)
         generalize (((w39.setCell ⟨gb115, 0, none⟩ (.string ((rd_T47 l0 x7_1).f0))).setCell ⟨gb115, 1, none⟩ (.int .i64 ((rd_T47 l0 x7_1).f1.f0))).setCell ⟨gb115, 2, none⟩ (.int .i64 ((rd_T47 l0 x7_1).f1.f1))) = w41 at n0_ n1_ ⊢
         have BK115 := n0_
         have HB := n1_
         clear n0_ n1_
         have n0_ := Fa.mk (blk_drew BK115.out)
         have n1_ := Fa.mk (below_drew1 HB.out)
         clear BK115 HB
         have BK115 := n0_
         have HB := n1_
         clear n0_ n1_
         refine startU 25 (S := fun w' => w'.cell? ⟨gb115, 0, none⟩ = some (.string ((rd_T47 l0 x7_1).f0)) ∧ w'.cell? ⟨gb115, 1, none⟩ = some (.int .i64 ((rd_T47 l0 x7_1).f1.f0)) ∧ w'.cell? ⟨gb115, 2, none⟩ = some (.int .i64 ((rd_T47 l0 x7_1).f1.f1))) (ds := []) ⟨(blk_cell BK115.out 0).trans rfl, (blk_cell BK115.out 1).trans rfl, (blk_cell BK115.out 2).trans rfl⟩ (fun hHeld => ?_); refine with_tabW linear_rising.tab4 linear_rising.bits4 (fun HT_ HW_ => ?_)
         generalize w41.drew = w42 at BK115 HB hHeld ⊢
         refine pureU 0 (some 12) (upto 25 1) HT_ ?_
         refine takeU 1 (some 13) (upto 25 2) HT_ HW_ hHeld rfl (by rintro w' ⟨s0, s1, s2⟩; go_simp; with_reducible rfl) ?_
         refine oneU 2 (some 14) (upto 25 3) HT_ (fun K hK => ?_)
         refine goes_ Tryz.func51 (by kernel_rfl) rfl #[.string ((rd_T47 l0 x7_1).f0)] (by rfl) rfl rfl (by (try simp only [List.map_toArray, List.map_cons, List.map_nil]); first | done | rfl | (simp only [List.length_drop, List.length_take]; rfl)) ?_
         with_reducible refine (linear_Named.calls ((rd_T47 l0 x7_1).f0) true _ A5.out).mono ?_
         rintro e w43 ⟨rfl, hb⟩
         refine ⟨_, rfl, ?_⟩
         have n0_ := Fa.mk (blk_below (g := gb115) (o := .cells #[.string ((rd_T47 l0 x7_1).f0), .int .i64 ((rd_T47 l0 x7_1).f1.f0), .int .i64 ((rd_T47 l0 x7_1).f1.f1)] 47 (0, 0)) fa hb)
         have n1_ := Fa.mk (bst w hb)
         clear BK115 HB
         have BK115 := n0_
         have HB := n1_
         clear n0_ n1_
         (try clear hb)
         (try clear hb2)
         (try clear hk)
         (try clear hi)
         refine hK.out _ _ ⟨(blk_cell BK115.out 0).trans rfl, (blk_cell BK115.out 1).trans rfl, (blk_cell BK115.out 2).trans rfl⟩ (fun hHeld => ?_)
         clear hK K
         refine normU (some 14) ?_
         refine pureU 3 (some 15) (upto 25 4) HT_ ?_
         refine pureU 4 (some 16) (upto 25 5) HT_ ?_
         refine pureU 5 (some 17) (upto 25 6) HT_ ?_
         refine pureU 6 (some 18) (upto 25 7) HT_ ?_
         refine pureU 7 (some 19) (upto 25 8) HT_ ?_
         refine offU 8 (some 20) (upto 25 9) HT_ ?_
         refine offU 9 (some 21) (upto 25 10) HT_ ?_
         refine offU 10 (some 22) (upto 25 11) HT_ ?_
         refine offU 11 (some 23) (upto 25 12) HT_ ?_
         refine offU 12 (some 24) (upto 25 13) HT_ ?_
         refine offU 13 (some 25) (upto 25 14) HT_ ?_
         refine offU 14 (some 26) (upto 25 15) HT_ ?_
         refine offU 15 (some 27) (upto 25 16) HT_ ?_
         refine offU 16 (some 28) (upto 25 17) HT_ ?_
         refine pureU 17 (some 29) (upto 25 18) HT_ ?_
         refine pureU 18 (some 30) (upto 25 19) HT_ ?_
         refine pureU 19 (some 31) (upto 25 20) HT_ ?_
         refine pureU 20 (some 32) (upto 25 21) HT_ ?_
         refine takeU 21 (some 33) (upto 25 22) HT_ HW_ hHeld rfl (by rintro w' ⟨s0, s1, s2⟩; go_simp; with_reducible rfl) ?_
         refine oneU 22 (some 34) (upto 25 23) HT_ (fun K hK => ?_)
         refine goes_ Tryz.func44 (by kernel_rfl) rfl #[.agg #[.int .i64 ((rd_T47 l0 x7_1).f1.f0), .int .i64 ((rd_T47 l0 x7_1).f1.f1)]] (by rfl) rfl rfl (by (try simp only [List.map_toArray, List.map_cons, List.map_nil]); first | done | rfl | (simp only [List.length_drop, List.length_take]; rfl)) ?_
         with_reducible refine (num_Valid.calls k1 ((rd_T47 l0 x7_1).f1.f0) ((rd_T47 l0 x7_1).f1.f1) false _ A31.out).mono ?_
         rintro e w44 ⟨rfl, hb⟩
         refine ⟨_, rfl, ?_⟩
         have n0_ := Fa.mk (blk_below (g := gb115) (o := .cells #[.string ((rd_T47 l0 x7_1).f0), .int .i64 ((rd_T47 l0 x7_1).f1.f0), .int .i64 ((rd_T47 l0 x7_1).f1.f1)] 47 (0, 0)) fa hb)
         have n1_ := Fa.mk (bst w hb)
         clear BK115 HB
         have BK115 := n0_
         have HB := n1_
         clear n0_ n1_
         (try clear hb)
         (try clear hb2)
         (try clear hk)
         (try clear hi)
         refine hK.out _ _ ⟨(blk_cell BK115.out 0).trans rfl, (blk_cell BK115.out 1).trans rfl, (blk_cell BK115.out 2).trans rfl⟩ (fun hHeld => ?_)
         clear hK K
         refine normU (some 34) ?_
         refine pureU 23 (some 35) (upto 25 24) HT_ ?_
         refine pureU 24 (some 36) (upto 25 25) HT_ ?_
         refine done_ (done_of HT_.out (by kernel_rfl)) ?_
         try go_wp2
         go_ret
         exact ⟨rfl, fa⟩
      ·
       replace c6 := Bool.eq_false_iff.mpr c6
       subst c6
       rw [if_neg (show ¬ (false = true) by decide)] at H
       obtain rfl := Option.some.inj H
       have p114 : 0 ≤ (x7_1 : Int) := of_decide_eq_true (by first | (with_reducible assumption) | assumption)
       have q114 : x7_1 < (l0.length : Int) := of_decide_eq_true (by first | (with_reducible assumption) | assumption)
       obtain ⟨ad114, e114, hx114_0, hx114_1, hx114_2⟩ := at_T47 HR0.out x7_1 p114 q114
       cases e114
       replace hx114_0 := (HB.out.cell (World.block_lt_of_cell? w _ hx114_0)).trans hx114_0
       replace hx114_1 := (HB.out.cell (World.block_lt_of_cell? w _ hx114_1)).trans hx114_1
       replace hx114_2 := (HB.out.cell (World.block_lt_of_cell? w _ hx114_2)).trans hx114_2
       replace p114 := eq_true p114
       replace q114 := eq_true q114
       try go_wp2_with (first | ((with_reducible refine gate_dst (N := 4) rfl ?_); refine boxF (N := 4) (cs := #[.string (⟨#[]⟩ : ByteArray), .int .i64 0, .int .i64 0]) (t := 47) ?_; intro gb115 hg w45 hbox hb; have n0_ := Fa.mk (bst w hb); have n1_ := Fa.mk (hbox); have n2_ := Fa.mk (gle hg : w.heap.size ≤ gb115); have n3_ := n2_; clear HB; have HB := n0_; have BK115 := n1_; have GW115 := n2_; have GE115 := n3_; clear n0_ n1_ n2_ n3_; clear hb hbox hg; have hcz46_0 := jcell BK115.out (i := 0) rfl; have hcz46_1 := jcell BK115.out (i := 1) rfl; have hcz46_2 := jcell BK115.out (i := 2) rfl; have hfz46_0 := blk_frozen BK115.out 0; have hfz46_1 := blk_frozen BK115.out 1; have hfz46_2 := blk_frozen BK115.out 2))
       have n0_ : Fa ((((w45.setCell ⟨gb115, 0, none⟩ (.string ((rd_T47 l0 x7_1).f0))).setCell ⟨gb115, 1, none⟩ (.int .i64 ((rd_T47 l0 x7_1).f1.f0))).setCell ⟨gb115, 2, none⟩ (.int .i64 ((rd_T47 l0 x7_1).f1.f1))).heap[gb115]? = some (.cells #[.string ((rd_T47 l0 x7_1).f0), .int .i64 ((rd_T47 l0 x7_1).f1.f0), .int .i64 ((rd_T47 l0 x7_1).f1.f1)] 47 (0, 0))) := ⟨by (with_reducible repeat (first | refine blk_drewN ?_ _ | refine blk_drew ?_ | refine blk_alloc ?_ _)); refine blk_put (cs := #[.string ((rd_T47 l0 x7_1).f0), .int .i64 ((rd_T47 l0 x7_1).f1.f0), .int .i64 0]) ?_ 2 _ rfl; (with_reducible repeat (first | refine blk_drewN ?_ _ | refine blk_drew ?_ | refine blk_alloc ?_ _)); refine blk_put (cs := #[.string ((rd_T47 l0 x7_1).f0), .int .i64 0, .int .i64 0]) ?_ 1 _ rfl; (with_reducible repeat (first | refine blk_drewN ?_ _ | refine blk_drew ?_ | refine blk_alloc ?_ _)); refine blk_put (cs := #[.string (⟨#[]⟩ : ByteArray), .int .i64 0, .int .i64 0]) ?_ 0 _ rfl; (with_reducible repeat (first | refine blk_drewN ?_ _ | refine blk_drew ?_ | refine blk_alloc ?_ _)); exact fa⟩
       have n1_ : Fa (Below w.heap.size w (((w45.setCell ⟨gb115, 0, none⟩ (.string ((rd_T47 l0 x7_1).f0))).setCell ⟨gb115, 1, none⟩ (.int .i64 ((rd_T47 l0 x7_1).f1.f0))).setCell ⟨gb115, 2, none⟩ (.int .i64 ((rd_T47 l0 x7_1).f1.f1)))) := ⟨fa⟩
       (try clear BK115)
       (try clear HB)
       generalize (((w45.setCell ⟨gb115, 0, none⟩ (.string ((rd_T47 l0 x7_1).f0))).setCell ⟨gb115, 1, none⟩ (.int .i64 ((rd_T47 l0 x7_1).f1.f0))).setCell ⟨gb115, 2, none⟩ (.int .i64 ((rd_T47 l0 x7_1).f1.f1))) = w47 at n0_ n1_ ⊢
       have BK115 := n0_
       have HB := n1_
       clear n0_ n1_
       have n0_ := Fa.mk (blk_drew BK115.out)
       have n1_ := Fa.mk (below_drew1 HB.out)
       clear BK115 HB
       have BK115 := n0_
       have HB := n1_
       clear n0_ n1_
       refine startU 25 (S := fun w' => w'.cell? ⟨gb115, 0, none⟩ = some (.string ((rd_T47 l0 x7_1).f0)) ∧ w'.cell? ⟨gb115, 1, none⟩ = some (.int .i64 ((rd_T47 l0 x7_1).f1.f0)) ∧ w'.cell? ⟨gb115, 2, none⟩ = some (.int .i64 ((rd_T47 l0 x7_1).f1.f1))) (ds := []) ⟨(blk_cell BK115.out 0).trans rfl, (blk_cell BK115.out 1).trans rfl, (blk_cell BK115.out 2).trans rfl⟩ (fun hHeld => ?_); refine with_tabW linear_rising.tab4 linear_rising.bits4 (fun HT_ HW_ => ?_)
       generalize w47.drew = w48 at BK115 HB hHeld ⊢
       refine pureU 0 (some 12) (upto 25 1) HT_ ?_
       refine takeU 1 (some 13) (upto 25 2) HT_ HW_ hHeld rfl (by rintro w' ⟨s0, s1, s2⟩; go_simp; with_reducible rfl) ?_
       refine oneU 2 (some 14) (upto 25 3) HT_ (fun K hK => ?_)
       refine goes_ Tryz.func51 (by kernel_rfl) rfl #[.string ((rd_T47 l0 x7_1).f0)] (by rfl) rfl rfl (by (try simp only [List.map_toArray, List.map_cons, List.map_nil]); first | done | rfl | (simp only [List.length_drop, List.length_take]; rfl)) ?_
       with_reducible refine (linear_Named.calls ((rd_T47 l0 x7_1).f0) false _ A5.out).mono ?_
       rintro e w49 ⟨rfl, hb⟩
       refine ⟨_, rfl, ?_⟩
       have n0_ := Fa.mk (blk_below (g := gb115) (o := .cells #[.string ((rd_T47 l0 x7_1).f0), .int .i64 ((rd_T47 l0 x7_1).f1.f0), .int .i64 ((rd_T47 l0 x7_1).f1.f1)] 47 (0, 0)) fa hb)
       have n1_ := Fa.mk (bst w hb)
       clear BK115 HB
       have BK115 := n0_
       have HB := n1_
       clear n0_ n1_
       (try clear hb)
       (try clear hb2)
       (try clear hk)
       (try clear hi)
       refine hK.out _ _ ⟨(blk_cell BK115.out 0).trans rfl, (blk_cell BK115.out 1).trans rfl, (blk_cell BK115.out 2).trans rfl⟩ (fun hHeld => ?_)
       clear hK K
       refine normU (some 14) ?_
       refine pureU 3 (some 15) (upto 25 4) HT_ ?_
       refine pureU 4 (some 16) (upto 25 5) HT_ ?_
       refine offU 5 (some 17) (upto 25 6) HT_ ?_
       refine offU 6 (some 18) (upto 25 7) HT_ ?_
       refine offU 7 (some 19) (upto 25 8) HT_ ?_
       refine offU 8 (some 20) (upto 25 9) HT_ ?_
       refine offU 9 (some 21) (upto 25 10) HT_ ?_
       refine offU 10 (some 22) (upto 25 11) HT_ ?_
       refine offU 11 (some 23) (upto 25 12) HT_ ?_
       refine offU 12 (some 24) (upto 25 13) HT_ ?_
       refine offU 13 (some 25) (upto 25 14) HT_ ?_
       refine offU 14 (some 26) (upto 25 15) HT_ ?_
       refine offU 15 (some 27) (upto 25 16) HT_ ?_
       refine offU 16 (some 28) (upto 25 17) HT_ ?_
       refine offU 17 (some 29) (upto 25 18) HT_ ?_
       refine pureU 18 (some 30) (upto 25 19) HT_ ?_
       refine pureU 19 (some 31) (upto 25 20) HT_ ?_
       refine offU 20 (some 32) (upto 25 21) HT_ ?_
       refine offU 21 (some 33) (upto 25 22) HT_ ?_
       refine offU 22 (some 34) (upto 25 23) HT_ ?_
       refine offU 23 (some 35) (upto 25 24) HT_ ?_
       refine pureU 24 (some 36) (upto 25 25) HT_ ?_
       refine done_ (done_of HT_.out (by kernel_rfl)) ?_
       try go_wp2
       go_ret
       exact ⟨rfl, fa⟩
     ·
      rw [if_neg c4] at H
      exact absurd H (by simp)
    ·
     rw [if_neg c3] at H
     exact absurd H (by simp)
   ·
    rw [if_neg c2] at H
    have c2b0 : decide (x7_1 < (l0.length : Int)) = false := decide_eq_false c2
    clear c2
    obtain rfl := Option.some.inj H
    go_wp2
    go_ret
    exact ⟨rfl, fa⟩
def linear_Valid_1.f (a0_0 : ByteArray) (a0_1 : Int) (a0_2 : Int) : Option (Bool) := some (a0_1 == 0)
set_option maxHeartbeats 8000000 in
set_option maxRecDepth 100000 in
theorem linear_Valid_1.calls (a0_0 : ByteArray) (a0_1 : Int) (a0_2 : Int) (r : Bool) (w : World) (h : linear_Valid_1.f a0_0 a0_1 a0_2 = some r) :
  Calls Tryz.prog 47 #[.agg #[.string a0_0, .int .i64 a0_1, .int .i64 a0_2]] w fun e w' => e = .returned (.bool r) ∧ Below w.heap.size w w' := by
 have hu47 := Tryz.underlying47
 have HB := Fa.mk (Below.refl w.heap.size w)
 have H : (some (a0_1 == 0)) = some r := h
 clear h
 obtain rfl := Option.some.inj H
 go_enter Tryz.func47, Tryz.ntmps47
 go_wp2_with (first | ((with_reducible refine gate_dst (N := 1) rfl ?_); refine boxF (N := 1) (cs := #[.string a0_0, .int .i64 a0_1, .int .i64 a0_2]) (t := 47) ?_; intro gb120 hg w2 hbox hb; have n0_ := Fa.mk (bst w hb); have n1_ := Fa.mk (hbox); have n2_ := Fa.mk (gle hg : w.heap.size ≤ gb120); have n3_ := n2_; clear HB; have HB := n0_; have BK120 := n1_; have GW120 := n2_; have GE120 := n3_; clear n0_ n1_ n2_ n3_; clear hb hbox hg; have hcz3_0 := jcell BK120.out (i := 0) rfl; have hcz3_1 := jcell BK120.out (i := 1) rfl; have hcz3_2 := jcell BK120.out (i := 2) rfl; have hfz3_0 := blk_frozen BK120.out 0; have hfz3_1 := blk_frozen BK120.out 1; have hfz3_2 := blk_frozen BK120.out 2))
 go_ret
 exact ⟨rfl, fa⟩
def slices_IndexFunc_at_47.l0 : Nat → List (S47) → Int → Int → Option (Int)
  | 0, _, _, _ => none
  | k + 1, x0, x7, x8 => if x8 < x7 then (if 0 ≤ x8 then (if x8 < (x0.length : Int) then ((linear_Valid_1.f ((rd_T47 x0 x8).f0) ((rd_T47 x0 x8).f1.f0) ((rd_T47 x0 x8).f1.f1)).bind fun t122 => (if t122 = true then (some x8) else (slices_IndexFunc_at_47.l0 k x0 x7 (wrap64 (x8 + 1))))) else (none)) else (none)) else (some (-1))
def slices_IndexFunc_at_47.f (k : Nat) (l0 : List (S47)) (a1 : Unit) : Option (Int) := slices_IndexFunc_at_47.l0 k l0 (l0.length : Int) 0
theorem slices_IndexFunc_at_47.mono_l : ∀ k, (∀ y0 y1 y2, LeO (slices_IndexFunc_at_47.l0 k y0 y1 y2) (slices_IndexFunc_at_47.l0 (k + 1) y0 y1 y2))
  | 0 => fun _ _ _ r h => by simp [slices_IndexFunc_at_47.l0] at h
  | k + 1 => by
    have ih0 := slices_IndexFunc_at_47.mono_l k
    all_goals intros
    all_goals first | unfold slices_IndexFunc_at_47.l0
    all_goals repeat' first | (with_reducible exact ih0 _ _ _) | (with_reducible exact LeO.refl _) | (with_reducible exact LeO.none _) | (with_reducible refine LeO.ite ?_ ?_) | (with_reducible refine LeO.bind ?_ (fun _ => ?_)) | exact ih0 _ _ _ | exact LeO.none _ | refine LeO.ite ?_ ?_ | refine LeO.bind ?_ (fun _ => ?_)
theorem slices_IndexFunc_at_47.mono : ∀ a0 a1 k, LeO (slices_IndexFunc_at_47.f k a0 a1) (slices_IndexFunc_at_47.f (k + 1) a0 a1) := by
  intro a0 a1 k
  have ih0 := slices_IndexFunc_at_47.mono_l k
  unfold slices_IndexFunc_at_47.f
  repeat' first
      | (with_reducible exact ih0 _ _ _)
      | (with_reducible exact LeO.refl _)
      | (with_reducible exact LeO.none _)
      | (with_reducible refine LeO.ite ?_ ?_)
      | (with_reducible refine LeO.bind ?_ (fun _ => ?_))
      | exact ih0 _ _ _
      | exact LeO.none _
      | refine LeO.ite ?_ ?_
      | refine LeO.bind ?_ (fun _ => ?_)
set_option maxHeartbeats 8000000 in
set_option maxRecDepth 100000 in
theorem slices_IndexFunc_at_47.calls (k : Nat) (A0 : Option Addr) (c0 : Nat) (l0 : List (S47)) (a1 : Unit) (r : Int) (w : World) (hr0 : Kd.C k47 w A0 l0.length l0) (hc0 : l0.length ≤ c0) (h : slices_IndexFunc_at_47.f k l0 a1 = some r) :
  Calls Tryz.prog 80 #[.slice A0 l0.length c0, .func (.func 47) #[] #[]] w fun e w' => e = .returned (.int .i64 r) ∧ Below w.heap.size w w' := by
 have hu47 := Tryz.underlying47
 have HR0 := Fa.mk hr0
 have HC0 := Fa.mk hc0
 clear hr0 hc0
 have HB := Fa.mk (Below.refl w.heap.size w)
 have H : (slices_IndexFunc_at_47.l0 k l0 (l0.length : Int) 0) = some r := h
 clear h
 have H' := Fa.mk H
 clear H
 go_enter Tryz.func80, Tryz.ntmps80
 go_wp2
 go_loopg [8] k (fun kq v8 w' => ∃ (x8_1 : Int), v8 = .int .i64 x8_1 ∧ Fa (slices_IndexFunc_at_47.l0 kq l0 (l0.length : Int) x8_1 = some r) ∧ Fa (kq ≤ k) ∧ Fa (Below w.heap.size w w'))
 case atStart => exact ⟨(0), (by first | rfl | (simp; done) | (simp [*]; done)), H', ⟨Nat.le_refl _⟩, ⟨fa⟩⟩
 case round =>
  clear H'
  try clear p2
  obtain ⟨x8_1, rfl, HA, HK1, HB⟩ := hrel
  cases gk with
  | zero => exact absurd HA.out (by simp [slices_IndexFunc_at_47.l0])
  | succ k1 =>
   have H := HA.out
   clear HA
   simp only [slices_IndexFunc_at_47.l0] at H
   by_cases c3 : x8_1 < (l0.length : Int)
   ·
    rw [if_pos c3] at H
    have c3b0 : decide (x8_1 < (l0.length : Int)) = true := decide_eq_true c3
    clear c3
    by_cases c4 : 0 ≤ x8_1
    ·
     rw [if_pos c4] at H
     have c4b0 : decide (0 ≤ x8_1) = true := decide_eq_true c4
     clear c4
     by_cases c5 : x8_1 < (l0.length : Int)
     ·
      rw [if_pos c5] at H
      have c5b0 : decide (x8_1 < (l0.length : Int)) = true := decide_eq_true c5
      clear c5
      replace H := Option.bind_eq_some_iff.mp H
      obtain ⟨t122, A60, H⟩ := H
      (try dsimp only at H)
      have A6 := Fa.mk A60
      clear A60
      by_cases c7 : t122 = true
      ·
       subst c7
       rw [if_pos rfl] at H
       obtain rfl := Option.some.inj H
       have p121 : 0 ≤ (x8_1 : Int) := of_decide_eq_true (by first | (with_reducible assumption) | assumption)
       have q121 : x8_1 < (l0.length : Int) := of_decide_eq_true (by first | (with_reducible assumption) | assumption)
       obtain ⟨ad121, e121, hx121_0, hx121_1, hx121_2⟩ := at_T47 HR0.out x8_1 p121 q121
       cases e121
       replace hx121_0 := (HB.out.cell (World.block_lt_of_cell? w _ hx121_0)).trans hx121_0
       replace hx121_1 := (HB.out.cell (World.block_lt_of_cell? w _ hx121_1)).trans hx121_1
       replace hx121_2 := (HB.out.cell (World.block_lt_of_cell? w _ hx121_2)).trans hx121_2
       replace p121 := eq_true p121
       replace q121 := eq_true q121
       go_wp2_with (first | (go_at_call 47; (with_reducible refine (linear_Valid_1.calls ((rd_T47 l0 x8_1).f0) ((rd_T47 l0 x8_1).f1.f0) ((rd_T47 l0 x8_1).f1.f1) true _ A6.out).mono ?_); rintro e w8 ⟨rfl, hb⟩; have n0_ := Fa.mk (bst w hb); clear HB; have HB := n0_; clear n0_; (try clear hb); (try clear hb2); (try clear hk); (try clear hi)))
       go_ret
       exact ⟨rfl, fa⟩
      ·
       replace c7 := Bool.eq_false_iff.mpr c7
       subst c7
       rw [if_neg (show ¬ (false = true) by decide)] at H
       have H' := Fa.mk H
       clear H
       have p121 : 0 ≤ (x8_1 : Int) := of_decide_eq_true (by first | (with_reducible assumption) | assumption)
       have q121 : x8_1 < (l0.length : Int) := of_decide_eq_true (by first | (with_reducible assumption) | assumption)
       obtain ⟨ad121, e121, hx121_0, hx121_1, hx121_2⟩ := at_T47 HR0.out x8_1 p121 q121
       cases e121
       replace hx121_0 := (HB.out.cell (World.block_lt_of_cell? w _ hx121_0)).trans hx121_0
       replace hx121_1 := (HB.out.cell (World.block_lt_of_cell? w _ hx121_1)).trans hx121_1
       replace hx121_2 := (HB.out.cell (World.block_lt_of_cell? w _ hx121_2)).trans hx121_2
       replace p121 := eq_true p121
       replace q121 := eq_true q121
       go_wp2_with (first | (go_at_call 47; (with_reducible refine (linear_Valid_1.calls ((rd_T47 l0 x8_1).f0) ((rd_T47 l0 x8_1).f1.f0) ((rd_T47 l0 x8_1).f1.f1) false _ A6.out).mono ?_); rintro e w9 ⟨rfl, hb⟩; have n0_ := Fa.mk (bst w hb); clear HB; have HB := n0_; clear n0_; (try clear hb); (try clear hb2); (try clear hk); (try clear hi)))
       go_roundg k1
       case measure => have := HK1.out; omega
       case rel => exact ⟨(wrap64 (x8_1 + 1)), (by first | rfl | (simp; done) | (simp [*]; done)), H', ⟨by have := HK1.out; omega⟩, ⟨fa⟩⟩
     ·
      rw [if_neg c5] at H
      exact absurd H (by simp)
    ·
     rw [if_neg c4] at H
     exact absurd H (by simp)
   ·
    rw [if_neg c3] at H
    have c3b0 : decide (x8_1 < (l0.length : Int)) = false := decide_eq_false c3
    clear c3
    obtain rfl := Option.some.inj H
    go_wp2
    go_ret
    exact ⟨rfl, fa⟩
def slices_ContainsFunc_at_47.f (k : Nat) (l0 : List (S47)) (a1 : Unit) : Option (Bool) := (slices_IndexFunc_at_47.f k l0 a1).bind fun t123 => (some (decide (t123 ≥ 0)))
theorem slices_ContainsFunc_at_47.mono : ∀ a0 a1 k, LeO (slices_ContainsFunc_at_47.f k a0 a1) (slices_ContainsFunc_at_47.f (k + 1) a0 a1) := by
  intro a0 a1 k
  unfold slices_ContainsFunc_at_47.f
  repeat' first
      | (with_reducible exact slices_IndexFunc_at_47.mono _ _ _)
      | (with_reducible exact LeO.refl _)
      | (with_reducible exact LeO.none _)
      | (with_reducible refine LeO.ite ?_ ?_)
      | (with_reducible refine LeO.bind ?_ (fun _ => ?_))
      | exact slices_IndexFunc_at_47.mono _ _ _
      | exact LeO.none _
      | refine LeO.ite ?_ ?_
      | refine LeO.bind ?_ (fun _ => ?_)
set_option maxHeartbeats 8000000 in
set_option maxRecDepth 100000 in
theorem slices_ContainsFunc_at_47.calls (k : Nat) (A0 : Option Addr) (c0 : Nat) (l0 : List (S47)) (a1 : Unit) (r : Bool) (w : World) (hr0 : Kd.C k47 w A0 l0.length l0) (hc0 : l0.length ≤ c0) (h : slices_ContainsFunc_at_47.f k l0 a1 = some r) :
  Calls Tryz.prog 46 #[.slice A0 l0.length c0, .func (.func 47) #[] #[]] w fun e w' => e = .returned (.bool r) ∧ Below w.heap.size w w' := by
 have HR0 := Fa.mk hr0
 have HC0 := Fa.mk hc0
 clear hr0 hc0
 have HB := Fa.mk (Below.refl w.heap.size w)
 have H : ((slices_IndexFunc_at_47.f k l0 a1).bind fun t123 => (some (decide (t123 ≥ 0)))) = some r := h
 clear h
 replace H := Option.bind_eq_some_iff.mp H
 obtain ⟨t123, A30, H⟩ := H
 (try dsimp only at H)
 have A3 := Fa.mk A30
 clear A30
 obtain rfl := Option.some.inj H
 go_enter Tryz.func46, Tryz.ntmps46
 go_wp2_with (first | ((with_reducible refine gate_callee (f := 80) rfl ?_); refine goesA (some 7) rfl rfl Tryz.func80 (by kernel_rfl) rfl #[.slice A0 l0.length c0, .func (.func 47) #[] #[]] rfl ?_; (with_reducible refine (slices_IndexFunc_at_47.calls k _ _ l0 a1 t123 _ ?side1 ?side2 A3.out).mono ?_); (case side1 => repeat (first | exact HR0.out | (with_reducible refine Kd.C_alloc ?_ _) | (with_reducible refine Kd.C_drewN ?_ _) | (with_reducible refine Kd.C_drew ?_))); (case side2 => exact HC0.out); rintro e w4 ⟨rfl, hb⟩; refine ⟨_, rfl, ?_⟩; have n0_ := Fa.mk (bst w hb); clear HB; have HB := n0_; clear n0_; (try clear hb); (try clear hb2); (try clear hk); (try clear hi)))
 go_ret
 exact ⟨rfl, fa⟩
def linear_Valid.f (k : Nat) (a0_0 : Int) (a0_1 : Int) (l0_2 : List (S47)) : Option (Bool) := (num_Valid.f k a0_0 a0_1).bind fun t125 => (if t125 = true then ((linear_rising.f k l0_2).bind fun t126 => (if t126 = true then ((slices_ContainsFunc_at_47.f k l0_2 ()).bind fun t127 => (some (!t127))) else (some false))) else (some false))
theorem linear_Valid.mono : ∀ a0 a1 a2 k, LeO (linear_Valid.f k a0 a1 a2) (linear_Valid.f (k + 1) a0 a1 a2) := by
  intro a0 a1 a2 k
  unfold linear_Valid.f
  repeat' first
      | (with_reducible exact linear_rising.mono _ _)
      | (with_reducible exact num_Valid.mono _ _ _)
      | (with_reducible exact slices_ContainsFunc_at_47.mono _ _ _)
      | (with_reducible exact LeO.refl _)
      | (with_reducible exact LeO.none _)
      | (with_reducible refine LeO.ite ?_ ?_)
      | (with_reducible refine LeO.bind ?_ (fun _ => ?_))
      | exact linear_rising.mono _ _
      | exact num_Valid.mono _ _ _
      | exact slices_ContainsFunc_at_47.mono _ _ _
      | exact LeO.none _
      | refine LeO.ite ?_ ?_
      | refine LeO.bind ?_ (fun _ => ?_)
set_option maxHeartbeats 8000000 in
set_option maxRecDepth 100000 in
theorem linear_Valid.calls (k : Nat) (a0_0 : Int) (a0_1 : Int) (A0_2 : Option Addr) (c0_2 : Nat) (l0_2 : List (S47)) (r : Bool) (w : World) (hr0_2 : Kd.C k47 w A0_2 l0_2.length l0_2) (hc0_2 : l0_2.length ≤ c0_2) (h : linear_Valid.f k a0_0 a0_1 l0_2 = some r) :
  Calls Tryz.prog 17 #[.agg #[.int .i64 a0_0, .int .i64 a0_1, .slice A0_2 l0_2.length c0_2]] w fun e w' => e = .returned (.bool r) ∧ Below w.heap.size w w' := by
 have hu26 := Tryz.underlying26
 have hu23 := Tryz.underlying23
 have HR0_2 := Fa.mk hr0_2
 have HC0_2 := Fa.mk hc0_2
 clear hr0_2 hc0_2
 have HB := Fa.mk (Below.refl w.heap.size w)
 have H : ((num_Valid.f k a0_0 a0_1).bind fun t125 => (if t125 = true then ((linear_rising.f k l0_2).bind fun t126 => (if t126 = true then ((slices_ContainsFunc_at_47.f k l0_2 ()).bind fun t127 => (some (!t127))) else (some false))) else (some false))) = some r := h
 clear h
 replace H := Option.bind_eq_some_iff.mp H
 obtain ⟨t125, A20, H⟩ := H
 (try dsimp only at H)
 have A2 := Fa.mk A20
 clear A20
 by_cases c3 : t125 = true
 ·
  subst c3
  rw [if_pos rfl] at H
  replace H := Option.bind_eq_some_iff.mp H
  obtain ⟨t126, A40, H⟩ := H
  (try dsimp only at H)
  have A4 := Fa.mk A40
  clear A40
  by_cases c5 : t126 = true
  ·
   subst c5
   rw [if_pos rfl] at H
   replace H := Option.bind_eq_some_iff.mp H
   obtain ⟨t127, A60, H⟩ := H
   (try dsimp only at H)
   have A6 := Fa.mk A60
   clear A60
   obtain rfl := Option.some.inj H
   go_enter Tryz.func17, Tryz.ntmps17
   go_wp2_with (first | ((with_reducible refine gate_dst (N := 1) rfl ?_); refine boxF (N := 1) (cs := #[.int .i64 a0_0, .int .i64 a0_1, .slice A0_2 l0_2.length c0_2]) (t := 26) ?_; intro gb124 hg w7 hbox hb; have hS := Stp.mk hb; have BK124 := Fa.mk (hbox); have GW124 := Fa.mk (gle hg : w.heap.size ≤ gb124); have GE124 := GW124; clear hb hbox hg; have hcz8_0 := jcell BK124.out (i := 0) rfl; have hcz8_1 := jcell BK124.out (i := 1) rfl; have hcz8_2 := jcell BK124.out (i := 2) rfl; have hfz8_0 := blk_frozen BK124.out 0; have hfz8_1 := blk_frozen BK124.out 1; have hfz8_2 := blk_frozen BK124.out 2) | ((with_reducible refine gate_callee (f := 44) rfl ?_); refine goesA (some 5) rfl rfl Tryz.func44 (by kernel_rfl) rfl #[.agg #[.int .i64 a0_0, .int .i64 a0_1]] rfl ?_; (with_reducible refine (num_Valid.calls k a0_0 a0_1 true _ A2.out).mono ?_); rintro e w9 ⟨rfl, hb⟩; refine ⟨_, rfl, ?_⟩; have hS := Stp.mk hb; have BK124 := (⟨fa⟩ : Fa (w9.heap[gb124]? = some (.cells #[.int .i64 a0_0, .int .i64 a0_1, .slice A0_2 l0_2.length c0_2] 26 (0, 0)))); clear hb; have hcz10_0 := jcell BK124.out (i := 0) rfl; have hcz10_1 := jcell BK124.out (i := 1) rfl; have hcz10_2 := jcell BK124.out (i := 2) rfl; have hfz10_0 := blk_frozen BK124.out 0; have hfz10_1 := blk_frozen BK124.out 1; have hfz10_2 := blk_frozen BK124.out 2) | (go_at_call 45; (with_reducible refine (linear_rising.calls k _ _ l0_2 true _ ?side1 ?side2 A4.out).mono ?_); (case side1 => repeat (first | exact (Kd.C_below HR0_2.out fa) | (with_reducible refine Kd.C_alloc ?_ _) | (with_reducible refine Kd.C_drewN ?_ _) | (with_reducible refine Kd.C_drew ?_))); (case side2 => exact HC0_2.out); rintro e w11 ⟨rfl, hb⟩; have hS := Stp.mk hb; have BK124 := (⟨fa⟩ : Fa (w11.heap[gb124]? = some (.cells #[.int .i64 a0_0, .int .i64 a0_1, .slice A0_2 l0_2.length c0_2] 26 (0, 0)))); clear hb; have hcz12_0 := jcell BK124.out (i := 0) rfl; have hcz12_1 := jcell BK124.out (i := 1) rfl; have hcz12_2 := jcell BK124.out (i := 2) rfl; have hfz12_0 := blk_frozen BK124.out 0; have hfz12_1 := blk_frozen BK124.out 1; have hfz12_2 := blk_frozen BK124.out 2) | (go_at_call 46; (with_reducible refine (slices_ContainsFunc_at_47.calls k _ _ l0_2 () t127 _ ?side1 ?side2 A6.out).mono ?_); (case side1 => repeat (first | exact (Kd.C_below HR0_2.out fa) | (with_reducible refine Kd.C_alloc ?_ _) | (with_reducible refine Kd.C_drewN ?_ _) | (with_reducible refine Kd.C_drew ?_))); (case side2 => exact HC0_2.out); rintro e w13 ⟨rfl, hb⟩; have hS := Stp.mk hb; clear hb))
   go_ret
   exact ⟨rfl, fa⟩
  ·
   replace c5 := Bool.eq_false_iff.mpr c5
   subst c5
   rw [if_neg (show ¬ (false = true) by decide)] at H
   obtain rfl := Option.some.inj H
   go_enter Tryz.func17, Tryz.ntmps17
   go_wp2_with (first | ((with_reducible refine gate_dst (N := 1) rfl ?_); refine boxF (N := 1) (cs := #[.int .i64 a0_0, .int .i64 a0_1, .slice A0_2 l0_2.length c0_2]) (t := 26) ?_; intro gb124 hg w14 hbox hb; have hS := Stp.mk hb; have BK124 := Fa.mk (hbox); have GW124 := Fa.mk (gle hg : w.heap.size ≤ gb124); have GE124 := GW124; clear hb hbox hg; have hcz15_0 := jcell BK124.out (i := 0) rfl; have hcz15_1 := jcell BK124.out (i := 1) rfl; have hcz15_2 := jcell BK124.out (i := 2) rfl; have hfz15_0 := blk_frozen BK124.out 0; have hfz15_1 := blk_frozen BK124.out 1; have hfz15_2 := blk_frozen BK124.out 2) | ((with_reducible refine gate_callee (f := 44) rfl ?_); refine goesA (some 5) rfl rfl Tryz.func44 (by kernel_rfl) rfl #[.agg #[.int .i64 a0_0, .int .i64 a0_1]] rfl ?_; (with_reducible refine (num_Valid.calls k a0_0 a0_1 true _ A2.out).mono ?_); rintro e w16 ⟨rfl, hb⟩; refine ⟨_, rfl, ?_⟩; have hS := Stp.mk hb; have BK124 := (⟨fa⟩ : Fa (w16.heap[gb124]? = some (.cells #[.int .i64 a0_0, .int .i64 a0_1, .slice A0_2 l0_2.length c0_2] 26 (0, 0)))); clear hb; have hcz17_0 := jcell BK124.out (i := 0) rfl; have hcz17_1 := jcell BK124.out (i := 1) rfl; have hcz17_2 := jcell BK124.out (i := 2) rfl; have hfz17_0 := blk_frozen BK124.out 0; have hfz17_1 := blk_frozen BK124.out 1; have hfz17_2 := blk_frozen BK124.out 2) | (go_at_call 45; (with_reducible refine (linear_rising.calls k _ _ l0_2 false _ ?side1 ?side2 A4.out).mono ?_); (case side1 => repeat (first | exact (Kd.C_below HR0_2.out fa) | (with_reducible refine Kd.C_alloc ?_ _) | (with_reducible refine Kd.C_drewN ?_ _) | (with_reducible refine Kd.C_drew ?_))); (case side2 => exact HC0_2.out); rintro e w18 ⟨rfl, hb⟩; have hS := Stp.mk hb; clear hb))
   go_ret
   exact ⟨rfl, fa⟩
 ·
  replace c3 := Bool.eq_false_iff.mpr c3
  subst c3
  rw [if_neg (show ¬ (false = true) by decide)] at H
  obtain rfl := Option.some.inj H
  go_enter Tryz.func17, Tryz.ntmps17
  go_wp2_with (first | ((with_reducible refine gate_dst (N := 1) rfl ?_); refine boxF (N := 1) (cs := #[.int .i64 a0_0, .int .i64 a0_1, .slice A0_2 l0_2.length c0_2]) (t := 26) ?_; intro gb124 hg w19 hbox hb; have hS := Stp.mk hb; have BK124 := Fa.mk (hbox); have GW124 := Fa.mk (gle hg : w.heap.size ≤ gb124); have GE124 := GW124; clear hb hbox hg; have hcz20_0 := jcell BK124.out (i := 0) rfl; have hcz20_1 := jcell BK124.out (i := 1) rfl; have hcz20_2 := jcell BK124.out (i := 2) rfl; have hfz20_0 := blk_frozen BK124.out 0; have hfz20_1 := blk_frozen BK124.out 1; have hfz20_2 := blk_frozen BK124.out 2) | ((with_reducible refine gate_callee (f := 44) rfl ?_); refine goesA (some 5) rfl rfl Tryz.func44 (by kernel_rfl) rfl #[.agg #[.int .i64 a0_0, .int .i64 a0_1]] rfl ?_; (with_reducible refine (num_Valid.calls k a0_0 a0_1 false _ A2.out).mono ?_); rintro e w21 ⟨rfl, hb⟩; refine ⟨_, rfl, ?_⟩; have hS := Stp.mk hb; clear hb))
  go_ret
  exact ⟨rfl, fa⟩
def num_valid.l0 : Nat → List (S23) → Int → Int → Option (Bool)
  | 0, _, _, _ => none
  | k + 1, x5, x6, x7 => if x7 < x6 then (if 0 ≤ x7 then (if x7 < (x5.length : Int) then ((num_Valid.f k ((rd_T23 x5 x7).f0) ((rd_T23 x5 x7).f1)).bind fun t130 => (if t130 = true then (num_valid.l0 k x5 x6 (wrap64 (x7 + 1))) else (some false))) else (none)) else (none)) else (some true)
def num_valid.f (k : Nat) (l0 : List (S23)) : Option (Bool) := num_valid.l0 k l0 (l0.length : Int) 0
theorem num_valid.mono_l : ∀ k, (∀ y0 y1 y2, LeO (num_valid.l0 k y0 y1 y2) (num_valid.l0 (k + 1) y0 y1 y2))
  | 0 => fun _ _ _ r h => by simp [num_valid.l0] at h
  | k + 1 => by
    have ih0 := num_valid.mono_l k
    all_goals intros
    all_goals first | unfold num_valid.l0
    all_goals repeat' first | (with_reducible exact ih0 _ _ _) | (with_reducible exact num_Valid.mono _ _ _) | (with_reducible exact LeO.refl _) | (with_reducible exact LeO.none _) | (with_reducible refine LeO.ite ?_ ?_) | (with_reducible refine LeO.bind ?_ (fun _ => ?_)) | exact ih0 _ _ _ | exact num_Valid.mono _ _ _ | exact LeO.none _ | refine LeO.ite ?_ ?_ | refine LeO.bind ?_ (fun _ => ?_)
theorem num_valid.mono : ∀ a0 k, LeO (num_valid.f k a0) (num_valid.f (k + 1) a0) := by
  intro a0 k
  have ih0 := num_valid.mono_l k
  unfold num_valid.f
  repeat' first
      | (with_reducible exact ih0 _ _ _)
      | (with_reducible exact num_Valid.mono _ _ _)
      | (with_reducible exact LeO.refl _)
      | (with_reducible exact LeO.none _)
      | (with_reducible refine LeO.ite ?_ ?_)
      | (with_reducible refine LeO.bind ?_ (fun _ => ?_))
      | exact ih0 _ _ _
      | exact num_Valid.mono _ _ _
      | exact LeO.none _
      | refine LeO.ite ?_ ?_
      | refine LeO.bind ?_ (fun _ => ?_)
set_option maxHeartbeats 8000000 in
set_option maxRecDepth 100000 in
theorem num_valid.calls (k : Nat) (A0 : Option Addr) (c0 : Nat) (l0 : List (S23)) (r : Bool) (w : World) (hr0 : Kd.C k23 w A0 l0.length l0) (hc0 : l0.length ≤ c0) (h : num_valid.f k l0 = some r) :
  Calls Tryz.prog 103 #[.slice A0 l0.length c0] w fun e w' => e = .returned (.bool r) ∧ Below w.heap.size w w' := by
 have hu23 := Tryz.underlying23
 have HR0 := Fa.mk hr0
 have HC0 := Fa.mk hc0
 clear hr0 hc0
 have HB := Fa.mk (Below.refl w.heap.size w)
 have H : (num_valid.l0 k l0 (l0.length : Int) 0) = some r := h
 clear h
 have H' := Fa.mk H
 clear H
 go_enter Tryz.func103, Tryz.ntmps103
 go_wp2
 go_loopg [7] k (fun kq v7 w' => ∃ (x7_1 : Int), v7 = .int .i64 x7_1 ∧ Fa (num_valid.l0 kq l0 (l0.length : Int) x7_1 = some r) ∧ Fa (kq ≤ k) ∧ Fa (Below w.heap.size w w'))
 case atStart => exact ⟨(0), (by first | rfl | (simp; done) | (simp [*]; done)), H', ⟨Nat.le_refl _⟩, ⟨fa⟩⟩
 case round =>
  clear H'
  try clear c1
  obtain ⟨x7_1, rfl, HA, HK1, HB⟩ := hrel
  cases gk with
  | zero => exact absurd HA.out (by simp [num_valid.l0])
  | succ k1 =>
   have H := HA.out
   clear HA
   simp only [num_valid.l0] at H
   by_cases c2 : x7_1 < (l0.length : Int)
   ·
    rw [if_pos c2] at H
    have c2b0 : decide (x7_1 < (l0.length : Int)) = true := decide_eq_true c2
    clear c2
    by_cases c3 : 0 ≤ x7_1
    ·
     rw [if_pos c3] at H
     have c3b0 : decide (0 ≤ x7_1) = true := decide_eq_true c3
     clear c3
     by_cases c4 : x7_1 < (l0.length : Int)
     ·
      rw [if_pos c4] at H
      have c4b0 : decide (x7_1 < (l0.length : Int)) = true := decide_eq_true c4
      clear c4
      replace H := Option.bind_eq_some_iff.mp H
      obtain ⟨t130, A50, H⟩ := H
      (try dsimp only at H)
      have A5 := Fa.mk A50
      clear A50
      by_cases c6 : t130 = true
      ·
       subst c6
       rw [if_pos rfl] at H
       have H' := Fa.mk H
       clear H
       have p128 : 0 ≤ (x7_1 : Int) := of_decide_eq_true (by first | (with_reducible assumption) | assumption)
       have q128 : x7_1 < (l0.length : Int) := of_decide_eq_true (by first | (with_reducible assumption) | assumption)
       obtain ⟨ad128, e128, hx128_0, hx128_1⟩ := at_T23 HR0.out x7_1 p128 q128
       cases e128
       replace hx128_0 := (HB.out.cell (World.block_lt_of_cell? w _ hx128_0)).trans hx128_0
       replace hx128_1 := (HB.out.cell (World.block_lt_of_cell? w _ hx128_1)).trans hx128_1
       replace p128 := eq_true p128
       replace q128 := eq_true q128
       go_wp2_with (first | ((with_reducible refine gate_dst (N := 4) rfl ?_); refine boxF (N := 4) (cs := #[.int .i64 0, .int .i64 0]) (t := 23) ?_; intro gb129 hg w7 hbox hb; have hS := Stp.mk hb; have BK129 := Fa.mk (hbox); have GW129 := Fa.mk (gle hg : w.heap.size ≤ gb129); have GE129 := GW129; clear hb hbox hg; have hcz8_0 := jcell BK129.out (i := 0) rfl; have hcz8_1 := jcell BK129.out (i := 1) rfl; have hfz8_0 := blk_frozen BK129.out 0; have hfz8_1 := blk_frozen BK129.out 1) | ((with_reducible refine gate_callee (f := 44) rfl ?_); refine goesA (some 12) rfl rfl Tryz.func44 (by kernel_rfl) rfl #[.agg #[.int .i64 ((rd_T23 l0 x7_1).f0), .int .i64 ((rd_T23 l0 x7_1).f1)]] rfl ?_; (with_reducible refine (num_Valid.calls k1 ((rd_T23 l0 x7_1).f0) ((rd_T23 l0 x7_1).f1) true _ A5.out).mono ?_); rintro e w9 ⟨rfl, hb⟩; refine ⟨_, rfl, ?_⟩; have hS := Stp.mk hb; have BK129 := Fa.mk (blk_below (g := gb129) (o := .cells #[.int .i64 ((rd_T23 l0 x7_1).f0), .int .i64 ((rd_T23 l0 x7_1).f1)] 23 (0, 0)) (by (with_reducible repeat (first | refine blk_drewN ?_ _ | refine blk_drew ?_ | refine blk_alloc ?_ _)); refine blk_put (cs := #[.int .i64 ((rd_T23 l0 x7_1).f0), .int .i64 0]) ?_ 1 _ rfl; (with_reducible repeat (first | refine blk_drewN ?_ _ | refine blk_drew ?_ | refine blk_alloc ?_ _)); refine blk_put (cs := #[.int .i64 0, .int .i64 0]) ?_ 0 _ rfl; (with_reducible repeat (first | refine blk_drewN ?_ _ | refine blk_drew ?_ | refine blk_alloc ?_ _)); exact fa) hb); clear hb))
       go_roundg k1
       case measure => have := HK1.out; omega
       case rel => exact ⟨(wrap64 (x7_1 + 1)), (by first | rfl | (simp; done) | (simp [*]; done)), H', ⟨by have := HK1.out; omega⟩, ⟨fa⟩⟩
      ·
       replace c6 := Bool.eq_false_iff.mpr c6
       subst c6
       rw [if_neg (show ¬ (false = true) by decide)] at H
       obtain rfl := Option.some.inj H
       have p128 : 0 ≤ (x7_1 : Int) := of_decide_eq_true (by first | (with_reducible assumption) | assumption)
       have q128 : x7_1 < (l0.length : Int) := of_decide_eq_true (by first | (with_reducible assumption) | assumption)
       obtain ⟨ad128, e128, hx128_0, hx128_1⟩ := at_T23 HR0.out x7_1 p128 q128
       cases e128
       replace hx128_0 := (HB.out.cell (World.block_lt_of_cell? w _ hx128_0)).trans hx128_0
       replace hx128_1 := (HB.out.cell (World.block_lt_of_cell? w _ hx128_1)).trans hx128_1
       replace p128 := eq_true p128
       replace q128 := eq_true q128
       go_wp2_with (first | ((with_reducible refine gate_dst (N := 4) rfl ?_); refine boxF (N := 4) (cs := #[.int .i64 0, .int .i64 0]) (t := 23) ?_; intro gb129 hg w10 hbox hb; have hS := Stp.mk hb; have BK129 := Fa.mk (hbox); have GW129 := Fa.mk (gle hg : w.heap.size ≤ gb129); have GE129 := GW129; clear hb hbox hg; have hcz11_0 := jcell BK129.out (i := 0) rfl; have hcz11_1 := jcell BK129.out (i := 1) rfl; have hfz11_0 := blk_frozen BK129.out 0; have hfz11_1 := blk_frozen BK129.out 1) | ((with_reducible refine gate_callee (f := 44) rfl ?_); refine goesA (some 12) rfl rfl Tryz.func44 (by kernel_rfl) rfl #[.agg #[.int .i64 ((rd_T23 l0 x7_1).f0), .int .i64 ((rd_T23 l0 x7_1).f1)]] rfl ?_; (with_reducible refine (num_Valid.calls k1 ((rd_T23 l0 x7_1).f0) ((rd_T23 l0 x7_1).f1) false _ A5.out).mono ?_); rintro e w12 ⟨rfl, hb⟩; refine ⟨_, rfl, ?_⟩; have hS := Stp.mk hb; have BK129 := Fa.mk (blk_below (g := gb129) (o := .cells #[.int .i64 ((rd_T23 l0 x7_1).f0), .int .i64 ((rd_T23 l0 x7_1).f1)] 23 (0, 0)) (by (with_reducible repeat (first | refine blk_drewN ?_ _ | refine blk_drew ?_ | refine blk_alloc ?_ _)); refine blk_put (cs := #[.int .i64 ((rd_T23 l0 x7_1).f0), .int .i64 0]) ?_ 1 _ rfl; (with_reducible repeat (first | refine blk_drewN ?_ _ | refine blk_drew ?_ | refine blk_alloc ?_ _)); refine blk_put (cs := #[.int .i64 0, .int .i64 0]) ?_ 0 _ rfl; (with_reducible repeat (first | refine blk_drewN ?_ _ | refine blk_drew ?_ | refine blk_alloc ?_ _)); exact fa) hb); clear hb))
       go_ret
       exact ⟨rfl, fa⟩
     ·
      rw [if_neg c4] at H
      exact absurd H (by simp)
    ·
     rw [if_neg c3] at H
     exact absurd H (by simp)
   ·
    rw [if_neg c2] at H
    have c2b0 : decide (x7_1 < (l0.length : Int)) = false := decide_eq_false c2
    clear c2
    obtain rfl := Option.some.inj H
    go_wp2
    go_ret
    exact ⟨rfl, fa⟩
end Go.Proofs.YtilamkcpbibnmaaGreatDoor.P
