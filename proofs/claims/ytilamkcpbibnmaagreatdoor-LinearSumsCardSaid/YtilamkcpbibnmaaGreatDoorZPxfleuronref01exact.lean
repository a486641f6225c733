import Derived.Test.YtilamkcpbibnmaaGreatDoorZPx0
import Derived.Test.YtilamkcpbibnmaaGreatDoorZPxfleuronref01gcd
namespace Go.Proofs.YtilamkcpbibnmaaGreatDoor.P
open Go.RowKit Go.Proofs.YtilamkcpbibnmaaGreatDoorW.PrintWords Go.Proofs.YtilamkcpbibnmaaGreatDoorW.PrintLast Go.Proofs.YtilamkcpbibnmaaGreatDoorW.PrintMore
attribute [local go_sem] max2_int min2_int max_two min_two max_three min_three max_four min_four
set_option linter.unusedVariables false
set_option linter.unusedSimpArgs false
def fleuronref01_exact.f (a0 : ByteArray) (a1_0 : Int) (a1_1 : Int) (a2_0 : Int) (a2_1 : Int) : Option (Int × Int) := if a0.toList = ([43] : List UInt8) then (some (wrap64 ((wrap64 (a1_0 * a2_1)) + (wrap64 (a2_0 * a1_1))), wrap64 (a1_1 * a2_1))) else (if a0.toList = ([45] : List UInt8) then (some (wrap64 ((wrap64 (a1_0 * a2_1)) - (wrap64 (a2_0 * a1_1))), wrap64 (a1_1 * a2_1))) else (if a0.toList = ([42] : List UInt8) then (some (wrap64 (a1_0 * a2_0), wrap64 (a1_1 * a2_1))) else (if a2_0 < 0 then (some (wrap64 ((wrap64 (-a1_0)) * a2_1), wrap64 ((wrap64 (-a1_1)) * a2_0))) else (some (wrap64 (a1_0 * a2_1), wrap64 (a1_1 * a2_0))))))
set_option maxHeartbeats 8000000 in
set_option maxRecDepth 100000 in
theorem fleuronref01_exact.calls (a0 : ByteArray) (a1_0 : Int) (a1_1 : Int) (a2_0 : Int) (a2_1 : Int) (r1 : Int) (r2 : Int) (w : World) (h : fleuronref01_exact.f a0 a1_0 a1_1 a2_0 a2_1 = some (r1, r2)) :
  Calls Tryz.prog 84 #[.string a0, .agg #[.int .i64 a1_0, .int .i64 a1_1], .agg #[.int .i64 a2_0, .int .i64 a2_1]] w fun e w' => e = .returned (.tuple #[.int .i64 r1, .int .i64 r2]) ∧ Below w.heap.size w w' := by
 have hu23 := Tryz.underlying23
 have HB := Fa.mk (Below.refl w.heap.size w)
 have H : (if a0.toList = ([43] : List UInt8) then (some (wrap64 ((wrap64 (a1_0 * a2_1)) + (wrap64 (a2_0 * a1_1))), wrap64 (a1_1 * a2_1))) else (if a0.toList = ([45] : List UInt8) then (some (wrap64 ((wrap64 (a1_0 * a2_1)) - (wrap64 (a2_0 * a1_1))), wrap64 (a1_1 * a2_1))) else (if a0.toList = ([42] : List UInt8) then (some (wrap64 (a1_0 * a2_0), wrap64 (a1_1 * a2_1))) else (if a2_0 < 0 then (some (wrap64 ((wrap64 (-a1_0)) * a2_1), wrap64 ((wrap64 (-a1_1)) * a2_0))) else (some (wrap64 (a1_0 * a2_1), wrap64 (a1_1 * a2_0))))))) = some (r1, r2) := h
 clear h
 by_cases c4 : a0.toList = ([43] : List UInt8)
 ·
  rw [if_pos c4] at H
  have c4b0 : (a0.toList == ([43] : List UInt8)) = true := beq_iff_eq.mpr c4
  have c4b1 : (a0.toList != ([43] : List UInt8)) = false := bne_eq_false_iff_eq.mpr c4
  clear c4
  simp only [Option.some.injEq, Prod.mk.injEq] at H
  obtain ⟨rfl, rfl⟩ := H
  go_enter Tryz.func84, Tryz.ntmps84
  iterate 4 (go_wp2_with (first | ((with_reducible refine gate_dst (N := 4) rfl ?_); refine boxF (N := 4) (cs := #[.int .i64 a1_0, .int .i64 a1_1]) (t := 23) ?_; intro gb274 hg w5 hbox hb; have hS := Stp.mk hb; have BK274 := Fa.mk (hbox); have GW274 := Fa.mk (gle hg : w.heap.size ≤ gb274); have GE274 := GW274; clear hb hbox hg) | ((with_reducible refine gate_dst (N := 5) rfl ?_); refine boxF (N := 5) (cs := #[.int .i64 a2_0, .int .i64 a2_1]) (t := 23) ?_; intro gb275 hg w6 hbox hb; have hS := Stp.mk hb; have BK274 := (⟨fa⟩ : Fa (w6.heap[gb274]? = some (.cells #[.int .i64 a1_0, .int .i64 a1_1] 23 (0, 0)))); have BK275 := Fa.mk (hbox); have GW275 := Fa.mk (gle hg : w.heap.size ≤ gb275); have GE275 := GW275; have NB274_275 := Fa.mk (gne (o := .cells #[.int .i64 a1_0, .int .i64 a1_1] 23 (0, 0)) hg : gb274 ≠ gb275); have NB275_274 := Fa.mk NB274_275.out.symm; clear hb hbox hg; have hnb7 := NB274_275.out; have hnc7 := NB275_274.out; have hcz8_0 := jcell BK274.out (i := 0) rfl; have hcz8_1 := jcell BK274.out (i := 1) rfl; have hfz8_0 := blk_frozen BK274.out 0; have hfz8_1 := blk_frozen BK274.out 1; have hcz9_0 := jcell BK275.out (i := 0) rfl; have hcz9_1 := jcell BK275.out (i := 1) rfl; have hfz9_0 := blk_frozen BK275.out 0; have hfz9_1 := blk_frozen BK275.out 1)); (try go_quiet (fail)))
  go_ret2
  exact ⟨rfl, fa⟩
 ·
  rw [if_neg c4] at H
  have c4b0 : (a0.toList == ([43] : List UInt8)) = false := beq_eq_false_iff_ne.mpr c4
  have c4b1 : (a0.toList != ([43] : List UInt8)) = true := bne_iff_ne.mpr c4
  by_cases c10 : a0.toList = ([45] : List UInt8)
  ·
   rw [if_pos c10] at H
   have c10b0 : (a0.toList == ([45] : List UInt8)) = true := beq_iff_eq.mpr c10
   have c10b1 : (a0.toList != ([45] : List UInt8)) = false := bne_eq_false_iff_eq.mpr c10
   clear c10
   simp only [Option.some.injEq, Prod.mk.injEq] at H
   obtain ⟨rfl, rfl⟩ := H
   go_enter Tryz.func84, Tryz.ntmps84
   iterate 4 (go_wp2_with (first | ((with_reducible refine gate_dst (N := 4) rfl ?_); refine boxF (N := 4) (cs := #[.int .i64 a1_0, .int .i64 a1_1]) (t := 23) ?_; intro gb274 hg w11 hbox hb; have hS := Stp.mk hb; have BK274 := Fa.mk (hbox); have GW274 := Fa.mk (gle hg : w.heap.size ≤ gb274); have GE274 := GW274; clear hb hbox hg) | ((with_reducible refine gate_dst (N := 5) rfl ?_); refine boxF (N := 5) (cs := #[.int .i64 a2_0, .int .i64 a2_1]) (t := 23) ?_; intro gb275 hg w12 hbox hb; have hS := Stp.mk hb; have BK274 := (⟨fa⟩ : Fa (w12.heap[gb274]? = some (.cells #[.int .i64 a1_0, .int .i64 a1_1] 23 (0, 0)))); have BK275 := Fa.mk (hbox); have GW275 := Fa.mk (gle hg : w.heap.size ≤ gb275); have GE275 := GW275; have NB274_275 := Fa.mk (gne (o := .cells #[.int .i64 a1_0, .int .i64 a1_1] 23 (0, 0)) hg : gb274 ≠ gb275); have NB275_274 := Fa.mk NB274_275.out.symm; clear hb hbox hg; have hnb13 := NB274_275.out; have hnc13 := NB275_274.out; have hcz14_0 := jcell BK274.out (i := 0) rfl; have hcz14_1 := jcell BK274.out (i := 1) rfl; have hfz14_0 := blk_frozen BK274.out 0; have hfz14_1 := blk_frozen BK274.out 1; have hcz15_0 := jcell BK275.out (i := 0) rfl; have hcz15_1 := jcell BK275.out (i := 1) rfl; have hfz15_0 := blk_frozen BK275.out 0; have hfz15_1 := blk_frozen BK275.out 1)); (try go_quiet (fail)))
   go_ret2
   exact ⟨rfl, fa⟩
  ·
   rw [if_neg c10] at H
   have c10b0 : (a0.toList == ([45] : List UInt8)) = false := beq_eq_false_iff_ne.mpr c10
   have c10b1 : (a0.toList != ([45] : List UInt8)) = true := bne_iff_ne.mpr c10
   by_cases c16 : a0.toList = ([42] : List UInt8)
   ·
    rw [if_pos c16] at H
    have c16b0 : (a0.toList == ([42] : List UInt8)) = true := beq_iff_eq.mpr c16
    have c16b1 : (a0.toList != ([42] : List UInt8)) = false := bne_eq_false_iff_eq.mpr c16
    clear c16
    simp only [Option.some.injEq, Prod.mk.injEq] at H
    obtain ⟨rfl, rfl⟩ := H
    go_enter Tryz.func84, Tryz.ntmps84
    iterate 4 (go_wp2_with (first | ((with_reducible refine gate_dst (N := 4) rfl ?_); refine boxF (N := 4) (cs := #[.int .i64 a1_0, .int .i64 a1_1]) (t := 23) ?_; intro gb274 hg w17 hbox hb; have hS := Stp.mk hb; have BK274 := Fa.mk (hbox); have GW274 := Fa.mk (gle hg : w.heap.size ≤ gb274); have GE274 := GW274; clear hb hbox hg) | ((with_reducible refine gate_dst (N := 5) rfl ?_); refine boxF (N := 5) (cs := #[.int .i64 a2_0, .int .i64 a2_1]) (t := 23) ?_; intro gb275 hg w18 hbox hb; have hS := Stp.mk hb; have BK274 := (⟨fa⟩ : Fa (w18.heap[gb274]? = some (.cells #[.int .i64 a1_0, .int .i64 a1_1] 23 (0, 0)))); have BK275 := Fa.mk (hbox); have GW275 := Fa.mk (gle hg : w.heap.size ≤ gb275); have GE275 := GW275; have NB274_275 := Fa.mk (gne (o := .cells #[.int .i64 a1_0, .int .i64 a1_1] 23 (0, 0)) hg : gb274 ≠ gb275); have NB275_274 := Fa.mk NB274_275.out.symm; clear hb hbox hg; have hnb19 := NB274_275.out; have hnc19 := NB275_274.out; have hcz20_0 := jcell BK274.out (i := 0) rfl; have hcz20_1 := jcell BK274.out (i := 1) rfl; have hfz20_0 := blk_frozen BK274.out 0; have hfz20_1 := blk_frozen BK274.out 1; have hcz21_0 := jcell BK275.out (i := 0) rfl; have hcz21_1 := jcell BK275.out (i := 1) rfl; have hfz21_0 := blk_frozen BK275.out 0; have hfz21_1 := blk_frozen BK275.out 1)); (try go_quiet (fail)))
    go_ret2
    exact ⟨rfl, fa⟩
   ·
    rw [if_neg c16] at H
    have c16b0 : (a0.toList == ([42] : List UInt8)) = false := beq_eq_false_iff_ne.mpr c16
    have c16b1 : (a0.toList != ([42] : List UInt8)) = true := bne_iff_ne.mpr c16
    by_cases c22 : a2_0 < 0
    ·
     rw [if_pos c22] at H
     have c22b0 : decide (a2_0 < 0) = true := decide_eq_true c22
     clear c22
     simp only [Option.some.injEq, Prod.mk.injEq] at H
     obtain ⟨rfl, rfl⟩ := H
     go_enter Tryz.func84, Tryz.ntmps84
     iterate 4 (go_wp2_with (first | ((with_reducible refine gate_dst (N := 4) rfl ?_); refine boxF (N := 4) (cs := #[.int .i64 a1_0, .int .i64 a1_1]) (t := 23) ?_; intro gb274 hg w23 hbox hb; have hS := Stp.mk hb; have BK274 := Fa.mk (hbox); have GW274 := Fa.mk (gle hg : w.heap.size ≤ gb274); have GE274 := GW274; clear hb hbox hg) | ((with_reducible refine gate_dst (N := 5) rfl ?_); refine boxF (N := 5) (cs := #[.int .i64 a2_0, .int .i64 a2_1]) (t := 23) ?_; intro gb275 hg w24 hbox hb; have hS := Stp.mk hb; have BK274 := (⟨fa⟩ : Fa (w24.heap[gb274]? = some (.cells #[.int .i64 a1_0, .int .i64 a1_1] 23 (0, 0)))); have BK275 := Fa.mk (hbox); have GW275 := Fa.mk (gle hg : w.heap.size ≤ gb275); have GE275 := GW275; have NB274_275 := Fa.mk (gne (o := .cells #[.int .i64 a1_0, .int .i64 a1_1] 23 (0, 0)) hg : gb274 ≠ gb275); have NB275_274 := Fa.mk NB274_275.out.symm; clear hb hbox hg; have hnb25 := NB275_274.out; have hnc25 := NB274_275.out; have hcz26_0 := jcell BK275.out (i := 0) rfl; have hcz26_1 := jcell BK275.out (i := 1) rfl; have hfz26_0 := blk_frozen BK275.out 0; have hfz26_1 := blk_frozen BK275.out 1; have hcz27_0 := jcell BK274.out (i := 0) rfl; have hcz27_1 := jcell BK274.out (i := 1) rfl; have hfz27_0 := blk_frozen BK274.out 0; have hfz27_1 := blk_frozen BK274.out 1)); (try go_quiet (fail)))
     go_ret2
     exact ⟨rfl, fa⟩
    ·
     rw [if_neg c22] at H
     have c22b0 : decide (a2_0 < 0) = false := decide_eq_false c22
     clear c22
     simp only [Option.some.injEq, Prod.mk.injEq] at H
     obtain ⟨rfl, rfl⟩ := H
     go_enter Tryz.func84, Tryz.ntmps84
     iterate 4 (go_wp2_with (first | ((with_reducible refine gate_dst (N := 4) rfl ?_); refine boxF (N := 4) (cs := #[.int .i64 a1_0, .int .i64 a1_1]) (t := 23) ?_; intro gb274 hg w28 hbox hb; have hS := Stp.mk hb; have BK274 := Fa.mk (hbox); have GW274 := Fa.mk (gle hg : w.heap.size ≤ gb274); have GE274 := GW274; clear hb hbox hg) | ((with_reducible refine gate_dst (N := 5) rfl ?_); refine boxF (N := 5) (cs := #[.int .i64 a2_0, .int .i64 a2_1]) (t := 23) ?_; intro gb275 hg w29 hbox hb; have hS := Stp.mk hb; have BK274 := (⟨fa⟩ : Fa (w29.heap[gb274]? = some (.cells #[.int .i64 a1_0, .int .i64 a1_1] 23 (0, 0)))); have BK275 := Fa.mk (hbox); have GW275 := Fa.mk (gle hg : w.heap.size ≤ gb275); have GE275 := GW275; have NB274_275 := Fa.mk (gne (o := .cells #[.int .i64 a1_0, .int .i64 a1_1] 23 (0, 0)) hg : gb274 ≠ gb275); have NB275_274 := Fa.mk NB274_275.out.symm; clear hb hbox hg; have hnb30 := NB275_274.out; have hnc30 := NB274_275.out; have hcz31_0 := jcell BK275.out (i := 0) rfl; have hcz31_1 := jcell BK275.out (i := 1) rfl; have hfz31_0 := blk_frozen BK275.out 0; have hfz31_1 := blk_frozen BK275.out 1; have hcz32_0 := jcell BK274.out (i := 0) rfl; have hcz32_1 := jcell BK274.out (i := 1) rfl; have hfz32_0 := blk_frozen BK274.out 0; have hfz32_1 := blk_frozen BK274.out 1)); (try go_quiet (fail)))
     go_ret2
     exact ⟨rfl, fa⟩
def fleuronref01_lowest.j0 : Nat → Bool → Int → Int → Bool → Option (Int × Int × Int)
  | 0, _, _, _, _ => none
  | k + 1, x0, x1, x2, x23 => if x23 = true then (some (0, 0, 17)) else (if x0 = true then (some (wrap64 (-(wrap64 (x1))), wrap64 (x2), 0)) else (some (wrap64 (x1), wrap64 (x2), 0)))
def fleuronref01_lowest.f (k : Nat) (a0 : Bool) (a1 : Int) (a2 : Int) : Option (Int × Int × Int) := (fleuronref01_gcd.f k a1 a2).bind fun t277 => (if t277 = 0 then (none) else (if (IntKind.u64.wrap (Int.tdiv a1 t277)) > 2147483647 then (fleuronref01_lowest.j0 k a0 (IntKind.u64.wrap (Int.tdiv a1 t277)) (IntKind.u64.wrap (Int.tdiv a2 t277)) true) else (fleuronref01_lowest.j0 k a0 (IntKind.u64.wrap (Int.tdiv a1 t277)) (IntKind.u64.wrap (Int.tdiv a2 t277)) (decide ((IntKind.u64.wrap (Int.tdiv a2 t277)) > 2147483647)))))
set_option maxHeartbeats 8000000 in
set_option maxRecDepth 100000 in
theorem fleuronref01_lowest.calls (k : Nat) (a0 : Bool) (a1 : Int) (a2 : Int) (r1 : Int) (r2 : Int) (r3 : Int) (w : World) (h : fleuronref01_lowest.f k a0 a1 a2 = some (r1, r2, r3)) :
  Calls Tryz.prog 107 #[.bool a0, .int .u64 a1, .int .u64 a2] w fun e w' => e = .returned (.tuple #[.agg #[.int .i64 r1, .int .i64 r2], .int .i64 r3]) ∧ Below w.heap.size w w' := by
 have hu23 := Tryz.underlying23
 have HB := Fa.mk (Below.refl w.heap.size w)
 have H : ((fleuronref01_gcd.f k a1 a2).bind fun t277 => (if t277 = 0 then (none) else (if (IntKind.u64.wrap (Int.tdiv a1 t277)) > 2147483647 then (fleuronref01_lowest.j0 k a0 (IntKind.u64.wrap (Int.tdiv a1 t277)) (IntKind.u64.wrap (Int.tdiv a2 t277)) true) else (fleuronref01_lowest.j0 k a0 (IntKind.u64.wrap (Int.tdiv a1 t277)) (IntKind.u64.wrap (Int.tdiv a2 t277)) (decide ((IntKind.u64.wrap (Int.tdiv a2 t277)) > 2147483647)))))) = some (r1, r2, r3) := h
 clear h
 replace H := Option.bind_eq_some_iff.mp H
 obtain ⟨t277, A40, H⟩ := H
 (try dsimp only at H)
 have A4 := Fa.mk A40
 clear A40
 by_cases c5 : t277 = 0
 ·
  rw [if_pos c5] at H
  exact absurd H (by simp)
 ·
  rw [if_neg c5] at H
  have c5b0 : (t277 == 0) = false := beq_eq_false_iff_ne.mpr c5
  have c5b1 : (t277 != 0) = true := bne_iff_ne.mpr c5
  have HC6 := Fa.mk H
  clear H
  go_enter Tryz.func107, Tryz.ntmps107
  go_upto_region 3 with (first | ((with_reducible refine gate_dst (N := 6) rfl ?_); refine boxF (N := 6) (cs := #[.int .i64 0, .int .i64 0]) (t := 23) ?_; intro gb276 hg w7 hbox hb; have n0_ := Fa.mk (bst w hb); have n1_ := Fa.mk (hbox); have n2_ := Fa.mk (gle hg : w.heap.size ≤ gb276); have n3_ := n2_; clear HB; have HB := n0_; have BK276 := n1_; have GW276 := n2_; have GE276 := n3_; clear n0_ n1_ n2_ n3_; clear hb hbox hg) | (go_at_call 72; (with_reducible refine (fleuronref01_gcd.calls k a1 a2 t277 _ A4.out).mono ?_); rintro e w' ⟨rfl, ⟨nd, rfl⟩⟩; (try first | exact ⟨rfl, _, World.drewN_drewN _ _ _⟩ | exact ⟨rfl, _, Eq.trans (World.drewN_drewN _ _ _) (congrArg (World.drewN _) (Nat.add_assoc _ _ _))⟩)))
  repeat (go_quiet (first | ((with_reducible refine gate_dst (N := 6) rfl ?_); refine boxF (N := 6) (cs := #[.int .i64 0, .int .i64 0]) (t := 23) ?_; intro gb276 hg w7 hbox hb; have n0_ := Fa.mk (bst w hb); have n1_ := Fa.mk (hbox); have n2_ := Fa.mk (gle hg : w.heap.size ≤ gb276); have n3_ := n2_; clear HB; have HB := n0_; have BK276 := n1_; have GW276 := n2_; have GE276 := n3_; clear n0_ n1_ n2_ n3_; clear hb hbox hg) | (go_at_call 72; (with_reducible refine (fleuronref01_gcd.calls k a1 a2 t277 _ A4.out).mono ?_); rintro e w' ⟨rfl, ⟨nd, rfl⟩⟩; (try first | exact ⟨rfl, _, World.drewN_drewN _ _ _⟩ | exact ⟨rfl, _, Eq.trans (World.drewN_drewN _ _ _) (congrArg (World.drewN _) (Nat.add_assoc _ _ _))⟩))); go_upto_region 3 with (first | ((with_reducible refine gate_dst (N := 6) rfl ?_); refine boxF (N := 6) (cs := #[.int .i64 0, .int .i64 0]) (t := 23) ?_; intro gb276 hg w7 hbox hb; have n0_ := Fa.mk (bst w hb); have n1_ := Fa.mk (hbox); have n2_ := Fa.mk (gle hg : w.heap.size ≤ gb276); have n3_ := n2_; clear HB; have HB := n0_; have BK276 := n1_; have GW276 := n2_; have GE276 := n3_; clear n0_ n1_ n2_ n3_; clear hb hbox hg) | (go_at_call 72; (with_reducible refine (fleuronref01_gcd.calls k a1 a2 t277 _ A4.out).mono ?_); rintro e w' ⟨rfl, ⟨nd, rfl⟩⟩; (try first | exact ⟨rfl, _, World.drewN_drewN _ _ _⟩ | exact ⟨rfl, _, Eq.trans (World.drewN_drewN _ _ _) (congrArg (World.drewN _) (Nat.add_assoc _ _ _))⟩))))
  (try simp only [Act.put, List.setIfInBounds_toArray, List.set_cons_zero, List.set_cons_succ])
  go_cut [23] (fun v23 wc => ∃ (kq : Nat) (x23_5 : Bool), v23 = .bool x23_5 ∧ Fa (fleuronref01_lowest.j0 kq a0 (IntKind.u64.wrap (Int.tdiv a1 t277)) (IntKind.u64.wrap (Int.tdiv a2 t277)) x23_5 = some (r1, r2, r3)) ∧ Fa (kq ≤ k) ∧ Fa (wc.heap[gb276]? = some (.cells #[.int .i64 0, .int .i64 0] 23 (0, 0))) ∧ Fa (Below w.heap.size w wc))
  case first =>
   have H := HC6.out
   clear HC6
   by_cases c8 : (IntKind.u64.wrap (Int.tdiv a1 t277)) > 2147483647
   ·
    rw [if_pos c8] at H
    have c8b0 : decide (2147483647 < (IntKind.u64.wrap (Int.tdiv a1 t277))) = true := decide_eq_true c8
    clear c8
    (first | rw [c8b0] | (simp only [i64_w, i32_w]; rw [c8b0]) | skip)
    have H' := Fa.mk H
    clear H
    go_wp2
    repeat (go_quiet (fail); try go_wp2)
    go_meet
    case rel => exact ⟨_, (true), (by first | rfl | (simp; done) | (simp [*]; done)), H', ⟨by first | omega | exact Nat.le_refl _⟩, ⟨fa⟩, ⟨fa⟩⟩
   ·
    rw [if_neg c8] at H
    have c8b0 : decide (2147483647 < (IntKind.u64.wrap (Int.tdiv a1 t277))) = false := decide_eq_false c8
    clear c8
    (first | rw [c8b0] | (simp only [i64_w, i32_w]; rw [c8b0]) | skip)
    have H' := Fa.mk H
    clear H
    go_wp2
    repeat (go_quiet (fail); try go_wp2)
    go_meet
    case rel => exact ⟨_, (decide ((IntKind.u64.wrap (Int.tdiv a2 t277)) > 2147483647)), (by first | rfl | (simp; done) | (simp [*]; done)), H', ⟨by first | omega | exact Nat.le_refl _⟩, ⟨fa⟩, ⟨fa⟩⟩
  case rest =>
   clear HC6
   (try clear c1);(try clear p2);(try clear c5);(try clear c5b0);(try clear c5b1);(try clear c8);(try clear c8b0)
   obtain ⟨kq, x23_5, rfl, HA, HJ5, BK276, HB⟩ := hcut
   cases kq with
   | zero => exact absurd HA.out (by simp [fleuronref01_lowest.j0])
   | succ kj5 =>
    have H := HA.out
    clear HA
    simp only [fleuronref01_lowest.j0] at H
    by_cases c9 : x23_5 = true
    ·
     subst c9
     rw [if_pos rfl] at H
     simp only [Option.some.injEq, Prod.mk.injEq] at H
     obtain ⟨rfl, rfl, rfl⟩ := H
     have hcz10_0 := jcell BK276.out (i := 0) rfl
     have hcz10_1 := jcell BK276.out (i := 1) rfl
     have hfz10_0 := blk_frozen BK276.out 0
     have hfz10_1 := blk_frozen BK276.out 1
     go_wp2
     repeat (go_quiet (fail); try go_wp2)
     refine bodyPost_ret (results_ct rfl _ _ gb276 23 #[.int .i64 0, .int .i64 0] (0, 0) _ rfl (by (with_reducible repeat (first | refine blk_drewN ?_ _ | refine blk_drew ?_ | refine blk_alloc ?_ _)); refine blk_put (cs := #[.int .i64 0, .int .i64 0]) ?_ 1 _ rfl; (with_reducible repeat (first | refine blk_drewN ?_ _ | refine blk_drew ?_ | refine blk_alloc ?_ _)); refine blk_put (cs := #[.int .i64 0, .int .i64 0]) ?_ 0 _ rfl; (with_reducible repeat (first | refine blk_drewN ?_ _ | refine blk_drew ?_ | refine blk_alloc ?_ _)); exact fa) Tryz.underlying23 rfl (by kernel_rfl)) rfl ?_
     exact ⟨rfl, fa⟩
    ·
     replace c9 := Bool.eq_false_iff.mpr c9
     subst c9
     rw [if_neg (show ¬ (false = true) by decide)] at H
     by_cases c11 : a0 = true
     ·
      subst c11
      rw [if_pos rfl] at H
      simp only [Option.some.injEq, Prod.mk.injEq] at H
      obtain ⟨rfl, rfl, rfl⟩ := H
      have hcz12_0 := jcell BK276.out (i := 0) rfl
      have hcz12_1 := jcell BK276.out (i := 1) rfl
      have hfz12_0 := blk_frozen BK276.out 0
      have hfz12_1 := blk_frozen BK276.out 1
      go_wp2
      repeat (go_quiet (fail); try go_wp2)
      refine bodyPost_ret (results_ct rfl _ _ gb276 23 #[.int .i64 (wrap64 (-(wrap64 ((IntKind.u64.wrap (Int.tdiv a1 t277)))))), .int .i64 (wrap64 ((IntKind.u64.wrap (Int.tdiv a2 t277))))] (0, 0) _ rfl (by (with_reducible repeat (first | refine blk_drewN ?_ _ | refine blk_drew ?_ | refine blk_alloc ?_ _)); refine blk_put (cs := #[.int .i64 (wrap64 (-(wrap64 ((IntKind.u64.wrap (Int.tdiv a1 t277)))))), .int .i64 0]) ?_ 1 _ rfl; (with_reducible repeat (first | refine blk_drewN ?_ _ | refine blk_drew ?_ | refine blk_alloc ?_ _)); refine blk_put (cs := #[.int .i64 0, .int .i64 0]) ?_ 0 _ rfl; (with_reducible repeat (first | refine blk_drewN ?_ _ | refine blk_drew ?_ | refine blk_alloc ?_ _)); exact fa) Tryz.underlying23 rfl (by kernel_rfl)) rfl ?_
      exact ⟨rfl, fa⟩
     ·
      replace c11 := Bool.eq_false_iff.mpr c11
      subst c11
      rw [if_neg (show ¬ (false = true) by decide)] at H
      simp only [Option.some.injEq, Prod.mk.injEq] at H
      obtain ⟨rfl, rfl, rfl⟩ := H
      have hcz13_0 := jcell BK276.out (i := 0) rfl
      have hcz13_1 := jcell BK276.out (i := 1) rfl
      have hfz13_0 := blk_frozen BK276.out 0
      have hfz13_1 := blk_frozen BK276.out 1
      go_wp2
      repeat (go_quiet (fail); try go_wp2)
      refine bodyPost_ret (results_ct rfl _ _ gb276 23 #[.int .i64 (wrap64 ((IntKind.u64.wrap (Int.tdiv a1 t277)))), .int .i64 (wrap64 ((IntKind.u64.wrap (Int.tdiv a2 t277))))] (0, 0) _ rfl (by (with_reducible repeat (first | refine blk_drewN ?_ _ | refine blk_drew ?_ | refine blk_alloc ?_ _)); refine blk_put (cs := #[.int .i64 (wrap64 ((IntKind.u64.wrap (Int.tdiv a1 t277)))), .int .i64 0]) ?_ 1 _ rfl; (with_reducible repeat (first | refine blk_drewN ?_ _ | refine blk_drew ?_ | refine blk_alloc ?_ _)); refine blk_put (cs := #[.int .i64 0, .int .i64 0]) ?_ 0 _ rfl; (with_reducible repeat (first | refine blk_drewN ?_ _ | refine blk_drew ?_ | refine blk_alloc ?_ _)); exact fa) Tryz.underlying23 rfl (by kernel_rfl)) rfl ?_
      exact ⟨rfl, fa⟩
def fleuronref01_Make.f (k : Nat) (a0 : Int) (a1 : Int) : Option (Int × Int × Int) := if a1 = 0 then (some (0, 0, 18)) else (if ((decide (a0 < 0)) != (decide (a1 < 0))) = true then ((fleuronref01_size.f a0).bind fun t279 => ((fleuronref01_size.f a1).bind fun t280 => ((fleuronref01_lowest.f k (a0 != 0) t279 t280).bind fun bt281 => (some (bt281.1, bt281.2.1, bt281.2.2))))) else ((fleuronref01_size.f a0).bind fun t284 => ((fleuronref01_size.f a1).bind fun t285 => ((fleuronref01_lowest.f k false t284 t285).bind fun bt286 => (some (bt286.1, bt286.2.1, bt286.2.2))))))
set_option maxHeartbeats 8000000 in
set_option maxRecDepth 100000 in
theorem fleuronref01_Make.calls (k : Nat) (a0 : Int) (a1 : Int) (r1 : Int) (r2 : Int) (r3 : Int) (w : World) (h : fleuronref01_Make.f k a0 a1 = some (r1, r2, r3)) :
  Calls Tryz.prog 85 #[.int .i64 a0, .int .i64 a1] w fun e w' => e = .returned (.tuple #[.agg #[.int .i64 r1, .int .i64 r2], .int .i64 r3]) ∧ Below w.heap.size w w' := by
 have hu23 := Tryz.underlying23
 have HB := Fa.mk (Below.refl w.heap.size w)
 have H : (if a1 = 0 then (some (0, 0, 18)) else (if ((decide (a0 < 0)) != (decide (a1 < 0))) = true then ((fleuronref01_size.f a0).bind fun t279 => ((fleuronref01_size.f a1).bind fun t280 => ((fleuronref01_lowest.f k (a0 != 0) t279 t280).bind fun bt281 => (some (bt281.1, bt281.2.1, bt281.2.2))))) else ((fleuronref01_size.f a0).bind fun t284 => ((fleuronref01_size.f a1).bind fun t285 => ((fleuronref01_lowest.f k false t284 t285).bind fun bt286 => (some (bt286.1, bt286.2.1, bt286.2.2))))))) = some (r1, r2, r3) := h
 clear h
 by_cases c3 : a1 = 0
 ·
  rw [if_pos c3] at H
  have c3b0 : (a1 == 0) = true := beq_iff_eq.mpr c3
  have c3b1 : (a1 != 0) = false := bne_eq_false_iff_eq.mpr c3
  clear c3
  simp only [Option.some.injEq, Prod.mk.injEq] at H
  obtain ⟨rfl, rfl, rfl⟩ := H
  go_enter Tryz.func85, Tryz.ntmps85
  go_wp2_with (first | ((with_reducible refine gate_dst (N := 4) rfl ?_); refine boxF (N := 4) (cs := #[.int .i64 0, .int .i64 0]) (t := 23) ?_; intro gb278 hg w4 hbox hb; have n0_ := Fa.mk (bst w hb); have n1_ := Fa.mk (hbox); have n2_ := Fa.mk (gle hg : w.heap.size ≤ gb278); have n3_ := n2_; clear HB; have HB := n0_; have BK278 := n1_; have GW278 := n2_; have GE278 := n3_; clear n0_ n1_ n2_ n3_; clear hb hbox hg; have hcz5_0 := jcell BK278.out (i := 0) rfl; have hcz5_1 := jcell BK278.out (i := 1) rfl; have hfz5_0 := blk_frozen BK278.out 0; have hfz5_1 := blk_frozen BK278.out 1))
  refine bodyPost_ret (results_ct rfl _ _ gb278 23 #[.int .i64 0, .int .i64 0] (0, 0) _ rfl (by (with_reducible repeat (first | refine blk_drewN ?_ _ | refine blk_drew ?_ | refine blk_alloc ?_ _)); refine blk_put (cs := #[.int .i64 0, .int .i64 0]) ?_ 1 _ rfl; (with_reducible repeat (first | refine blk_drewN ?_ _ | refine blk_drew ?_ | refine blk_alloc ?_ _)); refine blk_put (cs := #[.int .i64 0, .int .i64 0]) ?_ 0 _ rfl; (with_reducible repeat (first | refine blk_drewN ?_ _ | refine blk_drew ?_ | refine blk_alloc ?_ _)); exact fa) Tryz.underlying23 rfl (by kernel_rfl)) rfl ?_
  exact ⟨rfl, fa⟩
 ·
  rw [if_neg c3] at H
  have c3b0 : (a1 == 0) = false := beq_eq_false_iff_ne.mpr c3
  have c3b1 : (a1 != 0) = true := bne_iff_ne.mpr c3
  by_cases c6 : ((decide (a0 < 0)) != (decide (a1 < 0))) = true
  ·
   rw [if_pos c6] at H
   have c6b0 : ((decide (a0 < 0)) != (decide (a1 < 0))) = true := c6
   (try (have c6b1 : decide ((decide (a0 < 0)) = (decide (a1 < 0))) = false := by simpa using c6))
   (try (have c6b2 : ((decide (a0 < 0)) == (decide (a1 < 0))) = false := by simpa using c6))
   (try (have c6b3 : ¬ ((decide (a0 < 0)) = (decide (a1 < 0))) := by simpa using c6))
   clear c6
   replace H := Option.bind_eq_some_iff.mp H
   obtain ⟨t279, A70, H⟩ := H
   (try dsimp only at H)
   have A7 := Fa.mk A70
   clear A70
   replace H := Option.bind_eq_some_iff.mp H
   obtain ⟨t280, A80, H⟩ := H
   (try dsimp only at H)
   have A8 := Fa.mk A80
   clear A80
   replace H := Option.bind_eq_some_iff.mp H
   obtain ⟨⟨t281, t282, t283⟩, A90, H⟩ := H
   (try dsimp only at H)
   have A9 := Fa.mk A90
   clear A90
   simp only [Option.some.injEq, Prod.mk.injEq] at H
   obtain ⟨rfl, rfl, rfl⟩ := H
   go_enter Tryz.func85, Tryz.ntmps85
   go_wp2_with (first | ((with_reducible refine gate_dst (N := 4) rfl ?_); refine boxF (N := 4) (cs := #[.int .i64 0, .int .i64 0]) (t := 23) ?_; intro gb278 hg w10 hbox hb; have hS := Stp.mk hb; have BK278 := Fa.mk (hbox); have GW278 := Fa.mk (gle hg : w.heap.size ≤ gb278); have GE278 := GW278; clear hb hbox hg) | ((with_reducible refine gate_callee (f := 73) rfl ?_); refine goesA (some 19) rfl rfl Tryz.func73 (by kernel_rfl) rfl #[.int .i64 a0] rfl ?_; (with_reducible refine (fleuronref01_size.calls a0 t279 _ A7.out).mono ?_); rintro e w' ⟨rfl, ⟨nd, rfl⟩⟩; refine ⟨_, rfl, ?_⟩; (try (rw [drewN_self w10]; generalize hq_ : World.drewN w10 _ = w10; have n0_ : Fa (w10.heap[gb278]? = some (.cells #[.int .i64 0, .int .i64 0] 23 (0, 0))) := ⟨by rw [← hq_]; exact fa⟩; have n1_ : Fa (Below w.heap.size w w10) := ⟨by rw [← hq_]; exact fa⟩; clear BK278 HB hq_; have BK278 := n0_; have HB := n1_; clear n0_ n1_))) | ((with_reducible refine gate_callee (f := 73) rfl ?_); refine goesA (some 21) rfl rfl Tryz.func73 (by kernel_rfl) rfl #[.int .i64 a1] rfl ?_; (with_reducible refine (fleuronref01_size.calls a1 t280 _ A8.out).mono ?_); rintro e w' ⟨rfl, ⟨nd, rfl⟩⟩; refine ⟨_, rfl, ?_⟩; (try (rw [drewN_self w10]; generalize hq_ : World.drewN w10 _ = w10; have n0_ : Fa (w10.heap[gb278]? = some (.cells #[.int .i64 0, .int .i64 0] 23 (0, 0))) := ⟨by rw [← hq_]; exact fa⟩; have n1_ : Fa (Below w.heap.size w w10) := ⟨by rw [← hq_]; exact fa⟩; clear BK278 HB hq_; have BK278 := n0_; have HB := n1_; clear n0_ n1_))) | ((with_reducible refine gate_callee (f := 107) rfl ?_); refine goesA (some 22) rfl rfl Tryz.func107 (by kernel_rfl) rfl #[.bool (a0 != 0), .int .u64 t279, .int .u64 t280] rfl ?_; (with_reducible refine (fleuronref01_lowest.calls k (a0 != 0) t279 t280 t281 t282 t283 _ A9.out).mono ?_); rintro e w11 ⟨rfl, hb⟩; refine ⟨_, rfl, ?_⟩; have hS := Stp.mk hb; have BK278 := (⟨fa⟩ : Fa (w11.heap[gb278]? = some (.cells #[.int .i64 0, .int .i64 0] 23 (0, 0)))); clear hb; have hcz12_0 := jcell BK278.out (i := 0) rfl; have hcz12_1 := jcell BK278.out (i := 1) rfl; have hfz12_0 := blk_frozen BK278.out 0; have hfz12_1 := blk_frozen BK278.out 1))
   refine bodyPost_ret (results_ct rfl _ _ gb278 23 #[.int .i64 t281, .int .i64 t282] (0, 0) _ rfl (by (with_reducible repeat (first | refine blk_drewN ?_ _ | refine blk_drew ?_ | refine blk_alloc ?_ _)); refine blk_put (cs := #[.int .i64 t281, .int .i64 0]) ?_ 1 _ rfl; (with_reducible repeat (first | refine blk_drewN ?_ _ | refine blk_drew ?_ | refine blk_alloc ?_ _)); refine blk_put (cs := #[.int .i64 0, .int .i64 0]) ?_ 0 _ rfl; (with_reducible repeat (first | refine blk_drewN ?_ _ | refine blk_drew ?_ | refine blk_alloc ?_ _)); exact fa) Tryz.underlying23 rfl (by kernel_rfl)) rfl ?_
   exact ⟨rfl, fa⟩
  ·
   rw [if_neg c6] at H
   have c6b0 : ((decide (a0 < 0)) != (decide (a1 < 0))) = false := by simpa using c6
   (try (have c6b1 : decide ((decide (a0 < 0)) = (decide (a1 < 0))) = true := by simpa using c6))
   (try (have c6b2 : ((decide (a0 < 0)) == (decide (a1 < 0))) = true := by simpa using c6))
   clear c6
   replace H := Option.bind_eq_some_iff.mp H
   obtain ⟨t284, A130, H⟩ := H
   (try dsimp only at H)
   have A13 := Fa.mk A130
   clear A130
   replace H := Option.bind_eq_some_iff.mp H
   obtain ⟨t285, A140, H⟩ := H
   (try dsimp only at H)
   have A14 := Fa.mk A140
   clear A140
   replace H := Option.bind_eq_some_iff.mp H
   obtain ⟨⟨t286, t287, t288⟩, A150, H⟩ := H
   (try dsimp only at H)
   have A15 := Fa.mk A150
   clear A150
   simp only [Option.some.injEq, Prod.mk.injEq] at H
   obtain ⟨rfl, rfl, rfl⟩ := H
   go_enter Tryz.func85, Tryz.ntmps85
   go_wp2_with (first | ((with_reducible refine gate_dst (N := 4) rfl ?_); refine boxF (N := 4) (cs := #[.int .i64 0, .int .i64 0]) (t := 23) ?_; intro gb278 hg w16 hbox hb; have hS := Stp.mk hb; have BK278 := Fa.mk (hbox); have GW278 := Fa.mk (gle hg : w.heap.size ≤ gb278); have GE278 := GW278; clear hb hbox hg) | ((with_reducible refine gate_callee (f := 73) rfl ?_); refine goesA (some 19) rfl rfl Tryz.func73 (by kernel_rfl) rfl #[.int .i64 a0] rfl ?_; (with_reducible refine (fleuronref01_size.calls a0 t284 _ A13.out).mono ?_); rintro e w' ⟨rfl, ⟨nd, rfl⟩⟩; refine ⟨_, rfl, ?_⟩; (try (rw [drewN_self w16]; generalize hq_ : World.drewN w16 _ = w16; have n0_ : Fa (w16.heap[gb278]? = some (.cells #[.int .i64 0, .int .i64 0] 23 (0, 0))) := ⟨by rw [← hq_]; exact fa⟩; have n1_ : Fa (Below w.heap.size w w16) := ⟨by rw [← hq_]; exact fa⟩; clear BK278 HB hq_; have BK278 := n0_; have HB := n1_; clear n0_ n1_))) | ((with_reducible refine gate_callee (f := 73) rfl ?_); refine goesA (some 21) rfl rfl Tryz.func73 (by kernel_rfl) rfl #[.int .i64 a1] rfl ?_; (with_reducible refine (fleuronref01_size.calls a1 t285 _ A14.out).mono ?_); rintro e w' ⟨rfl, ⟨nd, rfl⟩⟩; refine ⟨_, rfl, ?_⟩; (try (rw [drewN_self w16]; generalize hq_ : World.drewN w16 _ = w16; have n0_ : Fa (w16.heap[gb278]? = some (.cells #[.int .i64 0, .int .i64 0] 23 (0, 0))) := ⟨by rw [← hq_]; exact fa⟩; have n1_ : Fa (Below w.heap.size w w16) := ⟨by rw [← hq_]; exact fa⟩; clear BK278 HB hq_; have BK278 := n0_; have HB := n1_; clear n0_ n1_))) | ((with_reducible refine gate_callee (f := 107) rfl ?_); refine goesA (some 22) rfl rfl Tryz.func107 (by kernel_rfl) rfl #[.bool false, .int .u64 t284, .int .u64 t285] rfl ?_; (with_reducible refine (fleuronref01_lowest.calls k false t284 t285 t286 t287 t288 _ A15.out).mono ?_); rintro e w17 ⟨rfl, hb⟩; refine ⟨_, rfl, ?_⟩; have hS := Stp.mk hb; have BK278 := (⟨fa⟩ : Fa (w17.heap[gb278]? = some (.cells #[.int .i64 0, .int .i64 0] 23 (0, 0)))); clear hb; have hcz18_0 := jcell BK278.out (i := 0) rfl; have hcz18_1 := jcell BK278.out (i := 1) rfl; have hfz18_0 := blk_frozen BK278.out 0; have hfz18_1 := blk_frozen BK278.out 1))
   refine bodyPost_ret (results_ct rfl _ _ gb278 23 #[.int .i64 t286, .int .i64 t287] (0, 0) _ rfl (by (with_reducible repeat (first | refine blk_drewN ?_ _ | refine blk_drew ?_ | refine blk_alloc ?_ _)); refine blk_put (cs := #[.int .i64 t286, .int .i64 0]) ?_ 1 _ rfl; (with_reducible repeat (first | refine blk_drewN ?_ _ | refine blk_drew ?_ | refine blk_alloc ?_ _)); refine blk_put (cs := #[.int .i64 0, .int .i64 0]) ?_ 0 _ rfl; (with_reducible repeat (first | refine blk_drewN ?_ _ | refine blk_drew ?_ | refine blk_alloc ?_ _)); exact fa) Tryz.underlying23 rfl (by kernel_rfl)) rfl ?_
   exact ⟨rfl, fa⟩
def fleuronref01_both.f (k : Nat) (a0_0 : Int) (a0_1 : Int) (a1_0 : Int) (a1_1 : Int) : Option (Bool) := (fleuronref01_Valid.f k a0_0 a0_1).bind fun t291 => (if t291 = true then ((fleuronref01_Valid.f k a1_0 a1_1).bind fun t292 => (some t292)) else (some false))
set_option maxHeartbeats 8000000 in
set_option maxRecDepth 100000 in
theorem fleuronref01_both.calls (k : Nat) (a0_0 : Int) (a0_1 : Int) (a1_0 : Int) (a1_1 : Int) (r : Bool) (w : World) (h : fleuronref01_both.f k a0_0 a0_1 a1_0 a1_1 = some r) :
  Calls Tryz.prog 99 #[.agg #[.int .i64 a0_0, .int .i64 a0_1], .agg #[.int .i64 a1_0, .int .i64 a1_1]] w fun e w' => e = .returned (.bool r) ∧ Below w.heap.size w w' := by
 have hu23 := Tryz.underlying23
 have HB := Fa.mk (Below.refl w.heap.size w)
 have H : ((fleuronref01_Valid.f k a0_0 a0_1).bind fun t291 => (if t291 = true then ((fleuronref01_Valid.f k a1_0 a1_1).bind fun t292 => (some t292)) else (some false))) = some r := h
 clear h
 replace H := Option.bind_eq_some_iff.mp H
 obtain ⟨t291, A30, H⟩ := H
 (try dsimp only at H)
 have A3 := Fa.mk A30
 clear A30
 by_cases c4 : t291 = true
 ·
  subst c4
  rw [if_pos rfl] at H
  replace H := Option.bind_eq_some_iff.mp H
  obtain ⟨t292, A50, H⟩ := H
  (try dsimp only at H)
  have A5 := Fa.mk A50
  clear A50
  obtain rfl := Option.some.inj H
  go_enter Tryz.func99, Tryz.ntmps99
  go_wp2_with (first | ((with_reducible refine gate_dst (N := 2) rfl ?_); refine boxF (N := 2) (cs := #[.int .i64 a0_0, .int .i64 a0_1]) (t := 23) ?_; intro gb289 hg w6 hbox hb; have hS := Stp.mk hb; have BK289 := Fa.mk (hbox); have GW289 := Fa.mk (gle hg : w.heap.size ≤ gb289); have GE289 := GW289; clear hb hbox hg) | ((with_reducible refine gate_dst (N := 3) rfl ?_); refine boxF (N := 3) (cs := #[.int .i64 a1_0, .int .i64 a1_1]) (t := 23) ?_; intro gb290 hg w7 hbox hb; have hS := Stp.mk hb; have BK289 := (⟨fa⟩ : Fa (w7.heap[gb289]? = some (.cells #[.int .i64 a0_0, .int .i64 a0_1] 23 (0, 0)))); have BK290 := Fa.mk (hbox); have GW290 := Fa.mk (gle hg : w.heap.size ≤ gb290); have GE290 := GW290; have NB289_290 := Fa.mk (gne (o := .cells #[.int .i64 a0_0, .int .i64 a0_1] 23 (0, 0)) hg : gb289 ≠ gb290); have NB290_289 := Fa.mk NB289_290.out.symm; clear hb hbox hg; have hnb8 := NB289_290.out; have hnc8 := NB290_289.out; have hcz9_0 := jcell BK289.out (i := 0) rfl; have hcz9_1 := jcell BK289.out (i := 1) rfl; have hfz9_0 := blk_frozen BK289.out 0; have hfz9_1 := blk_frozen BK289.out 1) | ((with_reducible refine gate_callee (f := 34) rfl ?_); refine goesA (some 6) rfl rfl Tryz.func34 (by kernel_rfl) rfl #[.agg #[.int .i64 a0_0, .int .i64 a0_1]] rfl ?_; (with_reducible refine (fleuronref01_Valid.calls k a0_0 a0_1 true _ A3.out).mono ?_); rintro e w10 ⟨rfl, hb⟩; refine ⟨_, rfl, ?_⟩; have hS := Stp.mk hb; have BK290 := (⟨fa⟩ : Fa (w10.heap[gb290]? = some (.cells #[.int .i64 a1_0, .int .i64 a1_1] 23 (0, 0)))); clear hb; have hcz11_0 := jcell BK290.out (i := 0) rfl; have hcz11_1 := jcell BK290.out (i := 1) rfl; have hfz11_0 := blk_frozen BK290.out 0; have hfz11_1 := blk_frozen BK290.out 1) | (go_at_call 34; (with_reducible refine (fleuronref01_Valid.calls k a1_0 a1_1 t292 _ A5.out).mono ?_); rintro e w12 ⟨rfl, hb⟩; have hS := Stp.mk hb; clear hb))
  go_ret
  exact ⟨rfl, fa⟩
 ·
  replace c4 := Bool.eq_false_iff.mpr c4
  subst c4
  rw [if_neg (show ¬ (false = true) by decide)] at H
  obtain rfl := Option.some.inj H
  go_enter Tryz.func99, Tryz.ntmps99
  go_wp2_with (first | ((with_reducible refine gate_dst (N := 2) rfl ?_); refine boxF (N := 2) (cs := #[.int .i64 a0_0, .int .i64 a0_1]) (t := 23) ?_; intro gb289 hg w13 hbox hb; have hS := Stp.mk hb; have BK289 := Fa.mk (hbox); have GW289 := Fa.mk (gle hg : w.heap.size ≤ gb289); have GE289 := GW289; clear hb hbox hg) | ((with_reducible refine gate_dst (N := 3) rfl ?_); refine boxF (N := 3) (cs := #[.int .i64 a1_0, .int .i64 a1_1]) (t := 23) ?_; intro gb290 hg w14 hbox hb; have hS := Stp.mk hb; have BK289 := (⟨fa⟩ : Fa (w14.heap[gb289]? = some (.cells #[.int .i64 a0_0, .int .i64 a0_1] 23 (0, 0)))); have BK290 := Fa.mk (hbox); have GW290 := Fa.mk (gle hg : w.heap.size ≤ gb290); have GE290 := GW290; have NB289_290 := Fa.mk (gne (o := .cells #[.int .i64 a0_0, .int .i64 a0_1] 23 (0, 0)) hg : gb289 ≠ gb290); have NB290_289 := Fa.mk NB289_290.out.symm; clear hb hbox hg; have hnb15 := NB289_290.out; have hnc15 := NB290_289.out; have hcz16_0 := jcell BK289.out (i := 0) rfl; have hcz16_1 := jcell BK289.out (i := 1) rfl; have hfz16_0 := blk_frozen BK289.out 0; have hfz16_1 := blk_frozen BK289.out 1) | ((with_reducible refine gate_callee (f := 34) rfl ?_); refine goesA (some 6) rfl rfl Tryz.func34 (by kernel_rfl) rfl #[.agg #[.int .i64 a0_0, .int .i64 a0_1]] rfl ?_; (with_reducible refine (fleuronref01_Valid.calls k a0_0 a0_1 false _ A3.out).mono ?_); rintro e w17 ⟨rfl, hb⟩; refine ⟨_, rfl, ?_⟩; have hS := Stp.mk hb; clear hb))
  go_ret
  exact ⟨rfl, fa⟩
def fleuronref01_result.j0 : Nat → ByteArray → Bool → Int → Int → Int → Int → Option (Int × Int × Int)
  | 0, _, _, _, _, _, _ => none
  | k + 1, x0, x14, x294000, x294001, x295000, x295001 => if x14 = true then (some (0, 0, 18)) else ((fleuronref01_exact.f x0 x294000 x294001 x295000 x295001).bind fun bt297 => ((fleuronref01_Make.f k bt297.1 bt297.2).bind fun bt299 => (some (bt299.1, bt299.2.1, bt299.2.2))))
def fleuronref01_result.f (k : Nat) (a0 : ByteArray) (a1_0 : Int) (a1_1 : Int) (a2_0 : Int) (a2_1 : Int) : Option (Int × Int × Int) := (fleuronref01_both.f k a1_0 a1_1 a2_0 a2_1).bind fun t296 => (if t296 = true then (if a0.toList = ([47] : List UInt8) then (fleuronref01_result.j0 k a0 (a2_0 == 0) a1_0 a1_1 a2_0 a2_1) else (fleuronref01_result.j0 k a0 false a1_0 a1_1 a2_0 a2_1)) else (some (0, 0, 2)))
set_option maxHeartbeats 8000000 in
set_option maxRecDepth 100000 in
theorem fleuronref01_result.calls (k : Nat) (a0 : ByteArray) (a1_0 : Int) (a1_1 : Int) (a2_0 : Int) (a2_1 : Int) (r1 : Int) (r2 : Int) (r3 : Int) (w : World) (h : fleuronref01_result.f k a0 a1_0 a1_1 a2_0 a2_1 = some (r1, r2, r3)) :
  Calls Tryz.prog 77 #[.string a0, .agg #[.int .i64 a1_0, .int .i64 a1_1], .agg #[.int .i64 a2_0, .int .i64 a2_1]] w fun e w' => e = .returned (.tuple #[.agg #[.int .i64 r1, .int .i64 r2], .int .i64 r3]) ∧ Below w.heap.size w w' := by
 have hu23 := Tryz.underlying23
 have HB := Fa.mk (Below.refl w.heap.size w)
 have H : ((fleuronref01_both.f k a1_0 a1_1 a2_0 a2_1).bind fun t296 => (if t296 = true then (if a0.toList = ([47] : List UInt8) then (fleuronref01_result.j0 k a0 (a2_0 == 0) a1_0 a1_1 a2_0 a2_1) else (fleuronref01_result.j0 k a0 false a1_0 a1_1 a2_0 a2_1)) else (some (0, 0, 2)))) = some (r1, r2, r3) := h
 clear h
 replace H := Option.bind_eq_some_iff.mp H
 obtain ⟨t296, A40, H⟩ := H
 (try dsimp only at H)
 have A4 := Fa.mk A40
 clear A40
 by_cases c5 : t296 = true
 ·
  subst c5
  rw [if_pos rfl] at H
  have HC6 := Fa.mk H
  clear H
  go_enter Tryz.func77, Tryz.ntmps77
  go_upto_region 3 with (first | ((with_reducible refine gate_dst (N := 4) rfl ?_); refine boxF (N := 4) (cs := #[.int .i64 a1_0, .int .i64 a1_1]) (t := 23) ?_; intro gb293 hg w7 hbox hb; have hS := Stp.mk hb; have BK293 := Fa.mk (hbox); have GW293 := Fa.mk (gle hg : w.heap.size ≤ gb293); have GE293 := GW293; clear hb hbox hg) | ((with_reducible refine gate_dst (N := 5) rfl ?_); refine boxF (N := 5) (cs := #[.int .i64 a2_0, .int .i64 a2_1]) (t := 23) ?_; intro gb294 hg w8 hbox hb; have hS := Stp.mk hb; have BK294 := Fa.mk (hbox); have GW294 := Fa.mk (gle hg : w.heap.size ≤ gb294); have GE294 := GW294; have NB293_294 := Fa.mk (gne (o := .cells #[.int .i64 a1_0, .int .i64 a1_1] 23 (0, 0)) hg : gb293 ≠ gb294); have NB294_293 := Fa.mk NB293_294.out.symm; clear hb hbox hg) | ((with_reducible refine gate_dst (N := 6) rfl ?_); refine boxF (N := 6) (cs := #[.int .i64 0, .int .i64 0]) (t := 23) ?_; intro gb295 hg w9 hbox hb; have hS := Stp.mk hb; have BK293 := (⟨fa⟩ : Fa (w9.heap[gb293]? = some (.cells #[.int .i64 a1_0, .int .i64 a1_1] 23 (0, 0)))); have BK294 := (⟨fa⟩ : Fa (w9.heap[gb294]? = some (.cells #[.int .i64 a2_0, .int .i64 a2_1] 23 (0, 0)))); have BK295 := Fa.mk (hbox); have GW295 := Fa.mk (gle hg : w.heap.size ≤ gb295); have GE295 := GW295; have NB293_295 := Fa.mk (gne (o := .cells #[.int .i64 a1_0, .int .i64 a1_1] 23 (0, 0)) hg : gb293 ≠ gb295); have NB295_293 := Fa.mk NB293_295.out.symm; have NB294_295 := Fa.mk (gne (o := .cells #[.int .i64 a2_0, .int .i64 a2_1] 23 (0, 0)) hg : gb294 ≠ gb295); have NB295_294 := Fa.mk NB294_295.out.symm; clear hb hbox hg; have hnb10 := NB293_294.out; have hnc10 := NB294_293.out; have hnb11 := NB293_295.out; have hnc11 := NB295_293.out; have hcz12_0 := jcell BK293.out (i := 0) rfl; have hcz12_1 := jcell BK293.out (i := 1) rfl; have hfz12_0 := blk_frozen BK293.out 0; have hfz12_1 := blk_frozen BK293.out 1; have hnb13 := NB294_295.out; have hnc13 := NB295_294.out; have hcz14_0 := jcell BK294.out (i := 0) rfl; have hcz14_1 := jcell BK294.out (i := 1) rfl; have hfz14_0 := blk_frozen BK294.out 0; have hfz14_1 := blk_frozen BK294.out 1) | ((with_reducible refine gate_callee (f := 99) rfl ?_); refine goesA (some 11) rfl rfl Tryz.func99 (by kernel_rfl) rfl #[.agg #[.int .i64 a1_0, .int .i64 a1_1], .agg #[.int .i64 a2_0, .int .i64 a2_1]] rfl ?_; (with_reducible refine (fleuronref01_both.calls k a1_0 a1_1 a2_0 a2_1 true _ A4.out).mono ?_); rintro e w15 ⟨rfl, hb⟩; refine ⟨_, rfl, ?_⟩; have hS := Stp.mk hb; clear hb))
  (try simp only [Act.put, List.setIfInBounds_toArray, List.set_cons_zero, List.set_cons_succ])
  go_cut [14] (fun v14 wc => ∃ (kq : Nat) (x14_5 : Bool), v14 = .bool x14_5 ∧ Fa (fleuronref01_result.j0 kq a0 x14_5 a1_0 a1_1 a2_0 a2_1 = some (r1, r2, r3)) ∧ Fa (kq ≤ k) ∧ Fa (wc.heap[gb293]? = some (.cells #[.int .i64 a1_0, .int .i64 a1_1] 23 (0, 0))) ∧ Fa (wc.heap[gb294]? = some (.cells #[.int .i64 a2_0, .int .i64 a2_1] 23 (0, 0))) ∧ Fa (wc.heap[gb295]? = some (.cells #[.int .i64 0, .int .i64 0] 23 (0, 0))) ∧ Fa (Below w.heap.size w wc))
  case first =>
   have H := HC6.out
   clear HC6
   by_cases c16 : a0.toList = ([47] : List UInt8)
   ·
    rw [if_pos c16] at H
    have c16b0 : (a0.toList == ([47] : List UInt8)) = true := beq_iff_eq.mpr c16
    have c16b1 : (a0.toList != ([47] : List UInt8)) = false := bne_eq_false_iff_eq.mpr c16
    clear c16
    (first | rw [c16b0] | (simp only [i64_w, i32_w]; rw [c16b0]) | skip)
    have H' := Fa.mk H
    clear H
    have hnb17 := NB294_293.out
    have hnc17 := NB293_294.out
    have hnb18 := NB294_295.out
    have hnc18 := NB295_294.out
    have BK294 : Fa (w15.heap[gb294]? = some (.cells #[.int .i64 a2_0, .int .i64 a2_1] 23 (0, 0))) := ⟨fa⟩
    have hcz19_0 := jcell BK294.out (i := 0) rfl
    have hcz19_1 := jcell BK294.out (i := 1) rfl
    have hfz19_0 := blk_frozen BK294.out 0
    have hfz19_1 := blk_frozen BK294.out 1
    go_wp2
    go_meet
    case rel => exact ⟨_, ((a2_0 == 0)), (by first | rfl | (simp; done) | (simp [*]; done)), H', ⟨by first | omega | exact Nat.le_refl _⟩, ⟨fa⟩, ⟨fa⟩, ⟨fa⟩, ⟨fa⟩⟩
   ·
    rw [if_neg c16] at H
    have c16b0 : (a0.toList == ([47] : List UInt8)) = false := beq_eq_false_iff_ne.mpr c16
    have c16b1 : (a0.toList != ([47] : List UInt8)) = true := bne_iff_ne.mpr c16
    (first | rw [c16b0] | (simp only [i64_w, i32_w]; rw [c16b0]) | skip)
    have H' := Fa.mk H
    clear H
    go_wp2
    go_meet
    case rel => exact ⟨_, (false), (by first | rfl | (simp; done) | (simp [*]; done)), H', ⟨by first | omega | exact Nat.le_refl _⟩, ⟨fa⟩, ⟨fa⟩, ⟨fa⟩, ⟨fa⟩⟩
  case rest =>
   clear HC6
   (try clear c1);(try clear p2);(try clear c5);(try clear c7);(try clear c9);(try clear c10);(try clear c11);(try clear c13);(try clear c16);(try clear c16b0);(try clear c16b1);(try clear c17);(try clear c18);(try clear hcz12_0);(try clear hcz12_1);(try clear hcz14_0);(try clear hcz14_1);(try clear hcz19_0);(try clear hcz19_1);(try clear hfz12_0);(try clear hfz12_1);(try clear hfz14_0);(try clear hfz14_1);(try clear hfz19_0);(try clear hfz19_1)
   obtain ⟨kq, x14_5, rfl, HA, HJ5, BK293, BK294, BK295, HB⟩ := hcut
   cases kq with
   | zero => exact absurd HA.out (by simp [fleuronref01_result.j0])
   | succ kj5 =>
    have H := HA.out
    clear HA
    simp only [fleuronref01_result.j0] at H
    by_cases c20 : x14_5 = true
    ·
     subst c20
     rw [if_pos rfl] at H
     simp only [Option.some.injEq, Prod.mk.injEq] at H
     obtain ⟨rfl, rfl, rfl⟩ := H
     have hnb21 := NB295_293.out
     have hnc21 := NB293_295.out
     have hnb22 := NB295_294.out
     have hnc22 := NB294_295.out
     have hcz23_0 := jcell BK295.out (i := 0) rfl
     have hcz23_1 := jcell BK295.out (i := 1) rfl
     have hfz23_0 := blk_frozen BK295.out 0
     have hfz23_1 := blk_frozen BK295.out 1
     go_wp2
     refine bodyPost_ret (results_ct rfl _ _ gb295 23 #[.int .i64 0, .int .i64 0] (0, 0) _ rfl (by (with_reducible repeat (first | refine blk_drewN ?_ _ | refine blk_drew ?_ | refine blk_alloc ?_ _)); refine blk_put (cs := #[.int .i64 0, .int .i64 0]) ?_ 1 _ rfl; (with_reducible repeat (first | refine blk_drewN ?_ _ | refine blk_drew ?_ | refine blk_alloc ?_ _)); refine blk_put (cs := #[.int .i64 0, .int .i64 0]) ?_ 0 _ rfl; (with_reducible repeat (first | refine blk_drewN ?_ _ | refine blk_drew ?_ | refine blk_alloc ?_ _)); exact fa) Tryz.underlying23 rfl (by kernel_rfl)) rfl ?_
     exact ⟨rfl, fa⟩
    ·
     replace c20 := Bool.eq_false_iff.mpr c20
     subst c20
     rw [if_neg (show ¬ (false = true) by decide)] at H
     replace H := Option.bind_eq_some_iff.mp H
     obtain ⟨⟨t297, t298⟩, A240, H⟩ := H
     (try dsimp only at H)
     have A24 := Fa.mk A240
     clear A240
     replace H := Option.bind_eq_some_iff.mp H
     obtain ⟨⟨t299, t300, t301⟩, A250, H⟩ := H
     (try dsimp only at H)
     have A25 := Fa.mk A250
     clear A250
     simp only [Option.some.injEq, Prod.mk.injEq] at H
     obtain ⟨rfl, rfl, rfl⟩ := H
     have hnb26 := NB293_294.out
     have hnc26 := NB294_293.out
     have hnb27 := NB293_295.out
     have hnc27 := NB295_293.out
     have hcz28_0 := jcell BK293.out (i := 0) rfl
     have hcz28_1 := jcell BK293.out (i := 1) rfl
     have hfz28_0 := blk_frozen BK293.out 0
     have hfz28_1 := blk_frozen BK293.out 1
     have hnb29 := NB294_295.out
     have hnc29 := NB295_294.out
     have hcz30_0 := jcell BK294.out (i := 0) rfl
     have hcz30_1 := jcell BK294.out (i := 1) rfl
     have hfz30_0 := blk_frozen BK294.out 0
     have hfz30_1 := blk_frozen BK294.out 1
     go_wp2_with (first | ((with_reducible refine gate_callee (f := 84) rfl ?_); refine goesA (some 26) rfl rfl Tryz.func84 (by kernel_rfl) rfl #[.string a0, .agg #[.int .i64 a1_0, .int .i64 a1_1], .agg #[.int .i64 a2_0, .int .i64 a2_1]] rfl ?_; (with_reducible refine (fleuronref01_exact.calls a0 a1_0 a1_1 a2_0 a2_1 t297 t298 _ A24.out).mono ?_); rintro e w31 ⟨rfl, hb⟩; refine ⟨_, rfl, ?_⟩; have hS := Stp.mk hb; clear hb) | ((with_reducible refine gate_callee (f := 85) rfl ?_); refine goesA (some 29) rfl rfl Tryz.func85 (by kernel_rfl) rfl #[.int .i64 t297, .int .i64 t298] rfl ?_; (with_reducible refine (fleuronref01_Make.calls kj5 t297 t298 t299 t300 t301 _ A25.out).mono ?_); rintro e w32 ⟨rfl, hb⟩; refine ⟨_, rfl, ?_⟩; have hS := Stp.mk hb; have BK295 := (⟨fa⟩ : Fa (w32.heap[gb295]? = some (.cells #[.int .i64 0, .int .i64 0] 23 (0, 0)))); clear hb; have hcz33_0 := jcell BK295.out (i := 0) rfl; have hcz33_1 := jcell BK295.out (i := 1) rfl; have hfz33_0 := blk_frozen BK295.out 0; have hfz33_1 := blk_frozen BK295.out 1))
     refine bodyPost_ret (results_ct rfl _ _ gb295 23 #[.int .i64 t299, .int .i64 t300] (0, 0) _ rfl (by (with_reducible repeat (first | refine blk_drewN ?_ _ | refine blk_drew ?_ | refine blk_alloc ?_ _)); refine blk_put (cs := #[.int .i64 t299, .int .i64 0]) ?_ 1 _ rfl; (with_reducible repeat (first | refine blk_drewN ?_ _ | refine blk_drew ?_ | refine blk_alloc ?_ _)); refine blk_put (cs := #[.int .i64 0, .int .i64 0]) ?_ 0 _ rfl; (with_reducible repeat (first | refine blk_drewN ?_ _ | refine blk_drew ?_ | refine blk_alloc ?_ _)); exact fa) Tryz.underlying23 rfl (by kernel_rfl)) rfl ?_
     exact ⟨rfl, fa⟩
 ·
  replace c5 := Bool.eq_false_iff.mpr c5
  subst c5
  rw [if_neg (show ¬ (false = true) by decide)] at H
  simp only [Option.some.injEq, Prod.mk.injEq] at H
  obtain ⟨rfl, rfl, rfl⟩ := H
  go_enter Tryz.func77, Tryz.ntmps77
  go_wp2_with (first | ((with_reducible refine gate_dst (N := 4) rfl ?_); refine boxF (N := 4) (cs := #[.int .i64 a1_0, .int .i64 a1_1]) (t := 23) ?_; intro gb293 hg w34 hbox hb; have hS := Stp.mk hb; have BK293 := Fa.mk (hbox); have GW293 := Fa.mk (gle hg : w.heap.size ≤ gb293); have GE293 := GW293; clear hb hbox hg) | ((with_reducible refine gate_dst (N := 5) rfl ?_); refine boxF (N := 5) (cs := #[.int .i64 a2_0, .int .i64 a2_1]) (t := 23) ?_; intro gb294 hg w35 hbox hb; have hS := Stp.mk hb; have BK294 := Fa.mk (hbox); have GW294 := Fa.mk (gle hg : w.heap.size ≤ gb294); have GE294 := GW294; have NB293_294 := Fa.mk (gne (o := .cells #[.int .i64 a1_0, .int .i64 a1_1] 23 (0, 0)) hg : gb293 ≠ gb294); have NB294_293 := Fa.mk NB293_294.out.symm; clear hb hbox hg) | ((with_reducible refine gate_dst (N := 6) rfl ?_); refine boxF (N := 6) (cs := #[.int .i64 0, .int .i64 0]) (t := 23) ?_; intro gb295 hg w36 hbox hb; have hS := Stp.mk hb; have BK293 := (⟨fa⟩ : Fa (w36.heap[gb293]? = some (.cells #[.int .i64 a1_0, .int .i64 a1_1] 23 (0, 0)))); have BK294 := (⟨fa⟩ : Fa (w36.heap[gb294]? = some (.cells #[.int .i64 a2_0, .int .i64 a2_1] 23 (0, 0)))); have BK295 := Fa.mk (hbox); have GW295 := Fa.mk (gle hg : w.heap.size ≤ gb295); have GE295 := GW295; have NB293_295 := Fa.mk (gne (o := .cells #[.int .i64 a1_0, .int .i64 a1_1] 23 (0, 0)) hg : gb293 ≠ gb295); have NB295_293 := Fa.mk NB293_295.out.symm; have NB294_295 := Fa.mk (gne (o := .cells #[.int .i64 a2_0, .int .i64 a2_1] 23 (0, 0)) hg : gb294 ≠ gb295); have NB295_294 := Fa.mk NB294_295.out.symm; clear hb hbox hg; have hnb37 := NB293_294.out; have hnc37 := NB294_293.out; have hnb38 := NB293_295.out; have hnc38 := NB295_293.out; have hcz39_0 := jcell BK293.out (i := 0) rfl; have hcz39_1 := jcell BK293.out (i := 1) rfl; have hfz39_0 := blk_frozen BK293.out 0; have hfz39_1 := blk_frozen BK293.out 1; have hnb40 := NB294_295.out; have hnc40 := NB295_294.out; have hcz41_0 := jcell BK294.out (i := 0) rfl; have hcz41_1 := jcell BK294.out (i := 1) rfl; have hfz41_0 := blk_frozen BK294.out 0; have hfz41_1 := blk_frozen BK294.out 1) | ((with_reducible refine gate_callee (f := 99) rfl ?_); refine goesA (some 11) rfl rfl Tryz.func99 (by kernel_rfl) rfl #[.agg #[.int .i64 a1_0, .int .i64 a1_1], .agg #[.int .i64 a2_0, .int .i64 a2_1]] rfl ?_; (with_reducible refine (fleuronref01_both.calls k a1_0 a1_1 a2_0 a2_1 false _ A4.out).mono ?_); rintro e w42 ⟨rfl, hb⟩; refine ⟨_, rfl, ?_⟩; have hS := Stp.mk hb; have BK295 := (⟨fa⟩ : Fa (w42.heap[gb295]? = some (.cells #[.int .i64 0, .int .i64 0] 23 (0, 0)))); clear hb; have hcz43_0 := jcell BK295.out (i := 0) rfl; have hcz43_1 := jcell BK295.out (i := 1) rfl; have hfz43_0 := blk_frozen BK295.out 0; have hfz43_1 := blk_frozen BK295.out 1))
  refine bodyPost_ret (results_ct rfl _ _ gb295 23 #[.int .i64 0, .int .i64 0] (0, 0) _ rfl (by (with_reducible repeat (first | refine blk_drewN ?_ _ | refine blk_drew ?_ | refine blk_alloc ?_ _)); refine blk_put (cs := #[.int .i64 0, .int .i64 0]) ?_ 1 _ rfl; (with_reducible repeat (first | refine blk_drewN ?_ _ | refine blk_drew ?_ | refine blk_alloc ?_ _)); refine blk_put (cs := #[.int .i64 0, .int .i64 0]) ?_ 0 _ rfl; (with_reducible repeat (first | refine blk_drewN ?_ _ | refine blk_drew ?_ | refine blk_alloc ?_ _)); exact fa) Tryz.underlying23 rfl (by kernel_rfl)) rfl ?_
  exact ⟨rfl, fa⟩
def fleuronref01_down.f (a0 : Int) (a1 : Int) : Option (Int × Int) := if a1 = 0 then (none) else (if (Int.tmod a0 a1) < 0 then (some (wrap64 ((wrap64 (Int.tdiv a0 a1)) - 1), wrap64 ((Int.tmod a0 a1) + a1))) else (some (wrap64 (Int.tdiv a0 a1), Int.tmod a0 a1)))
set_option maxHeartbeats 8000000 in
set_option maxRecDepth 100000 in
theorem fleuronref01_down.calls (a0 : Int) (a1 : Int) (r1 : Int) (r2 : Int) (w : World) (h : fleuronref01_down.f a0 a1 = some (r1, r2)) :
  Calls Tryz.prog 106 #[.int .i64 a0, .int .i64 a1] w fun e w' => e = .returned (.tuple #[.int .i64 r1, .int .i64 r2]) ∧ Drawn0 w w' := by
 have H : (if a1 = 0 then (none) else (if (Int.tmod a0 a1) < 0 then (some (wrap64 ((wrap64 (Int.tdiv a0 a1)) - 1), wrap64 ((Int.tmod a0 a1) + a1))) else (some (wrap64 (Int.tdiv a0 a1), Int.tmod a0 a1)))) = some (r1, r2) := h
 clear h
 by_cases c3 : a1 = 0
 ·
  rw [if_pos c3] at H
  exact absurd H (by simp)
 ·
  rw [if_neg c3] at H
  have c3b0 : (a1 == 0) = false := beq_eq_false_iff_ne.mpr c3
  have c3b1 : (a1 != 0) = true := bne_iff_ne.mpr c3
  by_cases c4 : (Int.tmod a0 a1) < 0
  ·
   rw [if_pos c4] at H
   have c4b0 : decide ((Int.tmod a0 a1) < 0) = true := decide_eq_true c4
   clear c4
   simp only [Option.some.injEq, Prod.mk.injEq] at H
   obtain ⟨rfl, rfl⟩ := H
   go_enter Tryz.func106, Tryz.ntmps106
   go_wp2
   repeat (go_quiet (fail); try go_wp2)
   go_ret2
   exact ⟨by first | rfl | (simp; done) | (simp [*]; done), by repeat (first | exact Drawn0.refl _ | apply Drawn0.step)⟩
  ·
   rw [if_neg c4] at H
   have c4b0 : decide ((Int.tmod a0 a1) < 0) = false := decide_eq_false c4
   clear c4
   simp only [Option.some.injEq, Prod.mk.injEq] at H
   obtain ⟨rfl, rfl⟩ := H
   go_enter Tryz.func106, Tryz.ntmps106
   go_wp2
   repeat (go_quiet (fail); try go_wp2)
   go_ret2
   exact ⟨by first | rfl | (simp; done) | (simp [*]; done), by repeat (first | exact Drawn0.refl _ | apply Drawn0.step)⟩
mutual
def fleuronref01_fixed.j0 : Nat → Int → Int → Int → Bool → Option (Int × Bool)
  | 0, _, _, _, _ => none
  | k + 1, x1, x6, x7, x21 => if x21 = true then (some (0, false)) else (fleuronref01_fixed.l0 k x1 x6 (IntKind.u64.wrap (x7)) 0)
def fleuronref01_fixed.l0 : Nat → Int → Int → Int → Int → Option (Int × Bool)
  | 0, _, _, _, _ => none
  | k + 1, x1, x6, x8, x9 => if x9 < 16 then (if (IntKind.u64.wrap (x8 * 2)) ≥ (IntKind.u64.wrap (x1)) then (fleuronref01_fixed.l0 k x1 (wrap64 ((wrap64 (x6 * 2)) + 1)) (IntKind.u64.wrap ((IntKind.u64.wrap (x8 * 2)) - (IntKind.u64.wrap (x1)))) (wrap64 (x9 + 1))) else (fleuronref01_fixed.l0 k x1 (wrap64 (x6 * 2)) (IntKind.u64.wrap (x8 * 2)) (wrap64 (x9 + 1)))) else (if (IntKind.u64.wrap (2 * x8)) ≥ (IntKind.u64.wrap (x1)) then (some (wrap64 (x6 + 1), true)) else (some (x6, true)))
end
def fleuronref01_fixed.f (k : Nat) (a0 : Int) (a1 : Int) : Option (Int × Bool) := (fleuronref01_down.f a0 a1).bind fun bt302 => (if bt302.1 > 4294967294 then (fleuronref01_fixed.j0 k a1 bt302.1 bt302.2 true) else (fleuronref01_fixed.j0 k a1 bt302.1 bt302.2 (decide (bt302.1 < (-4294967294)))))
set_option maxHeartbeats 8000000 in
set_option maxRecDepth 100000 in
theorem fleuronref01_fixed.calls (k : Nat) (a0 : Int) (a1 : Int) (r1 : Int) (r2 : Bool) (w : World) (h : fleuronref01_fixed.f k a0 a1 = some (r1, r2)) :
  Calls Tryz.prog 83 #[.int .i64 a0, .int .i64 a1] w fun e w' => e = .returned (.tuple #[.int .i64 r1, .bool r2]) ∧ Drawn0 w w' := by
 have H : ((fleuronref01_down.f a0 a1).bind fun bt302 => (if bt302.1 > 4294967294 then (fleuronref01_fixed.j0 k a1 bt302.1 bt302.2 true) else (fleuronref01_fixed.j0 k a1 bt302.1 bt302.2 (decide (bt302.1 < (-4294967294)))))) = some (r1, r2) := h
 clear h
 replace H := Option.bind_eq_some_iff.mp H
 obtain ⟨⟨t302, t303⟩, A30, H⟩ := H
 (try dsimp only at H)
 have A3 := Fa.mk A30
 clear A30
 have HC4 := Fa.mk H
 clear H
 go_enter Tryz.func83, Tryz.ntmps83
 go_upto_region 2 with (first | ((with_reducible refine gate_callee (f := 106) rfl ?_); refine goesA (some 13) rfl rfl Tryz.func106 (by kernel_rfl) rfl #[.int .i64 a0, .int .i64 a1] rfl ?_; (with_reducible refine (fleuronref01_down.calls a0 a1 t302 t303 _ A3.out).mono ?_); rintro e w' ⟨rfl, ⟨nd, rfl⟩⟩; refine ⟨_, rfl, ?_⟩))
 (try simp only [Act.put, List.setIfInBounds_toArray, List.set_cons_zero, List.set_cons_succ])
 go_cut [21] (fun v21 wc => ∃ (kq : Nat) (x21_3 : Bool), v21 = .bool x21_3 ∧ Fa (fleuronref01_fixed.j0 kq a1 t302 t303 x21_3 = some (r1, r2)) ∧ Fa (kq ≤ k) ∧ Drawn0 w wc)
 case first =>
  have H := HC4.out
  clear HC4
  by_cases c5 : t302 > 4294967294
  ·
   rw [if_pos c5] at H
   have c5b0 : decide (4294967294 < t302) = true := decide_eq_true c5
   clear c5
   (first | rw [c5b0] | (simp only [i64_w, i32_w]; rw [c5b0]) | skip)
   have H' := Fa.mk H
   clear H
   go_wp2
   go_meet
   case rel => exact ⟨_, (true), (by first | rfl | (simp; done) | (simp [*]; done)), H', ⟨by first | omega | exact Nat.le_refl _⟩, by repeat (first | exact Drawn0.refl _ | apply Drawn0.step)⟩
  ·
   rw [if_neg c5] at H
   have c5b0 : decide (4294967294 < t302) = false := decide_eq_false c5
   clear c5
   (first | rw [c5b0] | (simp only [i64_w, i32_w]; rw [c5b0]) | skip)
   have H' := Fa.mk H
   clear H
   go_wp2
   go_meet
   case rel => exact ⟨_, (decide (t302 < (-4294967294))), (by first | rfl | (simp; done) | (simp [*]; done)), H', ⟨by first | omega | exact Nat.le_refl _⟩, by repeat (first | exact Drawn0.refl _ | apply Drawn0.step)⟩
 case rest =>
  clear HC4
  (try clear c1);(try clear p2);(try clear c5);(try clear c5b0)
  obtain ⟨kq, x21_3, rfl, HA, HJ3, ⟨mc3, rfl⟩⟩ := hcut
  cases kq with
  | zero => exact absurd HA.out (by simp [fleuronref01_fixed.j0])
  | succ kj3 =>
   have H := HA.out
   clear HA
   simp only [fleuronref01_fixed.j0] at H
   by_cases c6 : x21_3 = true
   ·
    subst c6
    rw [if_pos rfl] at H
    simp only [Option.some.injEq, Prod.mk.injEq] at H
    obtain ⟨rfl, rfl⟩ := H
    go_wp2
    go_ret2
    exact ⟨by first | rfl | (simp; done) | (simp [*]; done), by repeat (first | exact Drawn0.refl _ | apply Drawn0.step)⟩
   ·
    replace c6 := Bool.eq_false_iff.mpr c6
    subst c6
    rw [if_neg (show ¬ (false = true) by decide)] at H
    have H' := Fa.mk H
    clear H
    go_wp2
    go_loopg [6, 8, 9] kj3 (fun kq v6 v8 v9 w' => ∃ (x6_2 : Int) (x8_2 : Int) (x9_2 : Int), v6 = .int .i64 x6_2 ∧ v8 = .int .u64 x8_2 ∧ v9 = .int .i64 x9_2 ∧ Fa (fleuronref01_fixed.l0 kq a1 x6_2 x8_2 x9_2 = some (r1, r2)) ∧ Fa (kq ≤ kj3) ∧ Drawn0 w w')
    case atStart => exact ⟨(t302), (IntKind.u64.wrap (t303)), (0), (by first | rfl | (simp; done) | (simp [*]; done)), (by first | rfl | (simp; done) | (simp [*]; done)), (by first | rfl | (simp; done) | (simp [*]; done)), H', ⟨Nat.le_refl _⟩, by repeat (first | exact Drawn0.refl _ | apply Drawn0.step)⟩
    case round =>
     clear H'
     (try clear c1);(try clear p2);(try clear c3);(try clear c5);(try clear c5b0);(try clear c6);(try clear p2)
     obtain ⟨x6_2, x8_2, x9_2, rfl, rfl, rfl, HA, HK2, ⟨m2, rfl⟩⟩ := hrel
     cases gk with
     | zero => exact absurd HA.out (by simp [fleuronref01_fixed.l0])
     | succ k2 =>
      have H := HA.out
      clear HA
      simp only [fleuronref01_fixed.l0] at H
      by_cases c7 : x9_2 < 16
      ·
       rw [if_pos c7] at H
       have c7b0 : decide (x9_2 < 16) = true := decide_eq_true c7
       clear c7
       by_cases c8 : (IntKind.u64.wrap (x8_2 * 2)) ≥ (IntKind.u64.wrap (a1))
       ·
        rw [if_pos c8] at H
        have c8b0 : decide ((IntKind.u64.wrap (a1)) ≤ (IntKind.u64.wrap (x8_2 * 2))) = true := decide_eq_true c8
        clear c8
        have H' := Fa.mk H
        clear H
        go_wp2
        go_roundg k2
        case measure => have := HJ3.out; have := HK2.out; omega
        case rel => exact ⟨(wrap64 ((wrap64 (x6_2 * 2)) + 1)), (IntKind.u64.wrap ((IntKind.u64.wrap (x8_2 * 2)) - (IntKind.u64.wrap (a1)))), (wrap64 (x9_2 + 1)), (by first | rfl | (simp; done) | (simp [*]; done)), (by first | rfl | (simp; done) | (simp [*]; done)), (by first | rfl | (simp; done) | (simp [*]; done)), H', ⟨by have := HJ3.out; have := HK2.out; omega⟩, by repeat (first | exact Drawn0.refl _ | apply Drawn0.step)⟩
       ·
        rw [if_neg c8] at H
        have c8b0 : decide ((IntKind.u64.wrap (a1)) ≤ (IntKind.u64.wrap (x8_2 * 2))) = false := decide_eq_false c8
        clear c8
        have H' := Fa.mk H
        clear H
        go_wp2
        go_roundg k2
        case measure => have := HJ3.out; have := HK2.out; omega
        case rel => exact ⟨(wrap64 (x6_2 * 2)), (IntKind.u64.wrap (x8_2 * 2)), (wrap64 (x9_2 + 1)), (by first | rfl | (simp; done) | (simp [*]; done)), (by first | rfl | (simp; done) | (simp [*]; done)), (by first | rfl | (simp; done) | (simp [*]; done)), H', ⟨by have := HJ3.out; have := HK2.out; omega⟩, by repeat (first | exact Drawn0.refl _ | apply Drawn0.step)⟩
      ·
       rw [if_neg c7] at H
       have c7b0 : decide (x9_2 < 16) = false := decide_eq_false c7
       clear c7
       by_cases c9 : (IntKind.u64.wrap (2 * x8_2)) ≥ (IntKind.u64.wrap (a1))
       ·
        rw [if_pos c9] at H
        have c9b0 : decide ((IntKind.u64.wrap (a1)) ≤ (IntKind.u64.wrap (2 * x8_2))) = true := decide_eq_true c9
        clear c9
        simp only [Option.some.injEq, Prod.mk.injEq] at H
        obtain ⟨rfl, rfl⟩ := H
        go_wp2
        go_ret2
        exact ⟨by first | rfl | (simp; done) | (simp [*]; done), by repeat (first | exact Drawn0.refl _ | apply Drawn0.step)⟩
       ·
        rw [if_neg c9] at H
        have c9b0 : decide ((IntKind.u64.wrap (a1)) ≤ (IntKind.u64.wrap (2 * x8_2))) = false := decide_eq_false c9
        clear c9
        simp only [Option.some.injEq, Prod.mk.injEq] at H
        obtain ⟨rfl, rfl⟩ := H
        go_wp2
        go_ret2
        exact ⟨by first | rfl | (simp; done) | (simp [*]; done), by repeat (first | exact Drawn0.refl _ | apply Drawn0.step)⟩
end Go.Proofs.YtilamkcpbibnmaaGreatDoor.P
