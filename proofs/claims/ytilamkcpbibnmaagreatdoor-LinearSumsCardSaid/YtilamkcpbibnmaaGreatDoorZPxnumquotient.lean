import Derived.Test.YtilamkcpbibnmaaGreatDoorZPx0
namespace Go.Proofs.YtilamkcpbibnmaaGreatDoor.P
open Go.RowKit Go.Proofs.YtilamkcpbibnmaaGreatDoorW.PrintWords Go.Proofs.YtilamkcpbibnmaaGreatDoorW.PrintLast Go.Proofs.YtilamkcpbibnmaaGreatDoorW.PrintMore
attribute [local go_sem] max2_int min2_int max_two min_two max_three min_three max_four min_four
set_option linter.unusedVariables false
set_option linter.unusedSimpArgs false
def num_quotient.f (a0 : ByteArray) (a1_0 : Int) (a1_1 : Int) (a2_0 : Int) (a2_1 : Int) : Option (Int × Int × Bool) := if a0.toList = ([43] : List UInt8) then (some (wrap64 ((wrap64 (a1_0 * a2_1)) + (wrap64 (a2_0 * a1_1))), wrap64 (a1_1 * a2_1), true)) else (if a0.toList = ([45] : List UInt8) then (some (wrap64 ((wrap64 (a1_0 * a2_1)) - (wrap64 (a2_0 * a1_1))), wrap64 (a1_1 * a2_1), true)) else (if a0.toList = ([42] : List UInt8) then (some (wrap64 (a1_0 * a2_0), wrap64 (a1_1 * a2_1), true)) else (if a0.toList = ([47] : List UInt8) then (some (wrap64 (a1_0 * a2_1), wrap64 (a1_1 * a2_0), true)) else (some (0, 0, false)))))
set_option maxHeartbeats 8000000 in
set_option maxRecDepth 100000 in
theorem num_quotient.calls (a0 : ByteArray) (a1_0 : Int) (a1_1 : Int) (a2_0 : Int) (a2_1 : Int) (r1 : Int) (r2 : Int) (r3 : Bool) (w : World) (h : num_quotient.f a0 a1_0 a1_1 a2_0 a2_1 = some (r1, r2, r3)) :
  Calls Tryz.prog 104 #[.string a0, .agg #[.int .i64 a1_0, .int .i64 a1_1], .agg #[.int .i64 a2_0, .int .i64 a2_1]] w fun e w' => e = .returned (.tuple #[.int .i64 r1, .int .i64 r2, .bool r3]) ∧ Below w.heap.size w w' := by
 have hu23 := Tryz.underlying23
 have HB := Fa.mk (Below.refl w.heap.size w)
 have H : (if a0.toList = ([43] : List UInt8) then (some (wrap64 ((wrap64 (a1_0 * a2_1)) + (wrap64 (a2_0 * a1_1))), wrap64 (a1_1 * a2_1), true)) else (if a0.toList = ([45] : List UInt8) then (some (wrap64 ((wrap64 (a1_0 * a2_1)) - (wrap64 (a2_0 * a1_1))), wrap64 (a1_1 * a2_1), true)) else (if a0.toList = ([42] : List UInt8) then (some (wrap64 (a1_0 * a2_0), wrap64 (a1_1 * a2_1), true)) else (if a0.toList = ([47] : List UInt8) then (some (wrap64 (a1_0 * a2_1), wrap64 (a1_1 * a2_0), true)) else (some (0, 0, false)))))) = some (r1, r2, r3) := h
 clear h
 by_cases c4 : a0.toList = ([43] : List UInt8)
 ·
  rw [if_pos c4] at H
  have c4b0 : (a0.toList == ([43] : List UInt8)) = true := beq_iff_eq.mpr c4
  have c4b1 : (a0.toList != ([43] : List UInt8)) = false := bne_eq_false_iff_eq.mpr c4
  clear c4
  simp only [Option.some.injEq, Prod.mk.injEq] at H
  obtain ⟨rfl, rfl, rfl⟩ := H
  go_enter Tryz.func104, Tryz.ntmps104
  iterate 4 (go_wp2_with (first | ((with_reducible refine gate_dst (N := 4) rfl ?_); refine boxF (N := 4) (cs := #[.int .i64 a1_0, .int .i64 a1_1]) (t := 23) ?_; intro gb131 hg w5 hbox hb; have hS := Stp.mk hb; have BK131 := Fa.mk (hbox); have GW131 := Fa.mk (gle hg : w.heap.size ≤ gb131); have GE131 := GW131; clear hb hbox hg) | ((with_reducible refine gate_dst (N := 5) rfl ?_); refine boxF (N := 5) (cs := #[.int .i64 a2_0, .int .i64 a2_1]) (t := 23) ?_; intro gb132 hg w6 hbox hb; have hS := Stp.mk hb; have BK131 := (⟨fa⟩ : Fa (w6.heap[gb131]? = some (.cells #[.int .i64 a1_0, .int .i64 a1_1] 23 (0, 0)))); have BK132 := Fa.mk (hbox); have GW132 := Fa.mk (gle hg : w.heap.size ≤ gb132); have GE132 := GW132; have NB131_132 := Fa.mk (gne (o := .cells #[.int .i64 a1_0, .int .i64 a1_1] 23 (0, 0)) hg : gb131 ≠ gb132); have NB132_131 := Fa.mk NB131_132.out.symm; clear hb hbox hg; have hnb7 := NB131_132.out; have hnc7 := NB132_131.out; have hcz8_0 := jcell BK131.out (i := 0) rfl; have hcz8_1 := jcell BK131.out (i := 1) rfl; have hfz8_0 := blk_frozen BK131.out 0; have hfz8_1 := blk_frozen BK131.out 1; have hcz9_0 := jcell BK132.out (i := 0) rfl; have hcz9_1 := jcell BK132.out (i := 1) rfl; have hfz9_0 := blk_frozen BK132.out 0; have hfz9_1 := blk_frozen BK132.out 1)); (try go_quiet (fail)))
  go_ret3
  exact ⟨rfl, fa⟩
 ·
  rw [if_neg c4] at H
  have c4b0 : (a0.toList == ([43] : List UInt8)) = false := beq_eq_false_iff_ne.mpr c4
  have c4b1 : (a0.toList != ([43] : List UInt8)) = true := bne_iff_ne.mpr c4
  by_cases c10 : a0.toList = ([45] : List UInt8)
  ·
   rw [if_pos c10] at H
   have c10b0 : (a0.toList == ([45] : List UInt8)) = true := beq_iff_eq.mpr c10
   have c10b1 : (a0.toList != ([45] : List UInt8)) = false := bne_eq_false_iff_eq.mpr c10
   clear c10
   simp only [Option.some.injEq, Prod.mk.injEq] at H
   obtain ⟨rfl, rfl, rfl⟩ := H
   go_enter Tryz.func104, Tryz.ntmps104
   iterate 4 (go_wp2_with (first | ((with_reducible refine gate_dst (N := 4) rfl ?_); refine boxF (N := 4) (cs := #[.int .i64 a1_0, .int .i64 a1_1]) (t := 23) ?_; intro gb131 hg w11 hbox hb; have hS := Stp.mk hb; have BK131 := Fa.mk (hbox); have GW131 := Fa.mk (gle hg : w.heap.size ≤ gb131); have GE131 := GW131; clear hb hbox hg) | ((with_reducible refine gate_dst (N := 5) rfl ?_); refine boxF (N := 5) (cs := #[.int .i64 a2_0, .int .i64 a2_1]) (t := 23) ?_; intro gb132 hg w12 hbox hb; have hS := Stp.mk hb; have BK131 := (⟨fa⟩ : Fa (w12.heap[gb131]? = some (.cells #[.int .i64 a1_0, .int .i64 a1_1] 23 (0, 0)))); have BK132 := Fa.mk (hbox); have GW132 := Fa.mk (gle hg : w.heap.size ≤ gb132); have GE132 := GW132; have NB131_132 := Fa.mk (gne (o := .cells #[.int .i64 a1_0, .int .i64 a1_1] 23 (0, 0)) hg : gb131 ≠ gb132); have NB132_131 := Fa.mk NB131_132.out.symm; clear hb hbox hg; have hnb13 := NB131_132.out; have hnc13 := NB132_131.out; have hcz14_0 := jcell BK131.out (i := 0) rfl; have hcz14_1 := jcell BK131.out (i := 1) rfl; have hfz14_0 := blk_frozen BK131.out 0; have hfz14_1 := blk_frozen BK131.out 1; have hcz15_0 := jcell BK132.out (i := 0) rfl; have hcz15_1 := jcell BK132.out (i := 1) rfl; have hfz15_0 := blk_frozen BK132.out 0; have hfz15_1 := blk_frozen BK132.out 1)); (try go_quiet (fail)))
   go_ret3
   exact ⟨rfl, fa⟩
  ·
   rw [if_neg c10] at H
   have c10b0 : (a0.toList == ([45] : List UInt8)) = false := beq_eq_false_iff_ne.mpr c10
   have c10b1 : (a0.toList != ([45] : List UInt8)) = true := bne_iff_ne.mpr c10
   by_cases c16 : a0.toList = ([42] : List UInt8)
   ·
    rw [if_pos c16] at H
    have c16b0 : (a0.toList == ([42] : List UInt8)) = true := beq_iff_eq.mpr c16
    have c16b1 : (a0.toList != ([42] : List UInt8)) = false := bne_eq_false_iff_eq.mpr c16
    clear c16
    simp only [Option.some.injEq, Prod.mk.injEq] at H
    obtain ⟨rfl, rfl, rfl⟩ := H
    go_enter Tryz.func104, Tryz.ntmps104
    iterate 4 (go_wp2_with (first | ((with_reducible refine gate_dst (N := 4) rfl ?_); refine boxF (N := 4) (cs := #[.int .i64 a1_0, .int .i64 a1_1]) (t := 23) ?_; intro gb131 hg w17 hbox hb; have hS := Stp.mk hb; have BK131 := Fa.mk (hbox); have GW131 := Fa.mk (gle hg : w.heap.size ≤ gb131); have GE131 := GW131; clear hb hbox hg) | ((with_reducible refine gate_dst (N := 5) rfl ?_); refine boxF (N := 5) (cs := #[.int .i64 a2_0, .int .i64 a2_1]) (t := 23) ?_; intro gb132 hg w18 hbox hb; have hS := Stp.mk hb; have BK131 := (⟨fa⟩ : Fa (w18.heap[gb131]? = some (.cells #[.int .i64 a1_0, .int .i64 a1_1] 23 (0, 0)))); have BK132 := Fa.mk (hbox); have GW132 := Fa.mk (gle hg : w.heap.size ≤ gb132); have GE132 := GW132; have NB131_132 := Fa.mk (gne (o := .cells #[.int .i64 a1_0, .int .i64 a1_1] 23 (0, 0)) hg : gb131 ≠ gb132); have NB132_131 := Fa.mk NB131_132.out.symm; clear hb hbox hg; have hnb19 := NB131_132.out; have hnc19 := NB132_131.out; have hcz20_0 := jcell BK131.out (i := 0) rfl; have hcz20_1 := jcell BK131.out (i := 1) rfl; have hfz20_0 := blk_frozen BK131.out 0; have hfz20_1 := blk_frozen BK131.out 1; have hcz21_0 := jcell BK132.out (i := 0) rfl; have hcz21_1 := jcell BK132.out (i := 1) rfl; have hfz21_0 := blk_frozen BK132.out 0; have hfz21_1 := blk_frozen BK132.out 1)); (try go_quiet (fail)))
    go_ret3
    exact ⟨rfl, fa⟩
   ·
    rw [if_neg c16] at H
    have c16b0 : (a0.toList == ([42] : List UInt8)) = false := beq_eq_false_iff_ne.mpr c16
    have c16b1 : (a0.toList != ([42] : List UInt8)) = true := bne_iff_ne.mpr c16
    by_cases c22 : a0.toList = ([47] : List UInt8)
    ·
     rw [if_pos c22] at H
     have c22b0 : (a0.toList == ([47] : List UInt8)) = true := beq_iff_eq.mpr c22
     have c22b1 : (a0.toList != ([47] : List UInt8)) = false := bne_eq_false_iff_eq.mpr c22
     clear c22
     simp only [Option.some.injEq, Prod.mk.injEq] at H
     obtain ⟨rfl, rfl, rfl⟩ := H
     go_enter Tryz.func104, Tryz.ntmps104
     iterate 4 (go_wp2_with (first | ((with_reducible refine gate_dst (N := 4) rfl ?_); refine boxF (N := 4) (cs := #[.int .i64 a1_0, .int .i64 a1_1]) (t := 23) ?_; intro gb131 hg w23 hbox hb; have hS := Stp.mk hb; have BK131 := Fa.mk (hbox); have GW131 := Fa.mk (gle hg : w.heap.size ≤ gb131); have GE131 := GW131; clear hb hbox hg) | ((with_reducible refine gate_dst (N := 5) rfl ?_); refine boxF (N := 5) (cs := #[.int .i64 a2_0, .int .i64 a2_1]) (t := 23) ?_; intro gb132 hg w24 hbox hb; have hS := Stp.mk hb; have BK131 := (⟨fa⟩ : Fa (w24.heap[gb131]? = some (.cells #[.int .i64 a1_0, .int .i64 a1_1] 23 (0, 0)))); have BK132 := Fa.mk (hbox); have GW132 := Fa.mk (gle hg : w.heap.size ≤ gb132); have GE132 := GW132; have NB131_132 := Fa.mk (gne (o := .cells #[.int .i64 a1_0, .int .i64 a1_1] 23 (0, 0)) hg : gb131 ≠ gb132); have NB132_131 := Fa.mk NB131_132.out.symm; clear hb hbox hg; have hnb25 := NB131_132.out; have hnc25 := NB132_131.out; have hcz26_0 := jcell BK131.out (i := 0) rfl; have hcz26_1 := jcell BK131.out (i := 1) rfl; have hfz26_0 := blk_frozen BK131.out 0; have hfz26_1 := blk_frozen BK131.out 1; have hcz27_0 := jcell BK132.out (i := 0) rfl; have hcz27_1 := jcell BK132.out (i := 1) rfl; have hfz27_0 := blk_frozen BK132.out 0; have hfz27_1 := blk_frozen BK132.out 1)); (try go_quiet (fail)))
     go_ret3
     exact ⟨rfl, fa⟩
    ·
     rw [if_neg c22] at H
     have c22b0 : (a0.toList == ([47] : List UInt8)) = false := beq_eq_false_iff_ne.mpr c22
     have c22b1 : (a0.toList != ([47] : List UInt8)) = true := bne_iff_ne.mpr c22
     simp only [Option.some.injEq, Prod.mk.injEq] at H
     obtain ⟨rfl, rfl, rfl⟩ := H
     go_enter Tryz.func104, Tryz.ntmps104
     iterate 4 (go_wp2_with (first | ((with_reducible refine gate_dst (N := 4) rfl ?_); refine boxF (N := 4) (cs := #[.int .i64 a1_0, .int .i64 a1_1]) (t := 23) ?_; intro gb131 hg w28 hbox hb; have hS := Stp.mk hb; have BK131 := Fa.mk (hbox); have GW131 := Fa.mk (gle hg : w.heap.size ≤ gb131); have GE131 := GW131; clear hb hbox hg) | ((with_reducible refine gate_dst (N := 5) rfl ?_); refine boxF (N := 5) (cs := #[.int .i64 a2_0, .int .i64 a2_1]) (t := 23) ?_; intro gb132 hg w29 hbox hb; have hS := Stp.mk hb; have BK132 := Fa.mk (hbox); have GW132 := Fa.mk (gle hg : w.heap.size ≤ gb132); have GE132 := GW132; have NB131_132 := Fa.mk (gne (o := .cells #[.int .i64 a1_0, .int .i64 a1_1] 23 (0, 0)) hg : gb131 ≠ gb132); have NB132_131 := Fa.mk NB131_132.out.symm; clear hb hbox hg)); (try go_quiet (fail)))
     go_ret3
     exact ⟨rfl, fa⟩
def rational_Floor.f (a0 : Int) (a1 : Int) : Option (Int × Int) := if a1 = 0 then (none) else (if (Int.tmod a0 a1) < 0 then (some (wrap64 ((wrap64 (Int.tdiv a0 a1)) - 1), wrap64 ((Int.tmod a0 a1) + a1))) else (some (wrap64 (Int.tdiv a0 a1), Int.tmod a0 a1)))
set_option maxHeartbeats 8000000 in
set_option maxRecDepth 100000 in
theorem rational_Floor.calls (a0 : Int) (a1 : Int) (r1 : Int) (r2 : Int) (w : World) (h : rational_Floor.f a0 a1 = some (r1, r2)) :
  Calls Tryz.prog 117 #[.int .i64 a0, .int .i64 a1] w fun e w' => e = .returned (.tuple #[.int .i64 r1, .int .i64 r2]) ∧ Drawn0 w w' := by
 have H : (if a1 = 0 then (none) else (if (Int.tmod a0 a1) < 0 then (some (wrap64 ((wrap64 (Int.tdiv a0 a1)) - 1), wrap64 ((Int.tmod a0 a1) + a1))) else (some (wrap64 (Int.tdiv a0 a1), Int.tmod a0 a1)))) = some (r1, r2) := h
 clear h
 by_cases c3 : a1 = 0
 ·
  rw [if_pos c3] at H
  exact absurd H (by simp)
 ·
  rw [if_neg c3] at H
  have c3b0 : (a1 == 0) = false := beq_eq_false_iff_ne.mpr c3
  have c3b1 : (a1 != 0) = true := bne_iff_ne.mpr c3
  by_cases c4 : (Int.tmod a0 a1) < 0
  ·
   rw [if_pos c4] at H
   have c4b0 : decide ((Int.tmod a0 a1) < 0) = true := decide_eq_true c4
   clear c4
   simp only [Option.some.injEq, Prod.mk.injEq] at H
   obtain ⟨rfl, rfl⟩ := H
   go_enter Tryz.func117, Tryz.ntmps117
   go_wp2
   repeat (go_quiet (fail); try go_wp2)
   go_ret2
   exact ⟨by first | rfl | (simp; done) | (simp [*]; done), by repeat (first | exact Drawn0.refl _ | apply Drawn0.step)⟩
  ·
   rw [if_neg c4] at H
   have c4b0 : decide ((Int.tmod a0 a1) < 0) = false := decide_eq_false c4
   clear c4
   simp only [Option.some.injEq, Prod.mk.injEq] at H
   obtain ⟨rfl, rfl⟩ := H
   go_enter Tryz.func117, Tryz.ntmps117
   go_wp2
   repeat (go_quiet (fail); try go_wp2)
   go_ret2
   exact ⟨by first | rfl | (simp; done) | (simp [*]; done), by repeat (first | exact Drawn0.refl _ | apply Drawn0.step)⟩
def bits_Len64.f (a0 : Int) : Option Int := if 0 ≤ a0 ∧ a0 ≤ 18446744073709551615 then some ((Lib.bitLen a0.toNat : Nat) : Int) else none
theorem bits_Len64.calls (a0 : Int) (r : Int) (w : World) (h : bits_Len64.f a0 = some r) :
  Calls Tryz.prog 134 #[.int .u64 a0] w fun e w' => e = .returned (.int .i64 r) ∧ Drawn0 w w' := by
 unfold bits_Len64.f at h
 split at h
 ·
  rename_i hc
  obtain rfl := Option.some.inj h
  refine (Tryz.bits_Len64 a0 w hc.1 hc.2).mono ?_
  rintro e w' ⟨rfl, rfl⟩
  exact ⟨rfl, Drawn0.refl _⟩
 ·
  cases h
def bits_LeadingZeros64.f (a0 : Int) : Option (Int) := (bits_Len64.f a0).bind fun t133 => (some (wrap64 (64 - t133)))
set_option maxHeartbeats 8000000 in
set_option maxRecDepth 100000 in
theorem bits_LeadingZeros64.calls (a0 : Int) (r : Int) (w : World) (h : bits_LeadingZeros64.f a0 = some r) :
  Calls Tryz.prog 145 #[.int .u64 a0] w fun e w' => e = .returned (.int .i64 r) ∧ Drawn0 w w' := by
 have H : ((bits_Len64.f a0).bind fun t133 => (some (wrap64 (64 - t133)))) = some r := h
 clear h
 replace H := Option.bind_eq_some_iff.mp H
 obtain ⟨t133, A20, H⟩ := H
 (try dsimp only at H)
 have A2 := Fa.mk A20
 clear A20
 obtain rfl := Option.some.inj H
 go_enter Tryz.func145, Tryz.ntmps145
 go_wp2_with (first | ((with_reducible refine gate_callee (f := 134) rfl ?_); refine goesA (some 4) rfl rfl Tryz.func134 (by kernel_rfl) rfl #[.int .u64 a0] rfl ?_; (with_reducible refine (bits_Len64.calls a0 t133 _ A2.out).mono ?_); rintro e w' ⟨rfl, ⟨nd, rfl⟩⟩; refine ⟨_, rfl, ?_⟩))
 go_ret
 exact ⟨by first | rfl | (simp; done) | (simp [*]; done), by repeat (first | exact Drawn0.refl _ | apply Drawn0.step)⟩
mutual
def bits_Div64.j2 : Nat → Int → Int → Int → Int → Int → Int → Int → Int → Option (Int × Int)
  | 0, _, _, _, _, _, _, _, _ => none
  | k + 1, x2, x8, x9, x10, x11, x13, x14, x15 => if x9 = 0 then (none) else (bits_Div64.l1 k x2 x8 x9 x10 x14 x15 (IntKind.u64.wrap ((IntKind.u64.wrap ((IntKind.u64.wrap ((IntKind.u64.wrap (x11 * 4294967296)) + x13)) - (IntKind.u64.wrap (x15 * x2)))) - (IntKind.u64.wrap ((IntKind.u64.wrap (Int.tdiv (IntKind.u64.wrap ((IntKind.u64.wrap ((IntKind.u64.wrap (x11 * 4294967296)) + x13)) - (IntKind.u64.wrap (x15 * x2)))) x9)) * x9)))) (IntKind.u64.wrap ((IntKind.u64.wrap ((IntKind.u64.wrap (x11 * 4294967296)) + x13)) - (IntKind.u64.wrap (x15 * x2)))) (IntKind.u64.wrap (Int.tdiv (IntKind.u64.wrap ((IntKind.u64.wrap ((IntKind.u64.wrap (x11 * 4294967296)) + x13)) - (IntKind.u64.wrap (x15 * x2)))) x9)))
def bits_Div64.l1 : Nat → Int → Int → Int → Int → Int → Int → Int → Int → Int → Option (Int × Int)
  | 0, _, _, _, _, _, _, _, _, _ => none
  | k + 1, x2, x8, x9, x10, x14, x15, x16, x17, x18 => if x18 ≥ 4294967296 then (bits_Div64.j4 k x2 x8 x9 x10 x14 x15 x16 x17 x18 true) else (bits_Div64.j4 k x2 x8 x9 x10 x14 x15 x16 x17 x18 (decide ((IntKind.u64.wrap (x18 * x10)) > (IntKind.u64.wrap ((IntKind.u64.wrap (4294967296 * x16)) + x14)))))
def bits_Div64.j4 : Nat → Int → Int → Int → Int → Int → Int → Int → Int → Int → Bool → Option (Int × Int)
  | 0, _, _, _, _, _, _, _, _, _, _ => none
  | k + 1, x2, x8, x9, x10, x14, x15, x16, x17, x18, x113 => if x113 = true then (if (IntKind.u64.wrap (x16 + x9)) ≥ 4294967296 then (if 0 ≤ x8 then (some (IntKind.u64.wrap ((IntKind.u64.wrap (x15 * 4294967296)) + (IntKind.u64.wrap (x18 - 1))), shr .u64 (IntKind.u64.wrap ((IntKind.u64.wrap ((IntKind.u64.wrap (x17 * 4294967296)) + x14)) - (IntKind.u64.wrap ((IntKind.u64.wrap (x18 - 1)) * x2)))) x8)) else (none)) else (bits_Div64.l1 k x2 x8 x9 x10 x14 x15 (IntKind.u64.wrap (x16 + x9)) x17 (IntKind.u64.wrap (x18 - 1)))) else (if 0 ≤ x8 then (some (IntKind.u64.wrap ((IntKind.u64.wrap (x15 * 4294967296)) + x18), shr .u64 (IntKind.u64.wrap ((IntKind.u64.wrap ((IntKind.u64.wrap (x17 * 4294967296)) + x14)) - (IntKind.u64.wrap (x18 * x2)))) x8)) else (none))
def bits_Div64.l0 : Nat → Int → Int → Int → Int → Int → Int → Int → Int → Int → Option (Int × Int)
  | 0, _, _, _, _, _, _, _, _, _ => none
  | k + 1, x2, x8, x9, x10, x11, x13, x14, x15, x16 => if x15 ≥ 4294967296 then (bits_Div64.j1 k x2 x8 x9 x10 x11 x13 x14 x15 x16 true) else (bits_Div64.j1 k x2 x8 x9 x10 x11 x13 x14 x15 x16 (decide ((IntKind.u64.wrap (x15 * x10)) > (IntKind.u64.wrap ((IntKind.u64.wrap (4294967296 * x16)) + x13)))))
def bits_Div64.j1 : Nat → Int → Int → Int → Int → Int → Int → Int → Int → Int → Bool → Option (Int × Int)
  | 0, _, _, _, _, _, _, _, _, _, _ => none
  | k + 1, x2, x8, x9, x10, x11, x13, x14, x15, x16, x78 => if x78 = true then (if (IntKind.u64.wrap (x16 + x9)) ≥ 4294967296 then (bits_Div64.j2 k x2 x8 x9 x10 x11 x13 x14 (IntKind.u64.wrap (x15 - 1))) else (bits_Div64.l0 k x2 x8 x9 x10 x11 x13 x14 (IntKind.u64.wrap (x15 - 1)) (IntKind.u64.wrap (x16 + x9)))) else (bits_Div64.j2 k x2 x8 x9 x10 x11 x13 x14 x15)
end
def bits_Div64.f (k : Nat) (a0 : Int) (a1 : Int) (a2 : Int) : Option (Int × Int) := if a2 = 0 then (none) else (if a2 ≤ a0 then (none) else (if a0 = 0 then (some (IntKind.u64.wrap (Int.tdiv a1 a2), Int.tmod a1 a2)) else ((bits_LeadingZeros64.f a2).bind fun t134 => (if 0 ≤ (IntKind.u64.wrap (t134)) then (if 0 ≤ (IntKind.u64.wrap (64 - (IntKind.u64.wrap (t134)))) then (if ((shl .u64 a2 (IntKind.u64.wrap (t134))) / 4294967296) = 0 then (none) else (bits_Div64.l0 k (shl .u64 a2 (IntKind.u64.wrap (t134))) (IntKind.u64.wrap (t134)) ((shl .u64 a2 (IntKind.u64.wrap (t134))) / 4294967296) (Go.bits .and .u64 (shl .u64 a2 (IntKind.u64.wrap (t134))) 4294967295) (Go.bits .or .u64 (shl .u64 a0 (IntKind.u64.wrap (t134))) (shr .u64 a1 (IntKind.u64.wrap (64 - (IntKind.u64.wrap (t134)))))) ((shl .u64 a1 (IntKind.u64.wrap (t134))) / 4294967296) (Go.bits .and .u64 (shl .u64 a1 (IntKind.u64.wrap (t134))) 4294967295) (IntKind.u64.wrap (Int.tdiv (Go.bits .or .u64 (shl .u64 a0 (IntKind.u64.wrap (t134))) (shr .u64 a1 (IntKind.u64.wrap (64 - (IntKind.u64.wrap (t134)))))) ((shl .u64 a2 (IntKind.u64.wrap (t134))) / 4294967296))) (IntKind.u64.wrap ((Go.bits .or .u64 (shl .u64 a0 (IntKind.u64.wrap (t134))) (shr .u64 a1 (IntKind.u64.wrap (64 - (IntKind.u64.wrap (t134)))))) - (IntKind.u64.wrap ((IntKind.u64.wrap (Int.tdiv (Go.bits .or .u64 (shl .u64 a0 (IntKind.u64.wrap (t134))) (shr .u64 a1 (IntKind.u64.wrap (64 - (IntKind.u64.wrap (t134)))))) ((shl .u64 a2 (IntKind.u64.wrap (t134))) / 4294967296))) * ((shl .u64 a2 (IntKind.u64.wrap (t134))) / 4294967296))))))) else (none)) else (none)))))
set_option maxHeartbeats 8000000 in
set_option maxRecDepth 100000 in
theorem bits_Div64.calls (k : Nat) (a0 : Int) (a1 : Int) (a2 : Int) (r1 : Int) (r2 : Int) (w : World) (h : bits_Div64.f k a0 a1 a2 = some (r1, r2)) :
  Calls Tryz.prog 132 #[.int .u64 a0, .int .u64 a1, .int .u64 a2] w fun e w' => e = .returned (.tuple #[.int .u64 r1, .int .u64 r2]) ∧ Drawn0 w w' := by
 have H : (if a2 = 0 then (none) else (if a2 ≤ a0 then (none) else (if a0 = 0 then (some (IntKind.u64.wrap (Int.tdiv a1 a2), Int.tmod a1 a2)) else ((bits_LeadingZeros64.f a2).bind fun t134 => (if 0 ≤ (IntKind.u64.wrap (t134)) then (if 0 ≤ (IntKind.u64.wrap (64 - (IntKind.u64.wrap (t134)))) then (if ((shl .u64 a2 (IntKind.u64.wrap (t134))) / 4294967296) = 0 then (none) else (bits_Div64.l0 k (shl .u64 a2 (IntKind.u64.wrap (t134))) (IntKind.u64.wrap (t134)) ((shl .u64 a2 (IntKind.u64.wrap (t134))) / 4294967296) (Go.bits .and .u64 (shl .u64 a2 (IntKind.u64.wrap (t134))) 4294967295) (Go.bits .or .u64 (shl .u64 a0 (IntKind.u64.wrap (t134))) (shr .u64 a1 (IntKind.u64.wrap (64 - (IntKind.u64.wrap (t134)))))) ((shl .u64 a1 (IntKind.u64.wrap (t134))) / 4294967296) (Go.bits .and .u64 (shl .u64 a1 (IntKind.u64.wrap (t134))) 4294967295) (IntKind.u64.wrap (Int.tdiv (Go.bits .or .u64 (shl .u64 a0 (IntKind.u64.wrap (t134))) (shr .u64 a1 (IntKind.u64.wrap (64 - (IntKind.u64.wrap (t134)))))) ((shl .u64 a2 (IntKind.u64.wrap (t134))) / 4294967296))) (IntKind.u64.wrap ((Go.bits .or .u64 (shl .u64 a0 (IntKind.u64.wrap (t134))) (shr .u64 a1 (IntKind.u64.wrap (64 - (IntKind.u64.wrap (t134)))))) - (IntKind.u64.wrap ((IntKind.u64.wrap (Int.tdiv (Go.bits .or .u64 (shl .u64 a0 (IntKind.u64.wrap (t134))) (shr .u64 a1 (IntKind.u64.wrap (64 - (IntKind.u64.wrap (t134)))))) ((shl .u64 a2 (IntKind.u64.wrap (t134))) / 4294967296))) * ((shl .u64 a2 (IntKind.u64.wrap (t134))) / 4294967296))))))) else (none)) else (none)))))) = some (r1, r2) := h
 clear h
 by_cases c4 : a2 = 0
 ·
  rw [if_pos c4] at H
  exact absurd H (by simp)
 ·
  rw [if_neg c4] at H
  have c4b0 : (a2 == 0) = false := beq_eq_false_iff_ne.mpr c4
  have c4b1 : (a2 != 0) = true := bne_iff_ne.mpr c4
  by_cases c5 : a2 ≤ a0
  ·
   rw [if_pos c5] at H
   exact absurd H (by simp)
  ·
   rw [if_neg c5] at H
   have c5b0 : decide (a2 ≤ a0) = false := decide_eq_false c5
   clear c5
   by_cases c6 : a0 = 0
   ·
    rw [if_pos c6] at H
    have c6b0 : (a0 == 0) = true := beq_iff_eq.mpr c6
    have c6b1 : (a0 != 0) = false := bne_eq_false_iff_eq.mpr c6
    clear c6
    simp only [Option.some.injEq, Prod.mk.injEq] at H
    obtain ⟨rfl, rfl⟩ := H
    go_enter Tryz.func132, Tryz.ntmps132
    go_wp2
    repeat (go_quiet (fail); try go_wp2)
    go_ret2
    exact ⟨by first | rfl | (simp; done) | (simp [*]; done), by repeat (first | exact Drawn0.refl _ | apply Drawn0.step)⟩
   ·
    rw [if_neg c6] at H
    have c6b0 : (a0 == 0) = false := beq_eq_false_iff_ne.mpr c6
    have c6b1 : (a0 != 0) = true := bne_iff_ne.mpr c6
    replace H := Option.bind_eq_some_iff.mp H
    obtain ⟨t134, A70, H⟩ := H
    (try dsimp only at H)
    have A7 := Fa.mk A70
    clear A70
    obtain ⟨ji8, hji8⟩ : ∃ j_ : Int, (IntKind.u64.wrap (t134)) = j_ := ⟨_, rfl⟩
    replace H : (if 0 ≤ (ji8) then (if 0 ≤ (IntKind.u64.wrap (64 - (ji8))) then (if ((shl .u64 a2 (ji8)) / 4294967296) = 0 then (none) else (bits_Div64.l0 k (shl .u64 a2 (ji8)) ji8 ((shl .u64 a2 (ji8)) / 4294967296) (Go.bits .and .u64 (shl .u64 a2 (ji8)) 4294967295) (Go.bits .or .u64 (shl .u64 a0 (ji8)) (shr .u64 a1 (IntKind.u64.wrap (64 - (ji8))))) ((shl .u64 a1 (ji8)) / 4294967296) (Go.bits .and .u64 (shl .u64 a1 (ji8)) 4294967295) (IntKind.u64.wrap (Int.tdiv (Go.bits .or .u64 (shl .u64 a0 (ji8)) (shr .u64 a1 (IntKind.u64.wrap (64 - (ji8))))) ((shl .u64 a2 (ji8)) / 4294967296))) (IntKind.u64.wrap ((Go.bits .or .u64 (shl .u64 a0 (ji8)) (shr .u64 a1 (IntKind.u64.wrap (64 - (ji8))))) - (IntKind.u64.wrap ((IntKind.u64.wrap (Int.tdiv (Go.bits .or .u64 (shl .u64 a0 (ji8)) (shr .u64 a1 (IntKind.u64.wrap (64 - (ji8))))) ((shl .u64 a2 (ji8)) / 4294967296))) * ((shl .u64 a2 (ji8)) / 4294967296))))))) else (none)) else (none)) = some (r1, r2) := by first | (rw [hji8] at H; exact H) | (simp only [hji8] at H ⊢; exact H)
    (try rw [hji8] at A7)
    by_cases c9 : 0 ≤ (ji8)
    ·
     rw [if_pos c9] at H
     have c9b0 := eq_true c9
     have c9b1 : decide (0 ≤ (ji8)) = true := decide_eq_true c9
     clear c9
     obtain ⟨ji10, hji10⟩ : ∃ j_ : Int, (shl .u64 a2 (ji8)) = j_ := ⟨_, rfl⟩
     replace H : (if 0 ≤ (IntKind.u64.wrap (64 - (ji8))) then (if ((ji10) / 4294967296) = 0 then (none) else (bits_Div64.l0 k ji10 ji8 ((ji10) / 4294967296) (Go.bits .and .u64 (ji10) 4294967295) (Go.bits .or .u64 (shl .u64 a0 (ji8)) (shr .u64 a1 (IntKind.u64.wrap (64 - (ji8))))) ((shl .u64 a1 (ji8)) / 4294967296) (Go.bits .and .u64 (shl .u64 a1 (ji8)) 4294967295) (IntKind.u64.wrap (Int.tdiv (Go.bits .or .u64 (shl .u64 a0 (ji8)) (shr .u64 a1 (IntKind.u64.wrap (64 - (ji8))))) ((ji10) / 4294967296))) (IntKind.u64.wrap ((Go.bits .or .u64 (shl .u64 a0 (ji8)) (shr .u64 a1 (IntKind.u64.wrap (64 - (ji8))))) - (IntKind.u64.wrap ((IntKind.u64.wrap (Int.tdiv (Go.bits .or .u64 (shl .u64 a0 (ji8)) (shr .u64 a1 (IntKind.u64.wrap (64 - (ji8))))) ((ji10) / 4294967296))) * ((ji10) / 4294967296))))))) else (none)) = some (r1, r2) := by first | (rw [hji10] at H; exact H) | (simp only [hji10] at H ⊢; exact H)
     (try rw [hji10] at A7)
     have hji10_ : (IntKind.u64.wrap (a2 * 2 ^ min (ji8).toNat 64)) = ji10 := hji10
     have hji10z : (ji8) ≤ 64 → (IntKind.u64.wrap (a2 * 2 ^ (ji8).toNat)) = ji10 := shl_small hji10
     have c11b0 := eq_true (of_decide_eq_true (by first | (with_reducible assumption) | assumption) : 0 ≤ (ji8))
     obtain ⟨ji12, hji12⟩ : ∃ j_ : Int, (shl .u64 a0 (ji8)) = j_ := ⟨_, rfl⟩
     replace H : (if 0 ≤ (IntKind.u64.wrap (64 - (ji8))) then (if ((ji10) / 4294967296) = 0 then (none) else (bits_Div64.l0 k ji10 ji8 ((ji10) / 4294967296) (Go.bits .and .u64 (ji10) 4294967295) (Go.bits .or .u64 (ji12) (shr .u64 a1 (IntKind.u64.wrap (64 - (ji8))))) ((shl .u64 a1 (ji8)) / 4294967296) (Go.bits .and .u64 (shl .u64 a1 (ji8)) 4294967295) (IntKind.u64.wrap (Int.tdiv (Go.bits .or .u64 (ji12) (shr .u64 a1 (IntKind.u64.wrap (64 - (ji8))))) ((ji10) / 4294967296))) (IntKind.u64.wrap ((Go.bits .or .u64 (ji12) (shr .u64 a1 (IntKind.u64.wrap (64 - (ji8))))) - (IntKind.u64.wrap ((IntKind.u64.wrap (Int.tdiv (Go.bits .or .u64 (ji12) (shr .u64 a1 (IntKind.u64.wrap (64 - (ji8))))) ((ji10) / 4294967296))) * ((ji10) / 4294967296))))))) else (none)) = some (r1, r2) := by first | (rw [hji12] at H; exact H) | (simp only [hji12] at H ⊢; exact H)
     (try rw [hji12] at A7)
     have hji12_ : (IntKind.u64.wrap (a0 * 2 ^ min (ji8).toNat 64)) = ji12 := hji12
     have hji12z : (ji8) ≤ 64 → (IntKind.u64.wrap (a0 * 2 ^ (ji8).toNat)) = ji12 := shl_small hji12
     obtain ⟨ji13, hji13⟩ : ∃ j_ : Int, (IntKind.u64.wrap (64 - (ji8))) = j_ := ⟨_, rfl⟩
     replace H : (if 0 ≤ (ji13) then (if ((ji10) / 4294967296) = 0 then (none) else (bits_Div64.l0 k ji10 ji8 ((ji10) / 4294967296) (Go.bits .and .u64 (ji10) 4294967295) (Go.bits .or .u64 (ji12) (shr .u64 a1 (ji13))) ((shl .u64 a1 (ji8)) / 4294967296) (Go.bits .and .u64 (shl .u64 a1 (ji8)) 4294967295) (IntKind.u64.wrap (Int.tdiv (Go.bits .or .u64 (ji12) (shr .u64 a1 (ji13))) ((ji10) / 4294967296))) (IntKind.u64.wrap ((Go.bits .or .u64 (ji12) (shr .u64 a1 (ji13))) - (IntKind.u64.wrap ((IntKind.u64.wrap (Int.tdiv (Go.bits .or .u64 (ji12) (shr .u64 a1 (ji13))) ((ji10) / 4294967296))) * ((ji10) / 4294967296))))))) else (none)) = some (r1, r2) := by first | (rw [hji13] at H; exact H) | (simp only [hji13] at H ⊢; exact H)
     (try rw [hji13] at A7)
     by_cases c14 : 0 ≤ (ji13)
     ·
      rw [if_pos c14] at H
      have c14b0 := eq_true c14
      have c14b1 : decide (0 ≤ (ji13)) = true := decide_eq_true c14
      clear c14
      obtain ⟨ji15, hji15⟩ : ∃ j_ : Int, (shr .u64 a1 (ji13)) = j_ := ⟨_, rfl⟩
      replace H : (if ((ji10) / 4294967296) = 0 then (none) else (bits_Div64.l0 k ji10 ji8 ((ji10) / 4294967296) (Go.bits .and .u64 (ji10) 4294967295) (Go.bits .or .u64 (ji12) (ji15)) ((shl .u64 a1 (ji8)) / 4294967296) (Go.bits .and .u64 (shl .u64 a1 (ji8)) 4294967295) (IntKind.u64.wrap (Int.tdiv (Go.bits .or .u64 (ji12) (ji15)) ((ji10) / 4294967296))) (IntKind.u64.wrap ((Go.bits .or .u64 (ji12) (ji15)) - (IntKind.u64.wrap ((IntKind.u64.wrap (Int.tdiv (Go.bits .or .u64 (ji12) (ji15)) ((ji10) / 4294967296))) * ((ji10) / 4294967296))))))) = some (r1, r2) := by first | (rw [hji15] at H; exact H) | (simp only [hji15] at H ⊢; exact H)
      (try rw [hji15] at A7)
      have hji15_ : (a1 / 2 ^ min (ji13).toNat 64) = ji15 := hji15
      have hji15z : (ji13) ≤ 64 → (a1 / 2 ^ (ji13).toNat) = ji15 := shr_small hji15
      have c16b0 := eq_true (of_decide_eq_true (by first | (with_reducible assumption) | assumption) : 0 ≤ (ji8))
      obtain ⟨ji17, hji17⟩ : ∃ j_ : Int, (shl .u64 a1 (ji8)) = j_ := ⟨_, rfl⟩
      replace H : (if ((ji10) / 4294967296) = 0 then (none) else (bits_Div64.l0 k ji10 ji8 ((ji10) / 4294967296) (Go.bits .and .u64 (ji10) 4294967295) (Go.bits .or .u64 (ji12) (ji15)) ((ji17) / 4294967296) (Go.bits .and .u64 (ji17) 4294967295) (IntKind.u64.wrap (Int.tdiv (Go.bits .or .u64 (ji12) (ji15)) ((ji10) / 4294967296))) (IntKind.u64.wrap ((Go.bits .or .u64 (ji12) (ji15)) - (IntKind.u64.wrap ((IntKind.u64.wrap (Int.tdiv (Go.bits .or .u64 (ji12) (ji15)) ((ji10) / 4294967296))) * ((ji10) / 4294967296))))))) = some (r1, r2) := by first | (rw [hji17] at H; exact H) | (simp only [hji17] at H ⊢; exact H)
      (try rw [hji17] at A7)
      have hji17_ : (IntKind.u64.wrap (a1 * 2 ^ min (ji8).toNat 64)) = ji17 := hji17
      have hji17z : (ji8) ≤ 64 → (IntKind.u64.wrap (a1 * 2 ^ (ji8).toNat)) = ji17 := shl_small hji17
      by_cases c18 : ((ji10) / 4294967296) = 0
      ·
       rw [if_pos c18] at H
       exact absurd H (by simp)
      ·
       rw [if_neg c18] at H
       have c18b0 : (((ji10) / 4294967296) == 0) = false := beq_eq_false_iff_ne.mpr c18
       have c18b1 : (((ji10) / 4294967296) != 0) = true := bne_iff_ne.mpr c18
       have HC19 := Fa.mk H
       clear H
       go_enter Tryz.func132, Tryz.ntmps132
       go_upto_block 0 with (first | (go_at_call 145; (with_reducible refine (bits_LeadingZeros64.calls a2 t134 _ A7.out).mono ?_); rintro e w' ⟨rfl, ⟨nd, rfl⟩⟩; (try first | exact ⟨rfl, _, World.drewN_drewN _ _ _⟩ | exact ⟨rfl, _, Eq.trans (World.drewN_drewN _ _ _) (congrArg (World.drewN _) (Nat.add_assoc _ _ _))⟩)))
       repeat (go_quiet (first | (go_at_call 145; (with_reducible refine (bits_LeadingZeros64.calls a2 t134 _ A7.out).mono ?_); rintro e w' ⟨rfl, ⟨nd, rfl⟩⟩; (try first | exact ⟨rfl, _, World.drewN_drewN _ _ _⟩ | exact ⟨rfl, _, Eq.trans (World.drewN_drewN _ _ _) (congrArg (World.drewN _) (Nat.add_assoc _ _ _))⟩))); go_upto_block 0 with (first | (go_at_call 145; (with_reducible refine (bits_LeadingZeros64.calls a2 t134 _ A7.out).mono ?_); rintro e w' ⟨rfl, ⟨nd, rfl⟩⟩; (try first | exact ⟨rfl, _, World.drewN_drewN _ _ _⟩ | exact ⟨rfl, _, Eq.trans (World.drewN_drewN _ _ _) (congrArg (World.drewN _) (Nat.add_assoc _ _ _))⟩))))
       (try simp only [Act.put, List.setIfInBounds_toArray, List.set_cons_zero, List.set_cons_succ])
       go_cut [15] (fun v15 wc => ∃ (kq : Nat) (x15_18 : Int), v15 = .int .u64 x15_18 ∧ Fa (bits_Div64.j2 kq ji10 ji8 ((ji10) / 4294967296) (Go.bits .and .u64 (ji10) 4294967295) (Go.bits .or .u64 (ji12) (ji15)) ((ji17) / 4294967296) (Go.bits .and .u64 (ji17) 4294967295) x15_18 = some (r1, r2)) ∧ Fa (kq ≤ k) ∧ Drawn0 w wc)
       case first =>
        have H := HC19.out
        clear HC19
        have H' := Fa.mk H
        clear H
        go_wp2
        repeat (go_quiet (fail); try go_wp2)
        go_loopg [15, 16] k (fun kq v15 v16 w' => ∃ (x15_1 : Int) (x16_1 : Int), v15 = .int .u64 x15_1 ∧ v16 = .int .u64 x16_1 ∧ Fa (bits_Div64.l0 kq ji10 ji8 ((ji10) / 4294967296) (Go.bits .and .u64 (ji10) 4294967295) (Go.bits .or .u64 (ji12) (ji15)) ((ji17) / 4294967296) (Go.bits .and .u64 (ji17) 4294967295) x15_1 x16_1 = some (r1, r2)) ∧ Fa (kq ≤ k) ∧ Drawn0 w w')
        case atStart => exact ⟨(IntKind.u64.wrap (Int.tdiv (Go.bits .or .u64 (ji12) (ji15)) ((ji10) / 4294967296))), (IntKind.u64.wrap ((Go.bits .or .u64 (ji12) (ji15)) - (IntKind.u64.wrap ((IntKind.u64.wrap (Int.tdiv (Go.bits .or .u64 (ji12) (ji15)) ((ji10) / 4294967296))) * ((ji10) / 4294967296))))), (by first | rfl | (simp; done) | (simp only [← hji10, ← hji12, ← hji15] <;> (first | rfl | simp)) | (simp [*]; done)), (by first | rfl | (simp; done) | (simp only [← hji10, ← hji12, ← hji15] <;> (first | rfl | simp)) | (simp [*]; done)), H', ⟨Nat.le_refl _⟩, by repeat (first | exact Drawn0.refl _ | apply Drawn0.step)⟩
        case round =>
         clear H'
         (try clear c1);(try clear p2);(try clear c4);(try clear c4b0);(try clear c4b1);(try clear c5);(try clear c5b0);(try clear c6);(try clear c6b0);(try clear c6b1);(try clear c9);(try clear c9b0);(try clear c9b1);(try clear c11);(try clear c11b0);(try clear c13);(try clear c14);(try clear c14b0);(try clear c14b1);(try clear c16);(try clear c16b0);(try clear c18);(try clear c18b0);(try clear c18b1)
         obtain ⟨x15_1, x16_1, rfl, rfl, HA, HK1, ⟨m1, rfl⟩⟩ := hrel
         cases gk with
         | zero => exact absurd HA.out (by simp [bits_Div64.l0])
         | succ k1 =>
          have H := HA.out
          clear HA
          simp only [bits_Div64.l0] at H
          have HC20 := Fa.mk H
          clear H
          go_upto_region 17 with (fail)
          repeat (go_quiet (fail); go_upto_region 17 with (fail))
          go_cut [78] (fun v78 wc => ∃ (kq : Nat) (x78_19 : Bool), v78 = .bool x78_19 ∧ Fa (bits_Div64.j1 kq ji10 ji8 ((ji10) / 4294967296) (Go.bits .and .u64 (ji10) 4294967295) (Go.bits .or .u64 (ji12) (ji15)) ((ji17) / 4294967296) (Go.bits .and .u64 (ji17) 4294967295) x15_1 x16_1 x78_19 = some (r1, r2)) ∧ Fa (kq ≤ k1) ∧ Drawn0 w wc)
          case first =>
           have H := HC20.out
           clear HC20
           by_cases c21 : x15_1 ≥ 4294967296
           ·
            rw [if_pos c21] at H
            have c21b0 : decide (4294967296 ≤ x15_1) = true := decide_eq_true c21
            clear c21
            (first | rw [c21b0] | (simp only [i64_w, i32_w]; rw [c21b0]) | skip)
            have H' := Fa.mk H
            clear H
            go_wp2
            repeat (go_quiet (fail); try go_wp2)
            go_meet
            case rel => exact ⟨_, (true), (by first | rfl | (simp; done) | (simp [*]; done)), H', ⟨by have := HK1.out; first | omega | exact Nat.le_refl _⟩, by repeat (first | exact Drawn0.refl _ | apply Drawn0.step)⟩
           ·
            rw [if_neg c21] at H
            have c21b0 : decide (4294967296 ≤ x15_1) = false := decide_eq_false c21
            clear c21
            (first | rw [c21b0] | (simp only [i64_w, i32_w]; rw [c21b0]) | skip)
            have H' := Fa.mk H
            clear H
            go_wp2
            repeat (go_quiet (fail); try go_wp2)
            go_meet
            case rel => exact ⟨_, (decide ((IntKind.u64.wrap (x15_1 * (Go.bits .and .u64 (ji10) 4294967295))) > (IntKind.u64.wrap ((IntKind.u64.wrap (4294967296 * x16_1)) + ((ji17) / 4294967296))))), (by first | rfl | (simp; done) | (simp only [← hji10, ← hji17] <;> (first | rfl | simp)) | (simp [*]; done)), H', ⟨by have := HK1.out; first | omega | exact Nat.le_refl _⟩, by repeat (first | exact Drawn0.refl _ | apply Drawn0.step)⟩
          case rest =>
           clear HC20
           (try clear c1);(try clear c2);(try clear p2);(try clear c4);(try clear c4b0);(try clear c4b1);(try clear c5);(try clear c5b0);(try clear c6);(try clear c6b0);(try clear c6b1);(try clear c9);(try clear c9b0);(try clear c9b1);(try clear c11);(try clear c11b0);(try clear c13);(try clear c14);(try clear c14b0);(try clear c14b1);(try clear c16);(try clear c16b0);(try clear c18);(try clear c18b0);(try clear c18b1);(try clear c21);(try clear c21b0);(try clear p2)
           obtain ⟨kq, x78_19, rfl, HA, HJ19, ⟨mc19, rfl⟩⟩ := hcut
           cases kq with
           | zero => exact absurd HA.out (by simp [bits_Div64.j1])
           | succ kj19 =>
            have H := HA.out
            clear HA
            simp only [bits_Div64.j1] at H
            by_cases c22 : x78_19 = true
            ·
             subst c22
             rw [if_pos rfl] at H
             by_cases c23 : (IntKind.u64.wrap (x16_1 + ((ji10) / 4294967296))) ≥ 4294967296
             ·
              rw [if_pos c23] at H
              have c23b0 : decide (4294967296 ≤ (IntKind.u64.wrap (x16_1 + ((ji10) / 4294967296)))) = true := decide_eq_true c23
              clear c23
              have H' := Fa.mk H
              clear H
              go_wp2
              repeat (go_quiet (fail); try go_wp2)
              go_meet
              case rel => exact ⟨_, (IntKind.u64.wrap (x15_1 - 1)), (by first | rfl | (simp; done) | (simp [*]; done)), H', ⟨by have := HK1.out; have := HJ19.out; first | omega | exact Nat.le_refl _⟩, by repeat (first | exact Drawn0.refl _ | apply Drawn0.step)⟩
             ·
              rw [if_neg c23] at H
              have c23b0 : decide (4294967296 ≤ (IntKind.u64.wrap (x16_1 + ((ji10) / 4294967296)))) = false := decide_eq_false c23
              clear c23
              have H' := Fa.mk H
              clear H
              go_wp2
              repeat (go_quiet (fail); try go_wp2)
              go_roundg kj19
              case measure => have := HK1.out; have := HJ19.out; omega
              case rel => exact ⟨(IntKind.u64.wrap (x15_1 - 1)), (IntKind.u64.wrap (x16_1 + ((ji10) / 4294967296))), (by first | rfl | (simp; done) | (simp [*]; done)), (by first | rfl | (simp; done) | (simp only [← hji10] <;> (first | rfl | simp)) | (simp [*]; done)), H', ⟨by have := HK1.out; have := HJ19.out; omega⟩, by repeat (first | exact Drawn0.refl _ | apply Drawn0.step)⟩
            ·
             replace c22 := Bool.eq_false_iff.mpr c22
             subst c22
             rw [if_neg (show ¬ (false = true) by decide)] at H
             have H' := Fa.mk H
             clear H
             go_wp2
             repeat (go_quiet (fail); try go_wp2)
             go_meet
             case rel => exact ⟨_, (x15_1), (by first | rfl | (simp; done) | (simp [*]; done)), H', ⟨by have := HK1.out; have := HJ19.out; first | omega | exact Nat.le_refl _⟩, by repeat (first | exact Drawn0.refl _ | apply Drawn0.step)⟩
       case rest =>
        clear HC19
        (try clear c1);(try clear c2);(try clear p2);(try clear c4);(try clear c4b0);(try clear c4b1);(try clear c5);(try clear c5b0);(try clear c6);(try clear c6b0);(try clear c6b1);(try clear c9);(try clear c9b0);(try clear c9b1);(try clear c11);(try clear c11b0);(try clear c13);(try clear c14);(try clear c14b0);(try clear c14b1);(try clear c16);(try clear c16b0);(try clear c18);(try clear c18b0);(try clear c18b1);(try clear c19);(try clear c21);(try clear c21b0);(try clear c22);(try clear c23);(try clear c23b0);(try clear p2)
        obtain ⟨kq, x15_18, rfl, HA, HJ18, ⟨mc18, rfl⟩⟩ := hcut
        cases kq with
        | zero => exact absurd HA.out (by simp [bits_Div64.j2])
        | succ kj18 =>
         have H := HA.out
         clear HA
         simp only [bits_Div64.j2] at H
         by_cases c24 : ((ji10) / 4294967296) = 0
         ·
          rw [if_pos c24] at H
          exact absurd H (by simp)
         ·
          rw [if_neg c24] at H
          have c24b0 : (((ji10) / 4294967296) == 0) = false := beq_eq_false_iff_ne.mpr c24
          have c24b1 : (((ji10) / 4294967296) != 0) = true := bne_iff_ne.mpr c24
          have H' := Fa.mk H
          clear H
          go_wp2
          repeat (go_quiet (fail); try go_wp2)
          go_loopg [16, 18] kj18 (fun kq v16 v18 w' => ∃ (x16_2 : Int) (x18_2 : Int), v16 = .int .u64 x16_2 ∧ v18 = .int .u64 x18_2 ∧ Fa (bits_Div64.l1 kq ji10 ji8 ((ji10) / 4294967296) (Go.bits .and .u64 (ji10) 4294967295) (Go.bits .and .u64 (ji17) 4294967295) x15_18 x16_2 (IntKind.u64.wrap ((IntKind.u64.wrap ((IntKind.u64.wrap ((Go.bits .or .u64 (ji12) (ji15)) * 4294967296)) + ((ji17) / 4294967296))) - (IntKind.u64.wrap (x15_18 * ji10)))) x18_2 = some (r1, r2)) ∧ Fa (kq ≤ kj18) ∧ Drawn0 w w')
          case atStart => exact ⟨(IntKind.u64.wrap ((IntKind.u64.wrap ((IntKind.u64.wrap ((IntKind.u64.wrap ((Go.bits .or .u64 (ji12) (ji15)) * 4294967296)) + ((ji17) / 4294967296))) - (IntKind.u64.wrap (x15_18 * ji10)))) - (IntKind.u64.wrap ((IntKind.u64.wrap (Int.tdiv (IntKind.u64.wrap ((IntKind.u64.wrap ((IntKind.u64.wrap ((Go.bits .or .u64 (ji12) (ji15)) * 4294967296)) + ((ji17) / 4294967296))) - (IntKind.u64.wrap (x15_18 * ji10)))) ((ji10) / 4294967296))) * ((ji10) / 4294967296))))), (IntKind.u64.wrap (Int.tdiv (IntKind.u64.wrap ((IntKind.u64.wrap ((IntKind.u64.wrap ((Go.bits .or .u64 (ji12) (ji15)) * 4294967296)) + ((ji17) / 4294967296))) - (IntKind.u64.wrap (x15_18 * ji10)))) ((ji10) / 4294967296))), (by first | rfl | (simp; done) | (simp only [← hji10, ← hji12, ← hji15, ← hji17] <;> (first | rfl | simp)) | (simp [*]; done)), (by first | rfl | (simp; done) | (simp only [← hji10, ← hji12, ← hji15, ← hji17] <;> (first | rfl | simp)) | (simp [*]; done)), H', ⟨Nat.le_refl _⟩, by repeat (first | exact Drawn0.refl _ | apply Drawn0.step)⟩
          case round =>
           clear H'
           (try clear c1);(try clear c2);(try clear p2);(try clear c4);(try clear c4b0);(try clear c4b1);(try clear c5);(try clear c5b0);(try clear c6);(try clear c6b0);(try clear c6b1);(try clear c9);(try clear c9b0);(try clear c9b1);(try clear c11);(try clear c11b0);(try clear c13);(try clear c14);(try clear c14b0);(try clear c14b1);(try clear c16);(try clear c16b0);(try clear c18);(try clear c18b0);(try clear c18b1);(try clear c19);(try clear c21);(try clear c21b0);(try clear c22);(try clear c23);(try clear c23b0);(try clear c24);(try clear c24b0);(try clear c24b1);(try clear p2)
           obtain ⟨x16_2, x18_2, rfl, rfl, HA, HK2, ⟨m2, rfl⟩⟩ := hrel
           cases gk with
           | zero => exact absurd HA.out (by simp [bits_Div64.l1])
           | succ k2 =>
            have H := HA.out
            clear HA
            simp only [bits_Div64.l1] at H
            have HC25 := Fa.mk H
            clear H
            go_upto_region 24 with (fail)
            repeat (go_quiet (fail); go_upto_region 24 with (fail))
            go_cut [113] (fun v113 wc => ∃ (kq : Nat) (x113_24 : Bool), v113 = .bool x113_24 ∧ Fa (bits_Div64.j4 kq ji10 ji8 ((ji10) / 4294967296) (Go.bits .and .u64 (ji10) 4294967295) (Go.bits .and .u64 (ji17) 4294967295) x15_18 x16_2 (IntKind.u64.wrap ((IntKind.u64.wrap ((IntKind.u64.wrap ((Go.bits .or .u64 (ji12) (ji15)) * 4294967296)) + ((ji17) / 4294967296))) - (IntKind.u64.wrap (x15_18 * ji10)))) x18_2 x113_24 = some (r1, r2)) ∧ Fa (kq ≤ k2) ∧ Drawn0 w wc)
            case first =>
             have H := HC25.out
             clear HC25
             by_cases c26 : x18_2 ≥ 4294967296
             ·
              rw [if_pos c26] at H
              have c26b0 : decide (4294967296 ≤ x18_2) = true := decide_eq_true c26
              clear c26
              (first | rw [c26b0] | (simp only [i64_w, i32_w]; rw [c26b0]) | skip)
              have H' := Fa.mk H
              clear H
              go_wp2
              repeat (go_quiet (fail); try go_wp2)
              go_meet
              case rel => exact ⟨_, (true), (by first | rfl | (simp; done) | (simp [*]; done)), H', ⟨by have := HJ18.out; have := HK2.out; first | omega | exact Nat.le_refl _⟩, by repeat (first | exact Drawn0.refl _ | apply Drawn0.step)⟩
             ·
              rw [if_neg c26] at H
              have c26b0 : decide (4294967296 ≤ x18_2) = false := decide_eq_false c26
              clear c26
              (first | rw [c26b0] | (simp only [i64_w, i32_w]; rw [c26b0]) | skip)
              have H' := Fa.mk H
              clear H
              go_wp2
              repeat (go_quiet (fail); try go_wp2)
              go_meet
              case rel => exact ⟨_, (decide ((IntKind.u64.wrap (x18_2 * (Go.bits .and .u64 (ji10) 4294967295))) > (IntKind.u64.wrap ((IntKind.u64.wrap (4294967296 * x16_2)) + (Go.bits .and .u64 (ji17) 4294967295))))), (by first | rfl | (simp; done) | (simp only [← hji10, ← hji17] <;> (first | rfl | simp)) | (simp [*]; done)), H', ⟨by have := HJ18.out; have := HK2.out; first | omega | exact Nat.le_refl _⟩, by repeat (first | exact Drawn0.refl _ | apply Drawn0.step)⟩
            case rest =>
             clear HC25
             (try clear c1);(try clear c2);(try clear p2);(try clear c4);(try clear c4b0);(try clear c4b1);(try clear c5);(try clear c5b0);(try clear c6);(try clear c6b0);(try clear c6b1);(try clear c9);(try clear c9b0);(try clear c9b1);(try clear c11);(try clear c11b0);(try clear c13);(try clear c14);(try clear c14b0);(try clear c14b1);(try clear c16);(try clear c16b0);(try clear c18);(try clear c18b0);(try clear c18b1);(try clear c19);(try clear c21);(try clear c21b0);(try clear c22);(try clear c23);(try clear c23b0);(try clear c24);(try clear c24b0);(try clear c24b1);(try clear c26);(try clear c26b0);(try clear p2)
             obtain ⟨kq, x113_24, rfl, HA, HJ24, ⟨mc24, rfl⟩⟩ := hcut
             cases kq with
             | zero => exact absurd HA.out (by simp [bits_Div64.j4])
             | succ kj24 =>
              have H := HA.out
              clear HA
              simp only [bits_Div64.j4] at H
              by_cases c27 : x113_24 = true
              ·
               subst c27
               rw [if_pos rfl] at H
               by_cases c28 : (IntKind.u64.wrap (x16_2 + ((ji10) / 4294967296))) ≥ 4294967296
               ·
                rw [if_pos c28] at H
                have c28b0 : decide (4294967296 ≤ (IntKind.u64.wrap (x16_2 + ((ji10) / 4294967296)))) = true := decide_eq_true c28
                clear c28
                by_cases c29 : 0 ≤ ji8
                ·
                 rw [if_pos c29] at H
                 have c29b0 := eq_true c29
                 have c29b1 : decide (0 ≤ ji8) = true := decide_eq_true c29
                 clear c29
                 obtain ⟨ji30, hji30⟩ : ∃ j_ : Int, (shr .u64 (IntKind.u64.wrap ((IntKind.u64.wrap ((IntKind.u64.wrap ((IntKind.u64.wrap ((IntKind.u64.wrap ((IntKind.u64.wrap ((Go.bits .or .u64 (ji12) (ji15)) * 4294967296)) + ((ji17) / 4294967296))) - (IntKind.u64.wrap (x15_18 * ji10)))) * 4294967296)) + (Go.bits .and .u64 (ji17) 4294967295))) - (IntKind.u64.wrap ((IntKind.u64.wrap (x18_2 - 1)) * ji10)))) ji8) = j_ := ⟨_, rfl⟩
                 replace H : (some (IntKind.u64.wrap ((IntKind.u64.wrap (x15_18 * 4294967296)) + (IntKind.u64.wrap (x18_2 - 1))), ji30)) = some (r1, r2) := by first | (rw [hji30] at H; exact H) | (simp only [hji30] at H ⊢; exact H)
                 have hji30_ : ((IntKind.u64.wrap ((IntKind.u64.wrap ((IntKind.u64.wrap ((IntKind.u64.wrap ((IntKind.u64.wrap ((IntKind.u64.wrap ((Go.bits .or .u64 (ji12) (ji15)) * 4294967296)) + ((ji17) / 4294967296))) - (IntKind.u64.wrap (x15_18 * ji10)))) * 4294967296)) + (Go.bits .and .u64 (ji17) 4294967295))) - (IntKind.u64.wrap ((IntKind.u64.wrap (x18_2 - 1)) * ji10)))) / 2 ^ min ji8.toNat 64) = ji30 := hji30
                 have hji30z : ji8 ≤ 64 → ((IntKind.u64.wrap ((IntKind.u64.wrap ((IntKind.u64.wrap ((IntKind.u64.wrap ((IntKind.u64.wrap ((IntKind.u64.wrap ((Go.bits .or .u64 (ji12) (ji15)) * 4294967296)) + ((ji17) / 4294967296))) - (IntKind.u64.wrap (x15_18 * ji10)))) * 4294967296)) + (Go.bits .and .u64 (ji17) 4294967295))) - (IntKind.u64.wrap ((IntKind.u64.wrap (x18_2 - 1)) * ji10)))) / 2 ^ ji8.toNat) = ji30 := shr_small hji30
                 simp only [Option.some.injEq, Prod.mk.injEq] at H
                 obtain ⟨rfl, rfl⟩ := H
                 go_wp2
                 repeat (go_quiet (fail); try go_wp2)
                 go_ret2
                 exact ⟨by first | rfl | (simp; done) | (simp only [← hji8, ← hji10, ← hji12, ← hji13, ← hji15, ← hji17, ← hji30] <;> (first | rfl | simp)) | (simp [*]; done), by repeat (first | exact Drawn0.refl _ | apply Drawn0.step)⟩
                ·
                 rw [if_neg c29] at H
                 exact absurd H (by simp)
               ·
                rw [if_neg c28] at H
                have c28b0 : decide (4294967296 ≤ (IntKind.u64.wrap (x16_2 + ((ji10) / 4294967296)))) = false := decide_eq_false c28
                clear c28
                have H' := Fa.mk H
                clear H
                go_wp2
                repeat (go_quiet (fail); try go_wp2)
                go_roundg kj24
                case measure => have := HJ18.out; have := HK2.out; have := HJ24.out; omega
                case rel => exact ⟨(IntKind.u64.wrap (x16_2 + ((ji10) / 4294967296))), (IntKind.u64.wrap (x18_2 - 1)), (by first | rfl | (simp; done) | (simp only [← hji10] <;> (first | rfl | simp)) | (simp [*]; done)), (by first | rfl | (simp; done) | (simp [*]; done)), H', ⟨by have := HJ18.out; have := HK2.out; have := HJ24.out; omega⟩, by repeat (first | exact Drawn0.refl _ | apply Drawn0.step)⟩
              ·
               replace c27 := Bool.eq_false_iff.mpr c27
               subst c27
               rw [if_neg (show ¬ (false = true) by decide)] at H
               by_cases c31 : 0 ≤ ji8
               ·
                rw [if_pos c31] at H
                have c31b0 := eq_true c31
                have c31b1 : decide (0 ≤ ji8) = true := decide_eq_true c31
                clear c31
                obtain ⟨ji32, hji32⟩ : ∃ j_ : Int, (shr .u64 (IntKind.u64.wrap ((IntKind.u64.wrap ((IntKind.u64.wrap ((IntKind.u64.wrap ((IntKind.u64.wrap ((IntKind.u64.wrap ((Go.bits .or .u64 (ji12) (ji15)) * 4294967296)) + ((ji17) / 4294967296))) - (IntKind.u64.wrap (x15_18 * ji10)))) * 4294967296)) + (Go.bits .and .u64 (ji17) 4294967295))) - (IntKind.u64.wrap (x18_2 * ji10)))) ji8) = j_ := ⟨_, rfl⟩
                replace H : (some (IntKind.u64.wrap ((IntKind.u64.wrap (x15_18 * 4294967296)) + x18_2), ji32)) = some (r1, r2) := by first | (rw [hji32] at H; exact H) | (simp only [hji32] at H ⊢; exact H)
                have hji32_ : ((IntKind.u64.wrap ((IntKind.u64.wrap ((IntKind.u64.wrap ((IntKind.u64.wrap ((IntKind.u64.wrap ((IntKind.u64.wrap ((Go.bits .or .u64 (ji12) (ji15)) * 4294967296)) + ((ji17) / 4294967296))) - (IntKind.u64.wrap (x15_18 * ji10)))) * 4294967296)) + (Go.bits .and .u64 (ji17) 4294967295))) - (IntKind.u64.wrap (x18_2 * ji10)))) / 2 ^ min ji8.toNat 64) = ji32 := hji32
                have hji32z : ji8 ≤ 64 → ((IntKind.u64.wrap ((IntKind.u64.wrap ((IntKind.u64.wrap ((IntKind.u64.wrap ((IntKind.u64.wrap ((IntKind.u64.wrap ((Go.bits .or .u64 (ji12) (ji15)) * 4294967296)) + ((ji17) / 4294967296))) - (IntKind.u64.wrap (x15_18 * ji10)))) * 4294967296)) + (Go.bits .and .u64 (ji17) 4294967295))) - (IntKind.u64.wrap (x18_2 * ji10)))) / 2 ^ ji8.toNat) = ji32 := shr_small hji32
                simp only [Option.some.injEq, Prod.mk.injEq] at H
                obtain ⟨rfl, rfl⟩ := H
                go_wp2
                repeat (go_quiet (fail); try go_wp2)
                go_ret2
                exact ⟨by first | rfl | (simp; done) | (simp only [← hji8, ← hji10, ← hji12, ← hji13, ← hji15, ← hji17, ← hji32] <;> (first | rfl | simp)) | (simp [*]; done), by repeat (first | exact Drawn0.refl _ | apply Drawn0.step)⟩
               ·
                rw [if_neg c31] at H
                exact absurd H (by simp)
     ·
      rw [if_neg c14] at H
      exact absurd H (by simp)
    ·
     rw [if_neg c9] at H
     exact absurd H (by simp)
theorem r_u64 {x : Int} (h0 : 0 ≤ x) (h1 : x < 18446744073709551616) : IntKind.u64.wrap x = x := by
  rw [show IntKind.u64.wrap x = x % 18446744073709551616 by simp [IntKind.wrap, IntKind.bits, IntKind.signed]]
  exact Int.emod_eq_of_lt h0 h1
theorem div_l1 (y yn1 yn0 un0 U s q : Int) (hy : y = yn1 * 4294967296 + yn0) (h1 : 2147483648 ≤ yn1) (h1' : yn1 < 4294967296) (h0 : 0 ≤ yn0) (h0' : yn0 < 4294967296)
    (hu0 : 0 ≤ un0) (hu0' : un0 < 4294967296) (hU0 : 0 ≤ U) (hU : U < 281479271677952) (hs : 0 ≤ s) (hq : q = (U * 4294967296 + un0) / y) (d : Nat) :
    ∀ (k : Nat) (q0 rhat : Int), q0 - q = d → q0 ≤ 200000 → rhat = U - q0 * yn1 → 0 ≤ rhat → rhat < 4294967296 → 2 * d + 4 < k →
      ∃ rem, bits_Div64.l1 k y s yn1 yn0 un0 0 rhat U q0 = some (q, rem) := by
  have hyp : 0 < y := by omega
  have hq0 : 0 ≤ q := by rw [hq]; exact Int.ediv_nonneg (by omega) (by omega)
  induction d with
  | zero =>
    intro k q0 rhat hd hb hr hr0 hr1 hk
    obtain ⟨k, rfl⟩ : ∃ m, k = m + 2 := ⟨k - 2, by omega⟩
    obtain rfl : q0 = q := by omega
    have e1 : q0 * y ≤ U * 4294967296 + un0 := by
      have := Int.mul_ediv_self_le (x := U * 4294967296 + un0) (k := y) (by omega)
      rw [← hq, Int.mul_comm] at this; exact this
    have e2 : q0 * y = (q0 * yn1) * 4294967296 + q0 * yn0 := by rw [hy, Int.mul_add, Int.mul_assoc]
    have e3 : 0 ≤ q0 * yn0 := Int.mul_nonneg hq0 h0
    have e4 : q0 * yn0 ≤ 200000 * 4294967296 := Int.mul_le_mul hb (by omega) h0 (by omega)
    have e5 : 4294967296 * rhat = U * 4294967296 - (q0 * yn1) * 4294967296 := by rw [hr]; omega
    simp only [bits_Div64.l1]
    rw [if_neg (by omega), r_u64 e3 (by omega), r_u64 (x := 4294967296 * rhat) (by omega) (by omega), r_u64 (by omega) (by omega), decide_eq_false (by omega)]
    simp only [bits_Div64.j4]
    rw [if_neg (by decide), if_pos hs, Int.zero_mul, r_u64 (x := 0) (by omega) (by omega), Int.zero_add, r_u64 (x := q0) (by omega) (by omega)]
    exact ⟨_, rfl⟩
  | succ d ih =>
    intro k q0 rhat hd hb hr hr0 hr1 hk
    obtain ⟨k, rfl⟩ : ∃ m, k = m + 2 := ⟨k - 2, by omega⟩
    have hlt : U * 4294967296 + un0 < (q + 1) * y := by
      have := Int.lt_mul_ediv_self_add (x := U * 4294967296 + un0) hyp
      rw [← hq] at this
      rw [Int.add_mul, Int.one_mul, Int.mul_comm q y]; exact this
    have hle : (q + 1) * y ≤ q0 * y := Int.mul_le_mul_of_nonneg_right (by omega) (by omega)
    have hq00 : 0 ≤ q0 := by omega
    have e2 : q0 * y = (q0 * yn1) * 4294967296 + q0 * yn0 := by rw [hy, Int.mul_add, Int.mul_assoc]
    have e3 : 0 ≤ q0 * yn0 := Int.mul_nonneg hq00 h0
    have e4 : q0 * yn0 ≤ 200000 * 4294967296 := Int.mul_le_mul hb (by omega) h0 (by omega)
    have e5 : 4294967296 * rhat = U * 4294967296 - (q0 * yn1) * 4294967296 := by rw [hr]; omega
    have e6 : (q0 - 1) * yn1 = q0 * yn1 - yn1 := by rw [Int.sub_mul, Int.one_mul]
    have e7 : (q0 - 1) * yn0 = q0 * yn0 - yn0 := by rw [Int.sub_mul, Int.one_mul]
    have e8 : (q0 - 1) * y = ((q0 - 1) * yn1) * 4294967296 + (q0 - 1) * yn0 := by rw [hy, Int.mul_add, Int.mul_assoc]
    simp only [bits_Div64.l1]
    rw [if_neg (by omega), r_u64 e3 (by omega), r_u64 (x := 4294967296 * rhat) (by omega) (by omega), r_u64 (by omega) (by omega), decide_eq_true (by omega)]
    simp only [bits_Div64.j4]
    rw [if_pos trivial, r_u64 (x := rhat + yn1) (by omega) (by omega)]
    by_cases hc : rhat + yn1 ≥ 4294967296
    · rw [if_pos hc, if_pos hs]
      have hq1 : q0 - 1 = q := by
        have : (q0 - 1) * y ≤ U * 4294967296 + un0 := by omega
        have h2 : q0 - 1 ≤ (U * 4294967296 + un0) / y := (Int.le_ediv_iff_mul_le hyp).mpr this
        omega
      rw [Int.zero_mul, r_u64 (x := 0) (by omega) (by omega), Int.zero_add, hq1, r_u64 (x := q) (by omega) (by omega), r_u64 (x := q) (by omega) (by omega)]
      exact ⟨_, rfl⟩
    · rw [if_neg hc, r_u64 (x := q0 - 1) (by omega) (by omega)]
      exact ih k (q0 - 1) (rhat + yn1) (by omega) (by omega) (by omega) (by omega) (by omega) (by omega)
theorem r_bitLen {y : Nat} (h0 : 0 < y) (h1 : y < 9223372036854775808) : 1 ≤ Lib.bitLen y ∧ Lib.bitLen y ≤ 63 ∧ 2 ^ (Lib.bitLen y - 1) ≤ y ∧ y < 2 ^ Lib.bitLen y := by
  obtain ⟨a, b, c⟩ := Lib.bitLenAux_bounds 64 y (by omega) (by omega)
  exact ⟨a, Lib.bitLen_le y 63 (by decide) (by omega), b, c⟩
theorem div64_small (hi lo y : Int) (h0 : 0 ≤ hi) (hl0 : 0 ≤ lo) (hl1 : lo < 18446744073709551616) (hy0 : 0 < y) (hy1 : y < 9223372036854775808)
    (hN : hi * 18446744073709551616 + lo < 65537 * y) : ∃ rem, bits_Div64.f 500000 hi lo y = some ((hi * 18446744073709551616 + lo) / y, rem) := by
  unfold bits_Div64.f
  rw [if_neg (by omega), if_neg (by omega)]
  by_cases hz : hi = 0
  · subst hz
    rw [if_pos rfl, Int.tdiv_eq_ediv_of_nonneg hl0]
    have e1 : 0 ≤ lo / y := Int.ediv_nonneg hl0 (by omega)
    have e2 : lo / y ≤ lo := Int.ediv_le_self y hl0
    rw [r_u64 e1 (by omega), show (0 : Int) * 18446744073709551616 + lo = lo by omega]
    exact ⟨_, rfl⟩
  · rw [if_neg hz]
    obtain ⟨n, rfl⟩ := Int.eq_ofNat_of_zero_le (show 0 ≤ y by omega)
    obtain ⟨b1, b2, b3, b4⟩ := r_bitLen (y := n) (by omega) (by omega)
    have hL : bits_LeadingZeros64.f (n : Int) = some ((64 - Lib.bitLen n : Nat) : Int) := by
      unfold bits_LeadingZeros64.f bits_Len64.f
      rw [if_pos (by omega)]
      simp only [Option.bind_some, Int.toNat_natCast]
      congr 1
      unfold wrap64
      omega
    rw [hL]
    simp only [Option.bind_some]
    obtain ⟨s, hs⟩ : ∃ s : Nat, 64 - Lib.bitLen n = s := ⟨_, rfl⟩
    rw [hs]
    have hs1 : 1 ≤ s := by omega
    have hs2 : s ≤ 63 := by omega
    have hbl : Lib.bitLen n = 64 - s := by omega
    rw [hbl] at b3 b4
    rw [r_u64 (x := (s : Int)) (by omega) (by omega), r_u64 (x := 64 - (s : Int)) (by omega) (by omega), if_pos (by omega), if_pos (by omega)]
    obtain ⟨P, hP⟩ : ∃ P : Nat, 2 ^ s = P := ⟨_, rfl⟩
    obtain ⟨R, hR⟩ : ∃ R : Nat, 2 ^ (64 - s) = R := ⟨_, rfl⟩
    have hPz : ((2 : Int) ^ s) = (P : Int) := by rw [← hP]; exact (Int.natCast_pow 2 s).symm
    have hRz : ((2 : Int) ^ (64 - s)) = (R : Int) := by rw [← hR]; exact (Int.natCast_pow 2 (64 - s)).symm
    have hPR : P * R = 18446744073709551616 := by rw [← hP, ← hR, ← Nat.pow_add, show s + (64 - s) = 64 by omega]
    have hP0 : 0 < P := by rw [← hP]; exact Nat.two_pow_pos s
    have hR0 : 0 < R := by rw [← hR]; exact Nat.two_pow_pos _
    have hR2 : R = 2 * 2 ^ (64 - s - 1) := by rw [← hR, ← Nat.pow_succ', show (64 - s - 1).succ = 64 - s by omega]
    have hyP : n * P < 18446744073709551616 := by
      have : n < R := by rw [← hR]; exact b4
      calc n * P < R * P := Nat.mul_lt_mul_of_pos_right this hP0
        _ = 18446744073709551616 := by rw [Nat.mul_comm, hPR]
    have hyP2 : 9223372036854775808 ≤ n * P := by
      have h2 : 2 * (2 ^ (64 - s - 1) * P) = 18446744073709551616 := by rw [← hPR, hR2, Nat.mul_comm P, Nat.mul_assoc]
      have h3 : 2 ^ (64 - s - 1) * P ≤ n * P := Nat.mul_le_mul_right P b3
      omega
    have eshl : ∀ x : Int, shl .u64 x (s : Int) = IntKind.u64.wrap (x * (P : Int)) := by
      intro x
      unfold shl
      rw [Int.toNat_natCast, Nat.min_eq_left (show s ≤ IntKind.u64.bits from (show s ≤ 64 by omega)), hPz]
    have eshr : shr .u64 lo (64 - (s : Int)) = lo / (R : Int) := by
      unfold shr
      rw [show (64 - (s : Int)).toNat = 64 - s by omega, Nat.min_eq_left (show 64 - s ≤ IntKind.u64.bits from (show 64 - s ≤ 64 by omega)), hRz]
    rw [eshl, eshl, eshl, eshr]
    have hPi : (P : Int) * (R : Int) = 18446744073709551616 := by rw [← Int.natCast_mul, hPR]; rfl
    have hPi0 : (0 : Int) < P := by exact_mod_cast hP0
    have hRi0 : (0 : Int) < R := by exact_mod_cast hR0
    obtain ⟨Y, hY⟩ : ∃ Y : Int, (n : Int) * P = Y := ⟨_, rfl⟩
    have hY0 : 9223372036854775808 ≤ Y := by rw [← hY]; omega
    have hY1 : Y < 18446744073709551616 := by rw [← hY]; omega
    obtain ⟨lq, hlq⟩ : ∃ lq : Int, lo / R = lq := ⟨_, rfl⟩
    obtain ⟨lr, hlr⟩ : ∃ lr : Int, lo % R = lr := ⟨_, rfl⟩
    have hlo : lo = R * lq + lr := by rw [← hlq, ← hlr]; exact (Int.mul_ediv_add_emod lo R).symm
    have hlr0 : 0 ≤ lr := by rw [← hlr]; exact Int.emod_nonneg _ (by omega)
    have hlr1 : lr < R := by rw [← hlr]; exact Int.emod_lt_of_pos _ hRi0
    have hlq0 : 0 ≤ lq := by rw [← hlq]; exact Int.ediv_nonneg hl0 (by omega)
    have hlqP : lq < P := by
      rw [← hlq]
      refine Int.ediv_lt_of_lt_mul hRi0 ?_
      rw [hPi]; exact hl1
    obtain ⟨L, hL'⟩ : ∃ L : Int, lr * P = L := ⟨_, rfl⟩
    have hL0 : 0 ≤ L := by rw [← hL']; exact Int.mul_nonneg hlr0 (by omega)
    have hL1 : L < 18446744073709551616 := by
      rw [← hL', ← hPi, Int.mul_comm (P : Int) R]
      exact Int.mul_lt_mul_of_pos_right hlr1 hPi0
    have hloP : lo * P = 18446744073709551616 * lq + L := by
      rw [hlo, Int.add_mul, hL', ← hPi, Int.mul_assoc (P : Int), Int.mul_comm ((R : Int) * lq) P]
    have hwl : IntKind.u64.wrap (lo * P) = L := by
      rw [show IntKind.u64.wrap (lo * P) = (lo * P) % 18446744073709551616 by simp [IntKind.wrap, IntKind.bits, IntKind.signed], hloP]
      omega
    obtain ⟨H, hH⟩ : ∃ H : Int, hi * P = H := ⟨_, rfl⟩
    have hH0 : 0 ≤ H := by rw [← hH]; exact Int.mul_nonneg h0 (by omega)
    have hNP : (hi * 18446744073709551616 + lo) * P = (H + lq) * 18446744073709551616 + L := by
      rw [Int.add_mul, hloP, Int.mul_right_comm, hH, Int.add_mul]
      omega
    have hun : (H + lq) * 18446744073709551616 + L < 65537 * Y := by
      rw [← hNP, ← hY, ← Int.mul_assoc]
      exact Int.mul_lt_mul_of_pos_right hN hPi0
    have hun1 : H + lq ≤ 65536 := by omega
    have hHP : H % 2 ^ s = 0 := by
      rw [← hH, hPz]
      exact Int.mul_emod_left hi P
    have e264 : ((2 : Int) ^ 64) = 18446744073709551616 := by decide
    have hor : Go.bits .or .u64 H lq = H + lq := by
      refine bits_join .u64 64 (by decide) (fun n a b => r_u64 a (e264 ▸ b)) s H lq hH0 hHP (by rw [e264]; omega) hlq0 ?_ (by rw [e264]; omega)
      rw [hPz]; exact hlqP
    rw [hH, hY, hlq, hwl, r_u64 (x := H) hH0 (by omega), r_u64 (x := Y) (by omega) hY1, hor, and_low32 Y (by omega) hY1, and_low32 L hL0 hL1, if_neg (by omega)]
    have hq1 : Int.tdiv (H + lq) (Y / 4294967296) = 0 := by
      rw [Int.tdiv_eq_ediv_of_nonneg (by omega)]
      exact Int.ediv_eq_zero_of_lt (by omega) (by omega)
    rw [hq1, r_u64 (x := 0) (by omega) (by omega), Int.zero_mul, r_u64 (x := 0) (by omega) (by omega), Int.sub_zero, r_u64 (x := H + lq) (by omega) (by omega)]
    rw [show (500000 : Nat) = 499997 + 1 + 1 + 1 by rfl]
    simp only [bits_Div64.l0]
    rw [if_neg (by omega), Int.zero_mul, r_u64 (x := 0) (by omega) (by omega), r_u64 (x := 4294967296 * (H + lq)) (by omega) (by omega), r_u64 (x := 4294967296 * (H + lq) + L / 4294967296) (by omega) (by omega), decide_eq_false (by omega)]
    simp only [bits_Div64.j1]
    rw [if_neg (by decide)]
    simp only [bits_Div64.j2]
    rw [if_neg (by omega), Int.zero_mul, r_u64 (x := 0) (by omega) (by omega), Int.sub_zero, r_u64 (x := (H + lq) * 4294967296) (by omega) (by omega)]
    obtain ⟨U, hU⟩ : ∃ U : Int, (H + lq) * 4294967296 + L / 4294967296 = U := ⟨_, rfl⟩
    rw [hU, r_u64 (x := U) (by omega) (by omega), r_u64 (x := U) (by omega) (by omega), Int.tdiv_eq_ediv_of_nonneg (by omega)]
    obtain ⟨A, hA⟩ : ∃ A : Int, Y / 4294967296 = A := ⟨_, rfl⟩
    have hA0 : 2147483648 ≤ A := by omega
    have hA1 : A < 4294967296 := by omega
    rw [hA]
    have g0 : 0 ≤ U / A := Int.ediv_nonneg (by omega) (by omega)
    have g1 : U / A ≤ 131074 := by
      have : U / A < 131075 := Int.ediv_lt_of_lt_mul (by omega) (by omega)
      omega
    have g2 : U / A * A ≤ U := Int.ediv_mul_le U (by omega)
    have g3 : U < (U / A + 1) * A := Int.lt_ediv_add_one_mul_self U (by omega)
    have g4 : (U / A + 1) * A = U / A * A + A := by rw [Int.add_mul, Int.one_mul]
    have g5 : 0 ≤ U / A * A := Int.mul_nonneg g0 (by omega)
    rw [r_u64 (x := U / A) g0 (by omega), r_u64 (x := U / A * A) g5 (by omega), r_u64 (x := U - U / A * A) (by omega) (by omega)]
    have hq : (hi * 18446744073709551616 + lo) / (n : Int) = (U * 4294967296 + L % 4294967296) / Y := by
      rw [← Int.mul_ediv_mul_of_pos_left (hi * 18446744073709551616 + lo) (n : Int) hPi0, hNP, hY]
      congr 1
      omega
    rw [hq]
    have hge : (U * 4294967296 + L % 4294967296) / Y ≤ U / A := by
      refine (Int.le_ediv_iff_mul_le (by omega)).mpr ?_
      have k1 := Int.ediv_mul_le (U * 4294967296 + L % 4294967296) (show Y ≠ 0 by omega)
      have k2 : 0 ≤ (U * 4294967296 + L % 4294967296) / Y := Int.ediv_nonneg (by omega) (by omega)
      obtain ⟨q, hqq⟩ : ∃ q : Int, (U * 4294967296 + L % 4294967296) / Y = q := ⟨_, rfl⟩
      rw [hqq] at k1 k2 ⊢
      have k3 : q * Y = q * A * 4294967296 + q * (Y % 4294967296) := by
        rw [Int.mul_assoc, ← Int.mul_add]; congr 1; omega
      have k4 : 0 ≤ q * (Y % 4294967296) := Int.mul_nonneg k2 (by omega)
      omega
    have hge0 : 0 ≤ (U * 4294967296 + L % 4294967296) / Y := Int.ediv_nonneg (by omega) (by omega)
    exact div_l1 Y A (Y % 4294967296) (L % 4294967296) U s _ (by omega) hA0 hA1 (by omega) (by omega) (by omega) (by omega) (by omega) (by omega) (by omega) rfl
      (U / A - (U * 4294967296 + L % 4294967296) / Y).toNat 499997 (U / A) (U - U / A * A) (by omega) (by omega) rfl (by omega) (by omega) (by omega)
def rational_Round.f (a0 a1 : Int) : Option Int := if 0 < a1 ∧ a1 < 4611686018427387904 ∧ -9223372036854775808 ≤ a0 ∧ a0 ≤ 9223372036854775807 ∧ -1099511627776 ≤ a0 / a1 ∧ a0 / a1 ≤ 1099511627776 then some ((131072 * a0 + a1) / (2 * a1)) else none
theorem r_Floor (a0 a1 : Int) (h1 : 0 < a1) (hb0 : -9223372036854775808 ≤ a0) (hb1 : a0 ≤ 9223372036854775807) (hb2 : a1 ≤ 9223372036854775807) : rational_Floor.f a0 a1 = some (a0 / a1, a0 % a1) := by
  unfold rational_Floor.f
  rw [if_neg (by omega)]
  have e := Int.mul_tdiv_add_tmod a0 a1
  have e' := Int.mul_ediv_add_emod a0 a1
  have m1 := Int.emod_nonneg a0 (show a1 ≠ 0 by omega)
  have m2 := Int.emod_lt_of_pos a0 h1
  have t2 := Int.tmod_lt_of_pos a0 h1
  have t3 : -a1 < Int.tmod a0 a1 := by
    have := Int.neg_tmod a0 a1
    have h := Int.tmod_lt_of_pos (-a0) h1
    omega
  have f0 : -9223372036854775808 ≤ a0 / a1 := by
    refine (Int.le_ediv_iff_mul_le h1).mpr ?_
    by_cases hz : a1 = 1
    · subst hz; omega
    · have : -9223372036854775808 * a1 ≤ -9223372036854775808 * 2 := by omega
      omega
  have f1 : a0 / a1 ≤ 9223372036854775807 := by
    have : a0 / a1 < 9223372036854775808 := Int.ediv_lt_of_lt_mul h1 (by omega)
    omega
  by_cases hc : Int.tmod a0 a1 < 0
  · rw [if_pos hc]
    have hneg : a0 < 0 := by
      rcases Int.lt_or_le a0 0 with h | h
      · exact h
      · exact absurd (Int.tmod_nonneg a1 h) (by omega)
    have k : a1 * (Int.tdiv a0 a1 - 1) = a1 * Int.tdiv a0 a1 - a1 := by rw [Int.mul_sub, Int.mul_one]
    have hd : a0 / a1 = Int.tdiv a0 a1 - 1 := by
      have : (Int.tmod a0 a1 + a1) + a1 * (Int.tdiv a0 a1 - 1) = a0 := by omega
      rw [← this, Int.add_mul_ediv_left _ _ (by omega), Int.ediv_eq_zero_of_lt (by omega) (by omega)]
      rw [this]; omega
    have hm : a0 % a1 = Int.tmod a0 a1 + a1 := by
      rw [hd] at e'; omega
    have hdn : a0 / a1 < 0 := Int.ediv_neg_of_neg_of_pos hneg h1
    rw [hd, hm, show wrap64 (Int.tdiv a0 a1) = Int.tdiv a0 a1 by unfold wrap64; omega, show wrap64 (Int.tdiv a0 a1 - 1) = Int.tdiv a0 a1 - 1 by unfold wrap64; omega, show wrap64 (Int.tmod a0 a1 + a1) = Int.tmod a0 a1 + a1 by unfold wrap64; omega]
  · rw [if_neg hc]
    have hd : a0 / a1 = Int.tdiv a0 a1 := by
      have : Int.tmod a0 a1 + a1 * Int.tdiv a0 a1 = a0 := by omega
      rw [← this, Int.add_mul_ediv_left _ _ (by omega), Int.ediv_eq_zero_of_lt (by omega) (by omega)]
      rw [this]; omega
    have hm : a0 % a1 = Int.tmod a0 a1 := by
      rw [hd] at e'; omega
    rw [hd, hm, show wrap64 (Int.tdiv a0 a1) = Int.tdiv a0 a1 by unfold wrap64; omega]
set_option maxHeartbeats 1000000 in
theorem rational_Round.calls (a0 : Int) (a1 : Int) (r : Int) (w : World) (h : rational_Round.f a0 a1 = some r) :
  Calls Tryz.prog 118 #[.int .i64 a0, .int .i64 a1] w fun e w' => e = .returned (.int .i64 r) ∧ Drawn0 w w' := by
 unfold rational_Round.f at h
 split at h
 case isFalse => cases h
 rename_i hc
 obtain ⟨h1, h2, h3, h4, h5, h6⟩ := hc
 obtain rfl := Option.some.inj h
 have hF := r_Floor a0 a1 h1 h3 h4 (by omega)
 have m1 := Int.emod_nonneg a0 (show a1 ≠ 0 by omega)
 have m2 := Int.emod_lt_of_pos a0 h1
 have e' := Int.mul_ediv_add_emod a0 a1
 obtain ⟨A, hA⟩ : ∃ A : Int, a0 / a1 = A := ⟨_, rfl⟩
 obtain ⟨R, hR⟩ := Int.eq_ofNat_of_zero_le m1
 rw [hR] at hF m2 e'
 rw [hA] at hF h5 h6 e'
 have hM := fun w => Tryz.bits_Mul64 R 131072 (by omega) (by decide) w
 obtain ⟨H, hH⟩ : ∃ H : Nat, R * 131072 / 18446744073709551616 = H := ⟨_, rfl⟩
 obtain ⟨L, hL⟩ : ∃ L : Nat, R * 131072 % 18446744073709551616 = L := ⟨_, rfl⟩
 have hHL : R * 131072 = H * 18446744073709551616 + L := by omega
 rw [hH, hL] at hM
 obtain ⟨c, hc⟩ : ∃ c : Int, ((L : Int) + a1) / 18446744073709551616 = c := ⟨_, rfl⟩
 obtain ⟨lo, hlo⟩ : ∃ lo : Int, ((L : Int) + a1) % 18446744073709551616 = lo := ⟨_, rfl⟩
 have hA64 : ∀ w : World, (callFunc 131 #[.int .u64 (L : Int), .int .u64 a1, .int .u64 0]).run Tryz.prog w = .ok (.value (.tuple #[.int .u64 lo, .int .u64 c])) w := by
  intro w
  rw [run_callFunc_extern Tryz.func131 (by kernel_rfl) (by kernel_rfl) (by kernel_rfl) (e := add64Entry) (by kernel_rfl), run_add64 (L : Int) a1 0 (by omega) (by omega) (by omega) (by omega)]
  simp only [Result.andThen, Int.add_zero]
  rw [hc, hlo]
 obtain ⟨rem, hD⟩ := div64_small ((H : Int) + c) lo (2 * a1) (by omega) (by omega) (by omega) (by omega) (by omega) (by omega)
 have hN : ((H : Int) + c) * 18446744073709551616 + lo = R * 131072 + a1 := by omega
 rw [hN] at hD
 have hfin : (131072 * a0 + a1) / (2 * a1) = A * 65536 + ((R : Int) * 131072 + a1) / (2 * a1) := by
  have k1 : 2 * a1 * (A * 65536) = 131072 * (a1 * A) := by
   rw [Int.mul_assoc, ← Int.mul_assoc a1]; omega
  have k2 : 131072 * a0 + a1 = ((R : Int) * 131072 + a1) + (2 * a1) * (A * 65536) := by
   rw [k1, ← e', Int.mul_add]; omega
  rw [k2, Int.add_mul_ediv_left _ _ (by omega), Int.add_comm]
 obtain ⟨n, hn⟩ : ∃ n : Int, ((R : Int) * 131072 + a1) / (2 * a1) = n := ⟨_, rfl⟩
 have hn0 : 0 ≤ n := by rw [← hn]; exact Int.ediv_nonneg (by omega) (by omega)
 have hn1 : n ≤ 65537 := by
  have : n < 65538 := by rw [← hn]; exact Int.ediv_lt_of_lt_mul (by omega) (by omega)
  omega
 rw [hn] at hD hfin
 rw [hfin]
 have hc0 : 0 ≤ c := by omega
 have hHc : (H : Int) + c ≤ 131072 := by omega
 have hF' := Lib.hid hF
 have hD' := Lib.hid hD
 have hM' := Lib.hid hM
 clear hF hD hM e' hfin hN hHL hH hL hc hlo hR hA hn m1
 go_enter Tryz.func118, Tryz.ntmps118
 go_wp2_with (first | (go_at_call 117; refine (rational_Floor.calls a0 a1 A R _ hF'.out).mono ?_; rintro e w1 ⟨rfl, ⟨n1, rfl⟩⟩) | (go_at_call 130; refine (hM'.out _).mono ?_; rintro e w2 ⟨rfl, rfl⟩) | (go_at_call 132; refine (bits_Div64.calls 500000 ((H : Int) + c) lo (2 * a1) n rem _ hD'.out).mono ?_; rintro e w3 ⟨rfl, ⟨n3, rfl⟩⟩))
 go_ret
 exact ⟨rfl, by repeat (first | exact Drawn0.refl _ | apply Drawn0.step)⟩
end Go.Proofs.YtilamkcpbibnmaaGreatDoor.P
