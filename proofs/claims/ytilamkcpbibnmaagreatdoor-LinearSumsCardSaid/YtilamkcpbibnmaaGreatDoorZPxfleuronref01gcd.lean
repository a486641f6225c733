import Derived.Test.YtilamkcpbibnmaaGreatDoorZPx0
namespace Go.Proofs.YtilamkcpbibnmaaGreatDoor.P
open Go.RowKit Go.Proofs.YtilamkcpbibnmaaGreatDoorW.PrintWords Go.Proofs.YtilamkcpbibnmaaGreatDoorW.PrintLast Go.Proofs.YtilamkcpbibnmaaGreatDoorW.PrintMore
attribute [local go_sem] max2_int min2_int max_two min_two max_three min_three max_four min_four
set_option linter.unusedVariables false
set_option linter.unusedSimpArgs false
def fleuronref01_gcd.l0 : Nat → Int → Int → Option (Int)
  | 0, _, _ => none
  | k + 1, x0, x1 => if x1 > 0 then (if x1 = 0 then (none) else (fleuronref01_gcd.l0 k x1 (Int.tmod x0 x1))) else (some x0)
def fleuronref01_gcd.f (k : Nat) (a0 : Int) (a1 : Int) : Option (Int) := fleuronref01_gcd.l0 k a0 a1
set_option maxHeartbeats 8000000 in
set_option maxRecDepth 100000 in
theorem fleuronref01_gcd.calls (k : Nat) (a0 : Int) (a1 : Int) (r : Int) (w : World) (h : fleuronref01_gcd.f k a0 a1 = some r) :
  Calls Tryz.prog 72 #[.int .u64 a0, .int .u64 a1] w fun e w' => e = .returned (.int .u64 r) ∧ Drawn0 w w' := by
 have H : (fleuronref01_gcd.l0 k a0 a1) = some r := h
 clear h
 have H' := Fa.mk H
 clear H
 go_enter Tryz.func72, Tryz.ntmps72
 go_wp2
 go_loopg [0, 1] k (fun kq v0 v1 w' => ∃ (x0_1 : Int) (x1_1 : Int), v0 = .int .u64 x0_1 ∧ v1 = .int .u64 x1_1 ∧ Fa (fleuronref01_gcd.l0 kq x0_1 x1_1 = some r) ∧ Fa (kq ≤ k) ∧ Drawn0 w w')
 case atStart => exact ⟨(a0), (a1), (by first | rfl | (simp; done) | (simp [*]; done)), (by first | rfl | (simp; done) | (simp [*]; done)), H', ⟨Nat.le_refl _⟩, by repeat (first | exact Drawn0.refl _ | apply Drawn0.step)⟩
 case round =>
  clear H'
  try clear p2
  obtain ⟨x0_1, x1_1, rfl, rfl, HA, HK1, ⟨m1, rfl⟩⟩ := hrel
  cases gk with
  | zero => exact absurd HA.out (by simp [fleuronref01_gcd.l0])
  | succ k1 =>
   have H := HA.out
   clear HA
   simp only [fleuronref01_gcd.l0] at H
   by_cases c3 : x1_1 > 0
   ·
    rw [if_pos c3] at H
    have c3b0 : decide (0 < x1_1) = true := decide_eq_true c3
    clear c3
    by_cases c4 : x1_1 = 0
    ·
     rw [if_pos c4] at H
     exact absurd H (by simp)
    ·
     rw [if_neg c4] at H
     have c4b0 : (x1_1 == 0) = false := beq_eq_false_iff_ne.mpr c4
     have c4b1 : (x1_1 != 0) = true := bne_iff_ne.mpr c4
     have H' := Fa.mk H
     clear H
     go_wp2
     go_roundg k1
     case measure => have := HK1.out; omega
     case rel => exact ⟨(x1_1), (Int.tmod x0_1 x1_1), (by first | rfl | (simp; done) | (simp [*]; done)), (by first | rfl | (simp; done) | (simp [*]; done)), H', ⟨by have := HK1.out; omega⟩, by repeat (first | exact Drawn0.refl _ | apply Drawn0.step)⟩
   ·
    rw [if_neg c3] at H
    have c3b0 : decide (0 < x1_1) = false := decide_eq_false c3
    clear c3
    obtain rfl := Option.some.inj H
    go_wp2
    go_ret
    exact ⟨by first | rfl | (simp; done) | (simp [*]; done), by repeat (first | exact Drawn0.refl _ | apply Drawn0.step)⟩
def fleuronref01_size.f (a0 : Int) : Option (Int) := if a0 < 0 then (some (IntKind.u64.wrap ((IntKind.u64.wrap (wrap64 (-(wrap64 (a0 + 1))))) + 1))) else (some (IntKind.u64.wrap (a0)))
set_option maxHeartbeats 8000000 in
set_option maxRecDepth 100000 in
theorem fleuronref01_size.calls (a0 : Int) (r : Int) (w : World) (h : fleuronref01_size.f a0 = some r) :
  Calls Tryz.prog 73 #[.int .i64 a0] w fun e w' => e = .returned (.int .u64 r) ∧ Drawn0 w w' := by
 have H : (if a0 < 0 then (some (IntKind.u64.wrap ((IntKind.u64.wrap (wrap64 (-(wrap64 (a0 + 1))))) + 1))) else (some (IntKind.u64.wrap (a0)))) = some r := h
 clear h
 by_cases c2 : a0 < 0
 ·
  rw [if_pos c2] at H
  have c2b0 : decide (a0 < 0) = true := decide_eq_true c2
  clear c2
  obtain rfl := Option.some.inj H
  go_enter Tryz.func73, Tryz.ntmps73
  go_wp2
  go_ret
  exact ⟨by first | rfl | (simp; done) | (simp [*]; done), by repeat (first | exact Drawn0.refl _ | apply Drawn0.step)⟩
 ·
  rw [if_neg c2] at H
  have c2b0 : decide (a0 < 0) = false := decide_eq_false c2
  clear c2
  obtain rfl := Option.some.inj H
  go_enter Tryz.func73, Tryz.ntmps73
  go_wp2
  go_ret
  exact ⟨by first | rfl | (simp; done) | (simp [*]; done), by repeat (first | exact Drawn0.refl _ | apply Drawn0.step)⟩
def fleuronref01_Valid.f (k : Nat) (a0_0 : Int) (a0_1 : Int) : Option (Bool) := if a0_1 ≥ 1 then (if a0_1 ≤ 2147483647 then (if a0_0 ≥ (-2147483647) then (if a0_0 ≤ 2147483647 then ((fleuronref01_size.f a0_0).bind fun t263 => ((fleuronref01_gcd.f k t263 (IntKind.u64.wrap (a0_1))).bind fun t264 => (some (t264 == 1)))) else (some false)) else (some false)) else (some false)) else (some false)
set_option maxHeartbeats 8000000 in
set_option maxRecDepth 100000 in
theorem fleuronref01_Valid.calls (k : Nat) (a0_0 : Int) (a0_1 : Int) (r : Bool) (w : World) (h : fleuronref01_Valid.f k a0_0 a0_1 = some r) :
  Calls Tryz.prog 34 #[.agg #[.int .i64 a0_0, .int .i64 a0_1]] w fun e w' => e = .returned (.bool r) ∧ Below w.heap.size w w' := by
 have hu23 := Tryz.underlying23
 have HB := Fa.mk (Below.refl w.heap.size w)
 have H : (if a0_1 ≥ 1 then (if a0_1 ≤ 2147483647 then (if a0_0 ≥ (-2147483647) then (if a0_0 ≤ 2147483647 then ((fleuronref01_size.f a0_0).bind fun t263 => ((fleuronref01_gcd.f k t263 (IntKind.u64.wrap (a0_1))).bind fun t264 => (some (t264 == 1)))) else (some false)) else (some false)) else (some false)) else (some false)) = some r := h
 clear h
 by_cases c2 : a0_1 ≥ 1
 ·
  rw [if_pos c2] at H
  have c2b0 : decide (1 ≤ a0_1) = true := decide_eq_true c2
  clear c2
  by_cases c3 : a0_1 ≤ 2147483647
  ·
   rw [if_pos c3] at H
   have c3b0 : decide (a0_1 ≤ 2147483647) = true := decide_eq_true c3
   clear c3
   by_cases c4 : a0_0 ≥ (-2147483647)
   ·
    rw [if_pos c4] at H
    have c4b0 : decide ((-2147483647) ≤ a0_0) = true := decide_eq_true c4
    clear c4
    by_cases c5 : a0_0 ≤ 2147483647
    ·
     rw [if_pos c5] at H
     have c5b0 : decide (a0_0 ≤ 2147483647) = true := decide_eq_true c5
     clear c5
     replace H := Option.bind_eq_some_iff.mp H
     obtain ⟨t263, A60, H⟩ := H
     (try dsimp only at H)
     have A6 := Fa.mk A60
     clear A60
     replace H := Option.bind_eq_some_iff.mp H
     obtain ⟨t264, A70, H⟩ := H
     (try dsimp only at H)
     have A7 := Fa.mk A70
     clear A70
     obtain rfl := Option.some.inj H
     go_enter Tryz.func34, Tryz.ntmps34
     iterate 4 (go_wp2_with (first | ((with_reducible refine gate_dst (N := 1) rfl ?_); refine boxF (N := 1) (cs := #[.int .i64 a0_0, .int .i64 a0_1]) (t := 23) ?_; intro gb262 hg w8 hbox hb; have hS := Stp.mk hb; have BK262 := Fa.mk (hbox); have GW262 := Fa.mk (gle hg : w.heap.size ≤ gb262); have GE262 := GW262; clear hb hbox hg; have hcz9_0 := jcell BK262.out (i := 0) rfl; have hcz9_1 := jcell BK262.out (i := 1) rfl; have hfz9_0 := blk_frozen BK262.out 0; have hfz9_1 := blk_frozen BK262.out 1) | (go_at_call 73; (with_reducible refine (fleuronref01_size.calls a0_0 t263 _ A6.out).mono ?_); rintro e w' ⟨rfl, ⟨nd, rfl⟩⟩; (try first | exact ⟨rfl, _, World.drewN_drewN _ _ _⟩ | exact ⟨rfl, _, Eq.trans (World.drewN_drewN _ _ _) (congrArg (World.drewN _) (Nat.add_assoc _ _ _))⟩)) | (go_at_call 72; (with_reducible refine (fleuronref01_gcd.calls k t263 (IntKind.u64.wrap (a0_1)) t264 _ A7.out).mono ?_); rintro e w' ⟨rfl, ⟨nd, rfl⟩⟩; (try first | exact ⟨rfl, _, World.drewN_drewN _ _ _⟩ | exact ⟨rfl, _, Eq.trans (World.drewN_drewN _ _ _) (congrArg (World.drewN _) (Nat.add_assoc _ _ _))⟩))); (try go_quiet (first | ((with_reducible refine gate_dst (N := 1) rfl ?_); refine boxF (N := 1) (cs := #[.int .i64 a0_0, .int .i64 a0_1]) (t := 23) ?_; intro gb262 hg w8 hbox hb; have hS := Stp.mk hb; have BK262 := Fa.mk (hbox); have GW262 := Fa.mk (gle hg : w.heap.size ≤ gb262); have GE262 := GW262; clear hb hbox hg; have hcz9_0 := jcell BK262.out (i := 0) rfl; have hcz9_1 := jcell BK262.out (i := 1) rfl; have hfz9_0 := blk_frozen BK262.out 0; have hfz9_1 := blk_frozen BK262.out 1) | (go_at_call 73; (with_reducible refine (fleuronref01_size.calls a0_0 t263 _ A6.out).mono ?_); rintro e w' ⟨rfl, ⟨nd, rfl⟩⟩; (try first | exact ⟨rfl, _, World.drewN_drewN _ _ _⟩ | exact ⟨rfl, _, Eq.trans (World.drewN_drewN _ _ _) (congrArg (World.drewN _) (Nat.add_assoc _ _ _))⟩)) | (go_at_call 72; (with_reducible refine (fleuronref01_gcd.calls k t263 (IntKind.u64.wrap (a0_1)) t264 _ A7.out).mono ?_); rintro e w' ⟨rfl, ⟨nd, rfl⟩⟩; (try first | exact ⟨rfl, _, World.drewN_drewN _ _ _⟩ | exact ⟨rfl, _, Eq.trans (World.drewN_drewN _ _ _) (congrArg (World.drewN _) (Nat.add_assoc _ _ _))⟩)))))
     go_ret
     exact ⟨rfl, fa⟩
    ·
     rw [if_neg c5] at H
     have c5b0 : decide (a0_0 ≤ 2147483647) = false := decide_eq_false c5
     clear c5
     obtain rfl := Option.some.inj H
     go_enter Tryz.func34, Tryz.ntmps34
     iterate 4 (go_wp2_with (first | ((with_reducible refine gate_dst (N := 1) rfl ?_); refine boxF (N := 1) (cs := #[.int .i64 a0_0, .int .i64 a0_1]) (t := 23) ?_; intro gb262 hg w10 hbox hb; have hS := Stp.mk hb; have BK262 := Fa.mk (hbox); have GW262 := Fa.mk (gle hg : w.heap.size ≤ gb262); have GE262 := GW262; clear hb hbox hg; have hcz11_0 := jcell BK262.out (i := 0) rfl; have hcz11_1 := jcell BK262.out (i := 1) rfl; have hfz11_0 := blk_frozen BK262.out 0; have hfz11_1 := blk_frozen BK262.out 1)); (try go_quiet (first | ((with_reducible refine gate_dst (N := 1) rfl ?_); refine boxF (N := 1) (cs := #[.int .i64 a0_0, .int .i64 a0_1]) (t := 23) ?_; intro gb262 hg w10 hbox hb; have hS := Stp.mk hb; have BK262 := Fa.mk (hbox); have GW262 := Fa.mk (gle hg : w.heap.size ≤ gb262); have GE262 := GW262; clear hb hbox hg; have hcz11_0 := jcell BK262.out (i := 0) rfl; have hcz11_1 := jcell BK262.out (i := 1) rfl; have hfz11_0 := blk_frozen BK262.out 0; have hfz11_1 := blk_frozen BK262.out 1))))
     go_ret
     exact ⟨rfl, fa⟩
   ·
    rw [if_neg c4] at H
    have c4b0 : decide ((-2147483647) ≤ a0_0) = false := decide_eq_false c4
    clear c4
    obtain rfl := Option.some.inj H
    go_enter Tryz.func34, Tryz.ntmps34
    iterate 4 (go_wp2_with (first | ((with_reducible refine gate_dst (N := 1) rfl ?_); refine boxF (N := 1) (cs := #[.int .i64 a0_0, .int .i64 a0_1]) (t := 23) ?_; intro gb262 hg w12 hbox hb; have hS := Stp.mk hb; have BK262 := Fa.mk (hbox); have GW262 := Fa.mk (gle hg : w.heap.size ≤ gb262); have GE262 := GW262; clear hb hbox hg; have hcz13_0 := jcell BK262.out (i := 0) rfl; have hcz13_1 := jcell BK262.out (i := 1) rfl; have hfz13_0 := blk_frozen BK262.out 0; have hfz13_1 := blk_frozen BK262.out 1)); (try go_quiet (first | ((with_reducible refine gate_dst (N := 1) rfl ?_); refine boxF (N := 1) (cs := #[.int .i64 a0_0, .int .i64 a0_1]) (t := 23) ?_; intro gb262 hg w12 hbox hb; have hS := Stp.mk hb; have BK262 := Fa.mk (hbox); have GW262 := Fa.mk (gle hg : w.heap.size ≤ gb262); have GE262 := GW262; clear hb hbox hg; have hcz13_0 := jcell BK262.out (i := 0) rfl; have hcz13_1 := jcell BK262.out (i := 1) rfl; have hfz13_0 := blk_frozen BK262.out 0; have hfz13_1 := blk_frozen BK262.out 1))))
    go_ret
    exact ⟨rfl, fa⟩
  ·
   rw [if_neg c3] at H
   have c3b0 : decide (a0_1 ≤ 2147483647) = false := decide_eq_false c3
   clear c3
   obtain rfl := Option.some.inj H
   go_enter Tryz.func34, Tryz.ntmps34
   iterate 4 (go_wp2_with (first | ((with_reducible refine gate_dst (N := 1) rfl ?_); refine boxF (N := 1) (cs := #[.int .i64 a0_0, .int .i64 a0_1]) (t := 23) ?_; intro gb262 hg w14 hbox hb; have hS := Stp.mk hb; have BK262 := Fa.mk (hbox); have GW262 := Fa.mk (gle hg : w.heap.size ≤ gb262); have GE262 := GW262; clear hb hbox hg; have hcz15_0 := jcell BK262.out (i := 0) rfl; have hcz15_1 := jcell BK262.out (i := 1) rfl; have hfz15_0 := blk_frozen BK262.out 0; have hfz15_1 := blk_frozen BK262.out 1)); (try go_quiet (first | ((with_reducible refine gate_dst (N := 1) rfl ?_); refine boxF (N := 1) (cs := #[.int .i64 a0_0, .int .i64 a0_1]) (t := 23) ?_; intro gb262 hg w14 hbox hb; have hS := Stp.mk hb; have BK262 := Fa.mk (hbox); have GW262 := Fa.mk (gle hg : w.heap.size ≤ gb262); have GE262 := GW262; clear hb hbox hg; have hcz15_0 := jcell BK262.out (i := 0) rfl; have hcz15_1 := jcell BK262.out (i := 1) rfl; have hfz15_0 := blk_frozen BK262.out 0; have hfz15_1 := blk_frozen BK262.out 1))))
   go_ret
   exact ⟨rfl, fa⟩
 ·
  rw [if_neg c2] at H
  have c2b0 : decide (1 ≤ a0_1) = false := decide_eq_false c2
  clear c2
  obtain rfl := Option.some.inj H
  go_enter Tryz.func34, Tryz.ntmps34
  iterate 4 (go_wp2_with (first | ((with_reducible refine gate_dst (N := 1) rfl ?_); refine boxF (N := 1) (cs := #[.int .i64 a0_0, .int .i64 a0_1]) (t := 23) ?_; intro gb262 hg w16 hbox hb; have hS := Stp.mk hb; have BK262 := Fa.mk (hbox); have GW262 := Fa.mk (gle hg : w.heap.size ≤ gb262); have GE262 := GW262; clear hb hbox hg; have hcz17_0 := jcell BK262.out (i := 0) rfl; have hcz17_1 := jcell BK262.out (i := 1) rfl; have hfz17_0 := blk_frozen BK262.out 0; have hfz17_1 := blk_frozen BK262.out 1)); (try go_quiet (first | ((with_reducible refine gate_dst (N := 1) rfl ?_); refine boxF (N := 1) (cs := #[.int .i64 a0_0, .int .i64 a0_1]) (t := 23) ?_; intro gb262 hg w16 hbox hb; have hS := Stp.mk hb; have BK262 := Fa.mk (hbox); have GW262 := Fa.mk (gle hg : w.heap.size ≤ gb262); have GE262 := GW262; clear hb hbox hg; have hcz17_0 := jcell BK262.out (i := 0) rfl; have hcz17_1 := jcell BK262.out (i := 1) rfl; have hfz17_0 := blk_frozen BK262.out 0; have hfz17_1 := blk_frozen BK262.out 1))))
  go_ret
  exact ⟨rfl, fa⟩
def fleuronref08_Name.l0 : Nat → ByteArray → Int → Option (Bool)
  | 0, _, _ => none
  | k + 1, x0, x3 => if x3 < (x0.size : Int) then (if 0 ≤ x3 then (if (bt x0 x3) < 33 then (some false) else (if (bt x0 x3) > 126 then (some false) else (fleuronref08_Name.l0 k x0 (wrap64 (x3 + 1))))) else (none)) else (if (x0.size : Int) ≥ 1 then (some (decide ((x0.size : Int) ≤ 200))) else (some false))
def fleuronref08_Name.f (k : Nat) (a0 : ByteArray) : Option (Bool) := fleuronref08_Name.l0 k a0 0
set_option maxHeartbeats 8000000 in
set_option maxRecDepth 100000 in
theorem fleuronref08_Name.calls (k : Nat) (a0 : ByteArray) (r : Bool) (w : World) (h : fleuronref08_Name.f k a0 = some r) :
  Calls Tryz.prog 52 #[.string a0] w fun e w' => e = .returned (.bool r) ∧ Drawn0 w w' := by
 have H : (fleuronref08_Name.l0 k a0 0) = some r := h
 clear h
 have H' := Fa.mk H
 clear H
 go_enter Tryz.func52, Tryz.ntmps52
 go_wp2
 go_loopg [3] k (fun kq v3 w' => ∃ (x3_1 : Int), v3 = .int .i64 x3_1 ∧ Fa (fleuronref08_Name.l0 kq a0 x3_1 = some r) ∧ Fa (kq ≤ k) ∧ Drawn0 w w')
 case atStart => exact ⟨(0), (by first | rfl | (simp; done) | (simp [*]; done)), H', ⟨Nat.le_refl _⟩, by repeat (first | exact Drawn0.refl _ | apply Drawn0.step)⟩
 case round =>
  clear H'
  obtain ⟨x3_1, rfl, HA, HK1, ⟨m1, rfl⟩⟩ := hrel
  cases gk with
  | zero => exact absurd HA.out (by simp [fleuronref08_Name.l0])
  | succ k1 =>
   have H := HA.out
   clear HA
   simp only [fleuronref08_Name.l0] at H
   by_cases c2 : x3_1 < (a0.size : Int)
   ·
    rw [if_pos c2] at H
    have c2b0 : decide (x3_1 < (a0.size : Int)) = true := decide_eq_true c2
    clear c2
    by_cases c3 : 0 ≤ x3_1
    ·
     rw [if_pos c3] at H
     have c3b0 : decide (0 ≤ x3_1) = true := decide_eq_true c3
     clear c3
     by_cases c5 : (bt a0 x3_1) < 33
     ·
      rw [if_pos c5] at H
      have c5b0 : decide ((bt a0 x3_1) < 33) = true := decide_eq_true c5
      clear c5
      obtain rfl := Option.some.inj H
      have p4 : 0 ≤ (x3_1 : Int) := of_decide_eq_true (by first | (with_reducible assumption) | assumption)
      have q4 : x3_1 < (a0.size : Int) := of_decide_eq_true (by first | (with_reducible assumption) | assumption)
      have hx4 := bt_at a0 x3_1
      replace p4 := eq_true p4
      replace q4 := eq_true q4
      go_wp2
      go_ret
      exact ⟨by first | rfl | (simp; done) | (simp [*]; done), by repeat (first | exact Drawn0.refl _ | apply Drawn0.step)⟩
     ·
      rw [if_neg c5] at H
      have c5b0 : decide ((bt a0 x3_1) < 33) = false := decide_eq_false c5
      clear c5
      by_cases c7 : (bt a0 x3_1) > 126
      ·
       rw [if_pos c7] at H
       have c7b0 : decide (126 < (bt a0 x3_1)) = true := decide_eq_true c7
       clear c7
       obtain rfl := Option.some.inj H
       have p4 : 0 ≤ (x3_1 : Int) := of_decide_eq_true (by first | (with_reducible assumption) | assumption)
       have q4 : x3_1 < (a0.size : Int) := of_decide_eq_true (by first | (with_reducible assumption) | assumption)
       have hx4 := bt_at a0 x3_1
       replace p4 := eq_true p4
       replace q4 := eq_true q4
       have p6 : 0 ≤ (x3_1 : Int) := of_decide_eq_true (by first | (with_reducible assumption) | assumption)
       have q6 : x3_1 < (a0.size : Int) := of_decide_eq_true (by first | (with_reducible assumption) | assumption)
       have hx6 := bt_at a0 x3_1
       replace p6 := eq_true p6
       replace q6 := eq_true q6
       go_wp2
       go_ret
       exact ⟨by first | rfl | (simp; done) | (simp [*]; done), by repeat (first | exact Drawn0.refl _ | apply Drawn0.step)⟩
      ·
       rw [if_neg c7] at H
       have c7b0 : decide (126 < (bt a0 x3_1)) = false := decide_eq_false c7
       clear c7
       have H' := Fa.mk H
       clear H
       have p4 : 0 ≤ (x3_1 : Int) := of_decide_eq_true (by first | (with_reducible assumption) | assumption)
       have q4 : x3_1 < (a0.size : Int) := of_decide_eq_true (by first | (with_reducible assumption) | assumption)
       have hx4 := bt_at a0 x3_1
       replace p4 := eq_true p4
       replace q4 := eq_true q4
       have p6 : 0 ≤ (x3_1 : Int) := of_decide_eq_true (by first | (with_reducible assumption) | assumption)
       have q6 : x3_1 < (a0.size : Int) := of_decide_eq_true (by first | (with_reducible assumption) | assumption)
       have hx6 := bt_at a0 x3_1
       replace p6 := eq_true p6
       replace q6 := eq_true q6
       go_wp2
       go_roundg k1
       case measure => have := HK1.out; omega
       case rel => exact ⟨(wrap64 (x3_1 + 1)), (by first | rfl | (simp; done) | (simp [*]; done)), H', ⟨by have := HK1.out; omega⟩, by repeat (first | exact Drawn0.refl _ | apply Drawn0.step)⟩
    ·
     rw [if_neg c3] at H
     exact absurd H (by simp)
   ·
    rw [if_neg c2] at H
    have c2b0 : decide (x3_1 < (a0.size : Int)) = false := decide_eq_false c2
    clear c2
    by_cases c8 : (a0.size : Int) ≥ 1
    ·
     rw [if_pos c8] at H
     have c8b0 : decide (1 ≤ (a0.size : Int)) = true := decide_eq_true c8
     have c8b1 : decide (1 ≤ a0.size) = true := decide_eq_true (by omega)
     clear c8
     obtain rfl := Option.some.inj H
     go_wp2
     go_ret
     exact ⟨by first | rfl | (simp; done) | (simp [*]; done), by repeat (first | exact Drawn0.refl _ | apply Drawn0.step)⟩
    ·
     rw [if_neg c8] at H
     have c8b0 : decide (1 ≤ (a0.size : Int)) = false := decide_eq_false c8
     have c8b1 : decide (1 ≤ a0.size) = false := decide_eq_false (by omega)
     clear c8
     obtain rfl := Option.some.inj H
     go_wp2
     go_ret
     exact ⟨by first | rfl | (simp; done) | (simp [*]; done), by repeat (first | exact Drawn0.refl _ | apply Drawn0.step)⟩
end Go.Proofs.YtilamkcpbibnmaaGreatDoor.P
