import Derived.Test.YtilamkcpbibnmaaGreatDoorZPx0
import Derived.Test.YtilamkcpbibnmaaGreatDoorZPxfleuronref01gcd
import Derived.Test.YtilamkcpbibnmaaGreatDoorZPxfleuronref08terms
namespace Go.Proofs.YtilamkcpbibnmaaGreatDoor.P
open Go.RowKit Go.Proofs.YtilamkcpbibnmaaGreatDoorW.PrintWords Go.Proofs.YtilamkcpbibnmaaGreatDoorW.PrintLast Go.Proofs.YtilamkcpbibnmaaGreatDoorW.PrintMore
attribute [local go_sem] max2_int min2_int max_two min_two max_three min_three max_four min_four
set_option linter.unusedVariables false
set_option linter.unusedSimpArgs false
def fleuronref08_Valid.f (k : Nat) (a0_0 : Int) (a0_1 : Int) (l0_2 : List (S47)) : Option (Bool) := (fleuronref01_Valid.f k a0_0 a0_1).bind fun t272 => (if t272 = true then ((fleuronref08_terms.f k l0_2 false).bind fun t273 => (some t273)) else (some false))
set_option maxHeartbeats 8000000 in
set_option maxRecDepth 100000 in
theorem fleuronref08_Valid.calls (k : Nat) (a0_0 : Int) (a0_1 : Int) (A0_2 : Option Addr) (c0_2 : Nat) (l0_2 : List (S47)) (r : Bool) (w : World) (hr0_2 : Kd.C k47 w A0_2 l0_2.length l0_2) (hc0_2 : l0_2.length ≤ c0_2) (h : fleuronref08_Valid.f k a0_0 a0_1 l0_2 = some r) :
  Calls Tryz.prog 18 #[.agg #[.int .i64 a0_0, .int .i64 a0_1, .slice A0_2 l0_2.length c0_2]] w fun e w' => e = .returned (.bool r) ∧ Below w.heap.size w w' := by
 have hu26 := Tryz.underlying26
 have hu23 := Tryz.underlying23
 have HR0_2 := Fa.mk hr0_2
 have HC0_2 := Fa.mk hc0_2
 clear hr0_2 hc0_2
 have HB := Fa.mk (Below.refl w.heap.size w)
 have H : ((fleuronref01_Valid.f k a0_0 a0_1).bind fun t272 => (if t272 = true then ((fleuronref08_terms.f k l0_2 false).bind fun t273 => (some t273)) else (some false))) = some r := h
 clear h
 replace H := Option.bind_eq_some_iff.mp H
 obtain ⟨t272, A20, H⟩ := H
 (try dsimp only at H)
 have A2 := Fa.mk A20
 clear A20
 by_cases c3 : t272 = true
 ·
  subst c3
  rw [if_pos rfl] at H
  replace H := Option.bind_eq_some_iff.mp H
  obtain ⟨t273, A40, H⟩ := H
  (try dsimp only at H)
  have A4 := Fa.mk A40
  clear A40
  obtain rfl := Option.some.inj H
  go_enter Tryz.func18, Tryz.ntmps18
  go_wp2_with (first | ((with_reducible refine gate_dst (N := 1) rfl ?_); refine boxF (N := 1) (cs := #[.int .i64 a0_0, .int .i64 a0_1, .slice A0_2 l0_2.length c0_2]) (t := 26) ?_; intro gb271 hg w5 hbox hb; have hS := Stp.mk hb; have BK271 := Fa.mk (hbox); have GW271 := Fa.mk (gle hg : w.heap.size ≤ gb271); have GE271 := GW271; clear hb hbox hg; have hcz6_0 := jcell BK271.out (i := 0) rfl; have hcz6_1 := jcell BK271.out (i := 1) rfl; have hcz6_2 := jcell BK271.out (i := 2) rfl; have hfz6_0 := blk_frozen BK271.out 0; have hfz6_1 := blk_frozen BK271.out 1; have hfz6_2 := blk_frozen BK271.out 2) | ((with_reducible refine gate_callee (f := 34) rfl ?_); refine goesA (some 5) rfl rfl Tryz.func34 (by kernel_rfl) rfl #[.agg #[.int .i64 a0_0, .int .i64 a0_1]] rfl ?_; (with_reducible refine (fleuronref01_Valid.calls k a0_0 a0_1 true _ A2.out).mono ?_); rintro e w7 ⟨rfl, hb⟩; refine ⟨_, rfl, ?_⟩; have hS := Stp.mk hb; have BK271 := (⟨fa⟩ : Fa (w7.heap[gb271]? = some (.cells #[.int .i64 a0_0, .int .i64 a0_1, .slice A0_2 l0_2.length c0_2] 26 (0, 0)))); clear hb; have hcz8_0 := jcell BK271.out (i := 0) rfl; have hcz8_1 := jcell BK271.out (i := 1) rfl; have hcz8_2 := jcell BK271.out (i := 2) rfl; have hfz8_0 := blk_frozen BK271.out 0; have hfz8_1 := blk_frozen BK271.out 1; have hfz8_2 := blk_frozen BK271.out 2) | (go_at_call 48; (with_reducible refine (fleuronref08_terms.calls k _ _ l0_2 false t273 _ ?side1 ?side2 A4.out).mono ?_); (case side1 => repeat (first | exact (Kd.C_below HR0_2.out fa) | (with_reducible refine Kd.C_alloc ?_ _) | (with_reducible refine Kd.C_drewN ?_ _) | (with_reducible refine Kd.C_drew ?_))); (case side2 => exact HC0_2.out); rintro e w9 ⟨rfl, hb⟩; have hS := Stp.mk hb; clear hb))
  go_ret
  exact ⟨rfl, fa⟩
 ·
  replace c3 := Bool.eq_false_iff.mpr c3
  subst c3
  rw [if_neg (show ¬ (false = true) by decide)] at H
  obtain rfl := Option.some.inj H
  go_enter Tryz.func18, Tryz.ntmps18
  go_wp2_with (first | ((with_reducible refine gate_dst (N := 1) rfl ?_); refine boxF (N := 1) (cs := #[.int .i64 a0_0, .int .i64 a0_1, .slice A0_2 l0_2.length c0_2]) (t := 26) ?_; intro gb271 hg w10 hbox hb; have hS := Stp.mk hb; have BK271 := Fa.mk (hbox); have GW271 := Fa.mk (gle hg : w.heap.size ≤ gb271); have GE271 := GW271; clear hb hbox hg; have hcz11_0 := jcell BK271.out (i := 0) rfl; have hcz11_1 := jcell BK271.out (i := 1) rfl; have hcz11_2 := jcell BK271.out (i := 2) rfl; have hfz11_0 := blk_frozen BK271.out 0; have hfz11_1 := blk_frozen BK271.out 1; have hfz11_2 := blk_frozen BK271.out 2) | ((with_reducible refine gate_callee (f := 34) rfl ?_); refine goesA (some 5) rfl rfl Tryz.func34 (by kernel_rfl) rfl #[.agg #[.int .i64 a0_0, .int .i64 a0_1]] rfl ?_; (with_reducible refine (fleuronref01_Valid.calls k a0_0 a0_1 false _ A2.out).mono ?_); rintro e w12 ⟨rfl, hb⟩; refine ⟨_, rfl, ?_⟩; have hS := Stp.mk hb; clear hb))
  go_ret
  exact ⟨rfl, fa⟩
end Go.Proofs.YtilamkcpbibnmaaGreatDoor.P
