import Derived.Test.YtilamkcpbibnmaaGreatDoorZPx0
import Derived.Test.YtilamkcpbibnmaaGreatDoorZPxfleuronlaw08few
import Derived.Test.YtilamkcpbibnmaaGreatDoorZPxlinearrising
import Derived.Test.YtilamkcpbibnmaaGreatDoorZPxlinearjoin
import Derived.Test.YtilamkcpbibnmaaGreatDoorZPxfleuronref08Same
import Derived.Test.YtilamkcpbibnmaaGreatDoorZPxfleuronlaw08number
import Derived.Test.YtilamkcpbibnmaaGreatDoorZPxfleuronref08Valid
import Derived.Test.YtilamkcpbibnmaaGreatDoorZPxfleuronref08names
namespace Go.Proofs.YtilamkcpbibnmaaGreatDoor.P
open Go.RowKit Go.Proofs.YtilamkcpbibnmaaGreatDoorW.PrintWords Go.Proofs.YtilamkcpbibnmaaGreatDoorW.PrintLast Go.Proofs.YtilamkcpbibnmaaGreatDoorW.PrintMore
attribute [local go_sem] max2_int min2_int max_two min_two max_three min_three max_four min_four
set_option linter.unusedVariables false
set_option linter.unusedSimpArgs false
def fleuronlaw08_LinearSums.f (k : Nat) (a0_0 : Int) (a0_1 : Int) (l0 : List S47) (a1_0 : Int) (a1_1 : Int) (l1 : List S47) : Option Bool :=
  (fleuronlaw08_few.f k [(⟨(⟨a0_0, a0_1⟩ : S23), l0⟩ : S26), (⟨(⟨a1_0, a1_1⟩ : S23), l1⟩ : S26)]).bind fun t => if t = true then (linear_Add.f k a0_0 a0_1 l0 a1_0 a1_1 l1).bind fun a => (fleuronref08_Add.f k a0_0 a0_1 l0 a1_0 a1_1 l1).bind fun b => (linear_Sub.f k a0_0 a0_1 l0 a1_0 a1_1 l1).bind fun m => (fleuronref08_Sub.f k a0_0 a0_1 l0 a1_0 a1_1 l1).bind fun n => (linear_Valid.f k a0_0 a0_1 l0).bind fun s0 => (fleuronref08_Valid.f k a0_0 a0_1 l0).bind fun s1 => (fleuronref08_Same.f k a.1 a.2.1 a.2.2.1 b.1 b.2.1 b.2.2.1).bind fun s2 => (fleuronref08_Same.f k m.1 m.2.1 m.2.2.1 n.1 n.2.1 n.2.2.1).bind fun s3 => (fleuronlaw08_awake.f k).bind fun v => if s0 = s1 ∧ s2 = true ∧ a.2.2.2 = b.2.2.2 ∧ s3 = true ∧ m.2.2.2 = n.2.2.2 then some v else none else fleuronlaw08_awake.f k
theorem fleuronlaw08_LinearSums.few_n (k : Nat) {n : Nat} {A0 : Option Addr} {c0 : Nat} {l0 : List S26} {r : Bool} {w : World} (hr : Kd.C k26 w A0 n l0) (hc : n ≤ c0) (h : fleuronlaw08_few.f k l0 = some r) : Calls Tryz.prog 11 #[.slice A0 n c0] w fun e w' => e = .returned (.bool r) ∧ Below w.heap.size w w' := by
  obtain rfl : l0.length = n := hr.1
  exact fleuronlaw08_few.calls k A0 c0 l0 r w hr hc h
set_option maxHeartbeats 8000000 in
set_option maxRecDepth 100000 in
theorem fleuronlaw08_LinearSums.calls (k : Nat) (a0_0 : Int) (a0_1 : Int) (A0 : Option Addr) (c0 : Nat) (l0 : List S47) (a1_0 : Int) (a1_1 : Int) (A1 : Option Addr) (c1 : Nat) (l1 : List S47) (r : Bool) (w : World) (hr0 : Kd.C k47 w A0 l0.length l0) (hc0 : l0.length ≤ c0) (hr1 : Kd.C k47 w A1 l1.length l1) (hc1 : l1.length ≤ c1) (h : fleuronlaw08_LinearSums.f k a0_0 a0_1 l0 a1_0 a1_1 l1 = some r) (hG : Glob w) :
  Calls Tryz.prog 3 #[.agg #[.int .i64 a0_0, .int .i64 a0_1, .slice A0 l0.length c0], .agg #[.int .i64 a1_0, .int .i64 a1_1, .slice A1 l1.length c1]] w fun e w' => e = .returned (.bool r) ∧ Below w.heap.size w w' := by
 have HG := Fa.mk hG
 clear hG
 have hu26 := Tryz.underlying26
 have hu23 := Tryz.underlying23
 have hu47 := Tryz.underlying47
 have hBs : Base w := Base.mk
 have HR0 := Fa.mk hr0
 have HC0 := Fa.mk hc0
 clear hr0 hc0
 have HR1 := Fa.mk hr1
 have HC1 := Fa.mk hc1
 clear hr1 hc1
 unfold fleuronlaw08_LinearSums.f at h
 obtain ⟨t, e_, h⟩ := Option.bind_eq_some_iff.mp h
 have ET := Fa.mk e_
 clear e_
 have S := Fa.mk (AS.nil w)
 by_cases ht : t = true
 rotate_left
 ·
  obtain rfl : t = false := by simpa using ht
  rw [if_neg (by simp)] at h
  clear ht
  have EV := Fa.mk h
  clear h
  go_enter Tryz.func3, Tryz.ntmps3
  go_wp2_with (first | ((with_reducible refine gate_dst (N := 2) rfl ?_); refine boxF (N := 2) (cs := #[.int .i64 a0_0, .int .i64 a0_1, .slice A0 l0.length c0]) (t := 26) ?_; intro gi0 hg wi0 hx hb; have S1 := Fa.mk (S.out.inp HR0.out HC0.out hg hb hx); clear hg hb hx S; have S := S1; clear S1) | ((with_reducible refine gate_dst (N := 3) rfl ?_); refine boxF (N := 3) (cs := #[.int .i64 a1_0, .int .i64 a1_1, .slice A1 l1.length c1]) (t := 26) ?_; intro gi1 hg wi1 hx hb; have S1 := Fa.mk (S.out.inp HR1.out HC1.out hg hb hx); clear hg hb hx S; have S := S1; clear S1; have cl0_0 := jcell (S.out.get 1 rfl).blk (i := 0) rfl; have cl0_1 := jcell (S.out.get 1 rfl).blk (i := 1) rfl; have cl0_2 := jcell (S.out.get 1 rfl).blk (i := 2) rfl; have rr0 := Fa.mk (S.out.rd 1 rfl); have cl1_0 := jcell (S.out.get 0 rfl).blk (i := 0) rfl; have cl1_1 := jcell (S.out.get 0 rfl).blk (i := 1) rfl; have cl1_2 := jcell (S.out.get 0 rfl).blk (i := 2) rfl; have rr1 := Fa.mk (S.out.rd 0 rfl)) | ((with_reducible refine gate_dst (N := 15) rfl ?_); refine fewLit 15 ?hg ?hd (xs := [(⟨(⟨a0_0, a0_1⟩ : S23), l0⟩ : S26), (⟨(⟨a1_0, a1_1⟩ : S23), l1⟩ : S26)]) (inner := [.int .i64 a0_0, .int .i64 a0_1, .slice A0 l0.length c0, .int .i64 a1_0, .int .i64 a1_1, .slice A1 l1.length c1]) ?hr ?hp (by simp) ?_; (case hd => rfl); (case hg => rfl); (case hr => first | (go_simp; done) | (go_simp; rfl)); (case hp => exact (Reps.c3 (k26_mk _ (⟨(⟨a0_0, a0_1⟩ : S23), l0⟩ : S26) HC0.out (Kd.C_below HR0.out S.out.below)) (Reps.c3 (k26_mk _ (⟨(⟨a1_0, a1_1⟩ : S23), l1⟩ : S26) HC1.out (Kd.C_below HR1.out S.out.below)) (Reps.none _ _)))); intro AL cL wL hCL hcL hb; have HCL : Fa (Kd.C k26 wL AL 2 [(⟨(⟨a0_0, a0_1⟩ : S23), l0⟩ : S26), (⟨(⟨a1_0, a1_1⟩ : S23), l1⟩ : S26)]) := ⟨hCL⟩; have HcL : Fa (2 ≤ cL) := ⟨hcL⟩; clear hCL hcL cl0_0 cl0_1 cl0_2 rr0 cl1_0 cl1_1 cl1_2 rr1; have S1 := Fa.mk (S.out.call hb); clear hb S; have S := S1; clear S1) | (go_at_call 11; (with_reducible refine (fleuronlaw08_LinearSums.few_n k HCL.out HcL.out ET.out).mono ?_); rintro e wf ⟨rfl, hb⟩; clear HCL HcL; have S1 := Fa.mk (S.out.call hb); clear hb S; have S := S1; clear S1) | (go_at_call 12; (with_reducible refine (fleuronlaw08_awake.calls k r _ EV.out (HG.out.below S.out.below)).mono ?_); rintro e wa ⟨rfl, hb⟩; have S1 := Fa.mk (S.out.call hb); clear hb S; have S := S1; clear S1))
  go_ret
  exact ⟨rfl, S.out.below⟩
 subst ht
 rw [if_pos rfl] at h
 replace h := Option.bind_eq_some_iff.mp h
 obtain ⟨⟨a1, a2, a3, a4⟩, e_, h⟩ := h
 (try dsimp only at e_ h)
 have E0 := Fa.mk e_
 clear e_
 replace h := Option.bind_eq_some_iff.mp h
 obtain ⟨⟨b1, b2, b3, b4⟩, e_, h⟩ := h
 (try dsimp only at e_ h)
 have E1 := Fa.mk e_
 clear e_
 replace h := Option.bind_eq_some_iff.mp h
 obtain ⟨⟨m1, m2, m3, m4⟩, e_, h⟩ := h
 (try dsimp only at e_ h)
 have E2 := Fa.mk e_
 clear e_
 replace h := Option.bind_eq_some_iff.mp h
 obtain ⟨⟨n1, n2, n3, n4⟩, e_, h⟩ := h
 (try dsimp only at e_ h)
 have E3 := Fa.mk e_
 clear e_
 replace h := Option.bind_eq_some_iff.mp h
 obtain ⟨s0, e_, h⟩ := h
 (try dsimp only at e_ h)
 have D0 := Fa.mk e_
 clear e_
 replace h := Option.bind_eq_some_iff.mp h
 obtain ⟨s1, e_, h⟩ := h
 (try dsimp only at e_ h)
 have D1 := Fa.mk e_
 clear e_
 replace h := Option.bind_eq_some_iff.mp h
 obtain ⟨s2, e_, h⟩ := h
 (try dsimp only at e_ h)
 have D2 := Fa.mk e_
 clear e_
 replace h := Option.bind_eq_some_iff.mp h
 obtain ⟨s3, e_, h⟩ := h
 (try dsimp only at e_ h)
 have D3 := Fa.mk e_
 clear e_
 replace h := Option.bind_eq_some_iff.mp h
 obtain ⟨v, e_, h⟩ := h
 (try dsimp only at e_ h)
 have EV := Fa.mk e_
 clear e_
 split at h
 rotate_left
 ·
  cases h
 rename_i hc
 obtain rfl := Option.some.inj h
 clear h
 obtain ⟨rfl, rfl, rfl, rfl, rfl⟩ := hc
 go_enter Tryz.func3, Tryz.ntmps3
 go_upto_region 3 with (first | ((with_reducible refine gate_dst (N := 2) rfl ?_); refine boxF (N := 2) (cs := #[.int .i64 a0_0, .int .i64 a0_1, .slice A0 l0.length c0]) (t := 26) ?_; intro gi0 hg wi0 hx hb; have S1 := Fa.mk (S.out.inp HR0.out HC0.out hg hb hx); clear hg hb hx S; have S := S1; clear S1) | ((with_reducible refine gate_dst (N := 3) rfl ?_); refine boxF (N := 3) (cs := #[.int .i64 a1_0, .int .i64 a1_1, .slice A1 l1.length c1]) (t := 26) ?_; intro gi1 hg wi1 hx hb; have S1 := Fa.mk (S.out.inp HR1.out HC1.out hg hb hx); clear hg hb hx S; have S := S1; clear S1; have cl0_0 := jcell (S.out.get 1 rfl).blk (i := 0) rfl; have cl0_1 := jcell (S.out.get 1 rfl).blk (i := 1) rfl; have cl0_2 := jcell (S.out.get 1 rfl).blk (i := 2) rfl; have rr0 := Fa.mk (S.out.rd 1 rfl); have cl1_0 := jcell (S.out.get 0 rfl).blk (i := 0) rfl; have cl1_1 := jcell (S.out.get 0 rfl).blk (i := 1) rfl; have cl1_2 := jcell (S.out.get 0 rfl).blk (i := 2) rfl; have rr1 := Fa.mk (S.out.rd 0 rfl)) | ((with_reducible refine gate_dst (N := 15) rfl ?_); refine fewLit 15 ?hg ?hd (xs := [(⟨(⟨a0_0, a0_1⟩ : S23), l0⟩ : S26), (⟨(⟨a1_0, a1_1⟩ : S23), l1⟩ : S26)]) (inner := [.int .i64 a0_0, .int .i64 a0_1, .slice A0 l0.length c0, .int .i64 a1_0, .int .i64 a1_1, .slice A1 l1.length c1]) ?hr ?hp (by simp) ?_; (case hd => rfl); (case hg => rfl); (case hr => first | (go_simp; done) | (go_simp; rfl)); (case hp => exact (Reps.c3 (k26_mk _ (⟨(⟨a0_0, a0_1⟩ : S23), l0⟩ : S26) HC0.out (Kd.C_below HR0.out S.out.below)) (Reps.c3 (k26_mk _ (⟨(⟨a1_0, a1_1⟩ : S23), l1⟩ : S26) HC1.out (Kd.C_below HR1.out S.out.below)) (Reps.none _ _)))); intro AL cL wL hCL hcL hb; have HCL : Fa (Kd.C k26 wL AL 2 [(⟨(⟨a0_0, a0_1⟩ : S23), l0⟩ : S26), (⟨(⟨a1_0, a1_1⟩ : S23), l1⟩ : S26)]) := ⟨hCL⟩; have HcL : Fa (2 ≤ cL) := ⟨hcL⟩; clear hCL hcL cl0_0 cl0_1 cl0_2 rr0 cl1_0 cl1_1 cl1_2 rr1; have S1 := Fa.mk (S.out.call hb); clear hb S; have S := S1; clear S1) | (go_at_call 11; (with_reducible refine (fleuronlaw08_LinearSums.few_n k HCL.out HcL.out ET.out).mono ?_); rintro e wf ⟨rfl, hb⟩; clear HCL HcL; have S1 := Fa.mk (S.out.call hb); clear hb S; have S := S1; clear S1))
 have cl0_0 := jcell (S.out.get 1 rfl).blk (i := 0) rfl
 have cl0_1 := jcell (S.out.get 1 rfl).blk (i := 1) rfl
 have cl0_2 := jcell (S.out.get 1 rfl).blk (i := 2) rfl
 have rr0 := Fa.mk (S.out.rd 1 rfl)
 have cl1_0 := jcell (S.out.get 0 rfl).blk (i := 0) rfl
 have cl1_1 := jcell (S.out.get 0 rfl).blk (i := 1) rfl
 have cl1_2 := jcell (S.out.get 0 rfl).blk (i := 2) rfl
 have rr1 := Fa.mk (S.out.rd 0 rfl)
 go_upto_region 4 with (first | (go_at_call 13; (with_reducible refine (linear_Add.calls k a0_0 a0_1 A0 c0 l0 a1_0 a1_1 A1 c1 l1 a1 a2 a3 _ _ rr0.out.2.2 rr0.out.2.1 rr1.out.2.2 rr1.out.2.1 E0.out (HG.out.below S.out.below)).mono ?_); rintro e wca ⟨va, rfl, ho, hb⟩; obtain ⟨Aa, ca, hv⟩ := Kd.R_slice ho; subst hv; have Q := Fa.mk ((AQ.start S.out).row hb ho); clear ho hb S cl0_0 cl0_1 cl0_2 rr0 cl1_0 cl1_1 cl1_2 rr1) | ((with_reducible refine gate_dst (N := 5) rfl ?_); refine boxF (N := 5) (cs := #[.int .i64 0, .int .i64 0, .slice none 0 0]) (t := 26) ?_; intro ga hg wba hx hb; have S := Fa.mk ((Q.out.box hg hb hx).put a1 a2); have co0 := jcell hx (i := 0) rfl; have co1 := jcell hx (i := 1) rfl; have co2 := jcell hx (i := 2) rfl; have fo0 := blk_frozen hx 0; have fo1 := blk_frozen hx 1; have fo2 := blk_frozen hx 2; clear hg hb hx Q))
 generalize hW_ : (((wba.setCell ⟨ga, 0, none⟩ (.int .i64 a1)).setCell ⟨ga, 1, none⟩ (.int .i64 a2)).setCell ⟨ga, 2, none⟩ (.slice Aa a3.length ca)) = wwa at S ⊢
 clear hW_ co0 co1 co2 fo0 fo1 fo2
 have cl0_0 := jcell (S.out.get 2 rfl).blk (i := 0) rfl
 have cl0_1 := jcell (S.out.get 2 rfl).blk (i := 1) rfl
 have cl0_2 := jcell (S.out.get 2 rfl).blk (i := 2) rfl
 have rr0 := Fa.mk (S.out.rd 2 rfl)
 have cl1_0 := jcell (S.out.get 1 rfl).blk (i := 0) rfl
 have cl1_1 := jcell (S.out.get 1 rfl).blk (i := 1) rfl
 have cl1_2 := jcell (S.out.get 1 rfl).blk (i := 2) rfl
 have rr1 := Fa.mk (S.out.rd 1 rfl)
 go_upto_region 5 with (first | (go_at_call 14; (with_reducible refine (fleuronref08_Add.calls k a0_0 a0_1 A0 c0 l0 a1_0 a1_1 A1 c1 l1 b1 b2 b3 _ _ rr0.out.2.2 rr0.out.2.1 rr1.out.2.2 rr1.out.2.1 E1.out).mono ?_); rintro e wcb ⟨vb, rfl, ho, hb⟩; obtain ⟨Ab, cb, hv⟩ := Kd.R_slice ho; subst hv; have Q := Fa.mk ((AQ.start S.out).row hb ho); clear ho hb S cl0_0 cl0_1 cl0_2 rr0 cl1_0 cl1_1 cl1_2 rr1) | ((with_reducible refine gate_dst (N := 7) rfl ?_); refine boxF (N := 7) (cs := #[.int .i64 0, .int .i64 0, .slice none 0 0]) (t := 26) ?_; intro gb hg wbb hx hb; have S := Fa.mk ((Q.out.box hg hb hx).put b1 b2); have co0 := jcell hx (i := 0) rfl; have co1 := jcell hx (i := 1) rfl; have co2 := jcell hx (i := 2) rfl; have fo0 := blk_frozen hx 0; have fo1 := blk_frozen hx 1; have fo2 := blk_frozen hx 2; clear hg hb hx Q))
 generalize hW_ : (((wbb.setCell ⟨gb, 0, none⟩ (.int .i64 b1)).setCell ⟨gb, 1, none⟩ (.int .i64 b2)).setCell ⟨gb, 2, none⟩ (.slice Ab b3.length cb)) = wwb at S ⊢
 clear hW_ co0 co1 co2 fo0 fo1 fo2
 have cl0_0 := jcell (S.out.get 3 rfl).blk (i := 0) rfl
 have cl0_1 := jcell (S.out.get 3 rfl).blk (i := 1) rfl
 have cl0_2 := jcell (S.out.get 3 rfl).blk (i := 2) rfl
 have rr0 := Fa.mk (S.out.rd 3 rfl)
 have cl1_0 := jcell (S.out.get 2 rfl).blk (i := 0) rfl
 have cl1_1 := jcell (S.out.get 2 rfl).blk (i := 1) rfl
 have cl1_2 := jcell (S.out.get 2 rfl).blk (i := 2) rfl
 have rr1 := Fa.mk (S.out.rd 2 rfl)
 go_upto_region 6 with (first | (go_at_call 15; (with_reducible refine (linear_Sub.calls k a0_0 a0_1 A0 c0 l0 a1_0 a1_1 A1 c1 l1 m1 m2 m3 _ _ rr0.out.2.2 rr0.out.2.1 rr1.out.2.2 rr1.out.2.1 E2.out (HG.out.below S.out.below)).mono ?_); rintro e wcm ⟨vm, rfl, ho, hb⟩; obtain ⟨Am, cm, hv⟩ := Kd.R_slice ho; subst hv; have Q := Fa.mk ((AQ.start S.out).row hb ho); clear ho hb S cl0_0 cl0_1 cl0_2 rr0 cl1_0 cl1_1 cl1_2 rr1) | ((with_reducible refine gate_dst (N := 9) rfl ?_); refine boxF (N := 9) (cs := #[.int .i64 0, .int .i64 0, .slice none 0 0]) (t := 26) ?_; intro gm hg wbm hx hb; have S := Fa.mk ((Q.out.box hg hb hx).put m1 m2); have co0 := jcell hx (i := 0) rfl; have co1 := jcell hx (i := 1) rfl; have co2 := jcell hx (i := 2) rfl; have fo0 := blk_frozen hx 0; have fo1 := blk_frozen hx 1; have fo2 := blk_frozen hx 2; clear hg hb hx Q))
 generalize hW_ : (((wbm.setCell ⟨gm, 0, none⟩ (.int .i64 m1)).setCell ⟨gm, 1, none⟩ (.int .i64 m2)).setCell ⟨gm, 2, none⟩ (.slice Am m3.length cm)) = wwm at S ⊢
 clear hW_ co0 co1 co2 fo0 fo1 fo2
 have cl0_0 := jcell (S.out.get 4 rfl).blk (i := 0) rfl
 have cl0_1 := jcell (S.out.get 4 rfl).blk (i := 1) rfl
 have cl0_2 := jcell (S.out.get 4 rfl).blk (i := 2) rfl
 have rr0 := Fa.mk (S.out.rd 4 rfl)
 have cl1_0 := jcell (S.out.get 3 rfl).blk (i := 0) rfl
 have cl1_1 := jcell (S.out.get 3 rfl).blk (i := 1) rfl
 have cl1_2 := jcell (S.out.get 3 rfl).blk (i := 2) rfl
 have rr1 := Fa.mk (S.out.rd 3 rfl)
 go_upto_region 7 with (first | (go_at_call 16; (with_reducible refine (fleuronref08_Sub.calls k a0_0 a0_1 A0 c0 l0 a1_0 a1_1 A1 c1 l1 n1 n2 n3 _ _ rr0.out.2.2 rr0.out.2.1 rr1.out.2.2 rr1.out.2.1 E3.out).mono ?_); rintro e wcn ⟨vn, rfl, ho, hb⟩; obtain ⟨An, cn, hv⟩ := Kd.R_slice ho; subst hv; have Q := Fa.mk ((AQ.start S.out).row hb ho); clear ho hb S cl0_0 cl0_1 cl0_2 rr0 cl1_0 cl1_1 cl1_2 rr1) | ((with_reducible refine gate_dst (N := 11) rfl ?_); refine boxF (N := 11) (cs := #[.int .i64 0, .int .i64 0, .slice none 0 0]) (t := 26) ?_; intro gn hg wbn hx hb; have S := Fa.mk ((Q.out.box hg hb hx).put n1 n2); have co0 := jcell hx (i := 0) rfl; have co1 := jcell hx (i := 1) rfl; have co2 := jcell hx (i := 2) rfl; have fo0 := blk_frozen hx 0; have fo1 := blk_frozen hx 1; have fo2 := blk_frozen hx 2; clear hg hb hx Q))
 generalize hW_ : (((wbn.setCell ⟨gn, 0, none⟩ (.int .i64 n1)).setCell ⟨gn, 1, none⟩ (.int .i64 n2)).setCell ⟨gn, 2, none⟩ (.slice An n3.length cn)) = wwn at S ⊢
 clear hW_ co0 co1 co2 fo0 fo1 fo2
 refine startU 29 (S := AS w [] [(gn, n1, n2, .slice An n3.length cn, n3), (gm, m1, m2, .slice Am m3.length cm, m3), (gb, b1, b2, .slice Ab b3.length cb, b3), (ga, a1, a2, .slice Aa a3.length ca, a3), (gi1, a1_0, a1_1, .slice A1 l1.length c1, l1), (gi0, a0_0, a0_1, .slice A0 l0.length c0, l0)]) (ds := []) S.out.drew (fun hHeld => ?_)
 clear S
 generalize World.drew _ = wd at hHeld ⊢
 refine takeV 0 (some 43) (upto 29 1) hHeld rfl (by intro w' s_; have c0 := jcell (s_.get 5 rfl).blk (i := 0) rfl; have c1 := jcell (s_.get 5 rfl).blk (i := 1) rfl; have c2 := jcell (s_.get 5 rfl).blk (i := 2) rfl; clear s_; go_simp; with_reducible rfl) ?_
 refine takeV 2 (some 45) #[true, false, true, false, false, false, false, false, false, false, false, false, false, false, false, false, false, false, false, false, false, false, false, false, false, false, false, false, false] hHeld rfl (by intro w' s_; have c0 := jcell (s_.get 5 rfl).blk (i := 0) rfl; have c1 := jcell (s_.get 5 rfl).blk (i := 1) rfl; have c2 := jcell (s_.get 5 rfl).blk (i := 2) rfl; clear s_; go_simp; with_reducible rfl) ?_
 refine oneV 1 (some 44) (upto 29 3) (fun K hK => ?_)
 refine goes_ Tryz.func17 (by kernel_rfl) rfl #[.agg #[.int .i64 a0_0, .int .i64 a0_1, .slice A0 l0.length c0]] (by rfl) rfl rfl (by (try simp only [List.map_toArray, List.map_cons, List.map_nil]); first | done | rfl) ?_
 refine (linear_Valid.calls k a0_0 a0_1 A0 c0 l0 s0 _ (hHeld.rd 5 rfl).2.2 (hHeld.rd 5 rfl).2.1 D0.out).mono ?_
 rintro e w1 ⟨rfl, hb⟩
 refine ⟨_, rfl, ?_⟩
 refine hK.out _ _ (hHeld.call hb) (fun hHeld1 => ?_)
 clear hK K hb hHeld
 have hHeld := hHeld1
 clear hHeld1
 refine normU (some 44) ?_
 refine oneV 3 (some 46) (upto 29 4) (fun K hK => ?_)
 refine goes_ Tryz.func18 (by kernel_rfl) rfl #[.agg #[.int .i64 a0_0, .int .i64 a0_1, .slice A0 l0.length c0]] (by rfl) rfl rfl (by (try simp only [List.map_toArray, List.map_cons, List.map_nil]); first | done | rfl) ?_
 refine (fleuronref08_Valid.calls k a0_0 a0_1 A0 c0 l0 s0 _ (hHeld.rd 5 rfl).2.2 (hHeld.rd 5 rfl).2.1 D1.out).mono ?_
 rintro e w3 ⟨rfl, hb⟩
 refine ⟨_, rfl, ?_⟩
 refine hK.out _ _ (hHeld.call hb) (fun hHeld1 => ?_)
 clear hK K hb hHeld
 have hHeld := hHeld1
 clear hHeld1
 refine normU (some 46) ?_
 refine pureV 4 (some 47) (upto 29 5) ?_
 refine pureV 5 (some 48) (upto 29 6) ?_
 refine takeV 6 (some 49) (upto 29 7) hHeld rfl (by intro w' s_; have c0 := jcell (s_.get 3 rfl).blk (i := 0) rfl; have c1 := jcell (s_.get 3 rfl).blk (i := 1) rfl; have c2 := jcell (s_.get 3 rfl).blk (i := 2) rfl; clear s_; go_simp; with_reducible rfl) ?_
 refine takeV 7 (some 50) (upto 29 8) hHeld rfl (by intro w' s_; have c0 := jcell (s_.get 2 rfl).blk (i := 0) rfl; have c1 := jcell (s_.get 2 rfl).blk (i := 1) rfl; have c2 := jcell (s_.get 2 rfl).blk (i := 2) rfl; clear s_; go_simp; with_reducible rfl) ?_
 refine oneV 8 (some 51) (upto 29 9) (fun K hK => ?_)
 refine goes_ Tryz.func19 (by kernel_rfl) rfl #[.agg #[.int .i64 a1, .int .i64 a2, .slice Aa a3.length ca], .agg #[.int .i64 b1, .int .i64 b2, .slice Ab b3.length cb]] (by rfl) rfl rfl (by (try simp only [List.map_toArray, List.map_cons, List.map_nil]); first | done | rfl) ?_
 refine (fleuronref08_Same.calls k a1 a2 Aa ca a3 b1 b2 Ab cb b3 true _ (hHeld.rd 3 rfl).2.2 (hHeld.rd 3 rfl).2.1 (hHeld.rd 2 rfl).2.2 (hHeld.rd 2 rfl).2.1 D2.out).mono ?_
 rintro e w8 ⟨rfl, hb⟩
 refine ⟨_, rfl, ?_⟩
 refine hK.out _ _ (hHeld.call hb) (fun hHeld1 => ?_)
 clear hK K hb hHeld
 have hHeld := hHeld1
 clear hHeld1
 refine normU (some 51) ?_
 refine pureV 9 (some 52) (upto 29 10) ?_
 refine pureV 10 (some 53) (upto 29 11) ?_
 refine pureV 11 (some 54) (upto 29 12) ?_
 refine pureV 12 (some 55) (upto 29 13) ?_
 refine pureV 13 (some 56) (upto 29 14) ?_
 refine pureV 14 (some 57) (upto 29 15) ?_
 refine pureV 15 (some 58) (upto 29 16) ?_
 refine takeV 16 (some 59) (upto 29 17) hHeld rfl (by intro w' s_; have c0 := jcell (s_.get 1 rfl).blk (i := 0) rfl; have c1 := jcell (s_.get 1 rfl).blk (i := 1) rfl; have c2 := jcell (s_.get 1 rfl).blk (i := 2) rfl; clear s_; go_simp; with_reducible rfl) ?_
 refine takeV 17 (some 60) (upto 29 18) hHeld rfl (by intro w' s_; have c0 := jcell (s_.get 0 rfl).blk (i := 0) rfl; have c1 := jcell (s_.get 0 rfl).blk (i := 1) rfl; have c2 := jcell (s_.get 0 rfl).blk (i := 2) rfl; clear s_; go_simp; with_reducible rfl) ?_
 refine oneV 18 (some 61) (upto 29 19) (fun K hK => ?_)
 refine goes_ Tryz.func19 (by kernel_rfl) rfl #[.agg #[.int .i64 m1, .int .i64 m2, .slice Am m3.length cm], .agg #[.int .i64 n1, .int .i64 n2, .slice An n3.length cn]] (by rfl) rfl rfl (by (try simp only [List.map_toArray, List.map_cons, List.map_nil]); first | done | rfl) ?_
 refine (fleuronref08_Same.calls k m1 m2 Am cm m3 n1 n2 An cn n3 true _ (hHeld.rd 1 rfl).2.2 (hHeld.rd 1 rfl).2.1 (hHeld.rd 0 rfl).2.2 (hHeld.rd 0 rfl).2.1 D3.out).mono ?_
 rintro e w18 ⟨rfl, hb⟩
 refine ⟨_, rfl, ?_⟩
 refine hK.out _ _ (hHeld.call hb) (fun hHeld1 => ?_)
 clear hK K hb hHeld
 have hHeld := hHeld1
 clear hHeld1
 refine normU (some 61) ?_
 refine pureV 19 (some 62) (upto 29 20) ?_
 refine pureV 20 (some 63) (upto 29 21) ?_
 refine pureV 21 (some 64) (upto 29 22) ?_
 refine pureV 22 (some 65) (upto 29 23) ?_
 refine pureV 23 (some 66) (upto 29 24) ?_
 refine pureV 24 (some 67) (upto 29 25) ?_
 refine pureV 25 (some 68) (upto 29 26) ?_
 refine oneV 26 (some 69) (upto 29 27) (fun K hK => ?_)
 refine goes_ Tryz.func12 (by kernel_rfl) rfl #[] (by rfl) rfl rfl (by (try simp only [List.map_toArray, List.map_cons, List.map_nil]); first | done | rfl) ?_
 refine (fleuronlaw08_awake.calls k v _ EV.out (HG.out.below hHeld.below)).mono ?_
 rintro e w26 ⟨rfl, hb⟩
 refine ⟨_, rfl, ?_⟩
 refine hK.out _ _ (hHeld.call hb) (fun hHeld1 => ?_)
 clear hK K hb hHeld
 have hHeld := hHeld1
 clear hHeld1
 refine normU (some 69) ?_
 refine pureV 27 (some 70) (upto 29 28) ?_
 refine pureV 28 (some 4) (upto 29 29) ?_
 refine done_ (by kernel_rfl) ?_
 go_wp2
 go_ret
 exact ⟨rfl, hHeld.below⟩
end Go.Proofs.YtilamkcpbibnmaaGreatDoor.P
