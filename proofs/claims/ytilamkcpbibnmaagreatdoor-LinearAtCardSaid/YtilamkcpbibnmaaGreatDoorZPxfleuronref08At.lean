import Derived.Test.YtilamkcpbibnmaaGreatDoorZPx0
import Derived.Test.YtilamkcpbibnmaaGreatDoorZPxfleuronlaw08few
import Derived.Test.YtilamkcpbibnmaaGreatDoorZPxfleuronref08Same
import Derived.Test.YtilamkcpbibnmaaGreatDoorZPxlinearOver
import Derived.Test.YtilamkcpbibnmaaGreatDoorZPxfleuronlaw08number
import Derived.Test.YtilamkcpbibnmaaGreatDoorZPxfleuronref08terms
import Derived.Test.YtilamkcpbibnmaaGreatDoorZPxfleuronref08Valid
import Derived.Test.YtilamkcpbibnmaaGreatDoorZPxfleuronref01Near
import Derived.Test.YtilamkcpbibnmaaGreatDoorZPxfleuronref08coef
namespace Go.Proofs.YtilamkcpbibnmaaGreatDoor.P
open Go.RowKit Go.Proofs.YtilamkcpbibnmaaGreatDoorW.PrintWords Go.Proofs.YtilamkcpbibnmaaGreatDoorW.PrintLast Go.Proofs.YtilamkcpbibnmaaGreatDoorW.PrintMore
attribute [local go_sem] max2_int min2_int max_two min_two max_three min_three max_four min_four
set_option linter.unusedVariables false
set_option linter.unusedSimpArgs false
def rathas (n : ByteArray) (l : List S47) : Bool := l.any fun x => x.f0.toList == n.toList
def ratgo (k : Nat) (l1 : List S47) : List S47 → Int → Int → List S47 → Option (Int × Int × List S47 × Int)
  | [], c0, c1, out => some (c0, c1, out, 0)
  | t :: ts, c0, c1, out => if rathas t.f0 l1 = true then (fleuronref08_coef.f k l1 t.f0).bind fun b => (fleuronref01_Near.f k (⟨#[42]⟩ : ByteArray) t.f1.f0 t.f1.f1 b.1 b.2).bind fun v =>
      if v.2.2 = 0 then (fleuronref01_Near.f k (⟨#[43]⟩ : ByteArray) c0 c1 v.1 v.2.1).bind fun s => if s.2.2 = 0 then ratgo k l1 ts s.1 s.2.1 out else some (0, 0, [], s.2.2) else some (0, 0, [], v.2.2) else ratgo k l1 ts c0 c1 (out ++ [t])
def fleuronref08_At.f (k : Nat) (a0_0 a0_1 : Int) (l0_2 l1 : List S47) : Option (Int × Int × List S47 × Int) :=
  if ¬ (l0_2.length < 4398046511104 ∧ l1.length < 4398046511104) then none else (fleuronref08_Valid.f k a0_0 a0_1 l0_2).bind fun v => if v = true then (fleuronref08_terms.f k l1 true).bind fun r => if r = true then ratgo k l1 l0_2 a0_0 a0_1 [] else some (0, 0, [], 2) else some (0, 0, [], 2)
theorem TB.tmp {w W W1 : World} {gr go gt g : Nat} {c0 c1 : Int} {ov : Value} {out : List S47} {t : S47} (s : TB w gr go gt c0 c1 ov out t W) (hg : g = W.heap.size) (hb : Below W.heap.size W W1) (h : W1.heap[g]? = some (.cells #[.string (⟨#[]⟩ : ByteArray), .int .i64 0, .int .i64 0] 47 (0, 0))) (u : S47) :
    TB w gr go gt c0 c1 ov out t (((W1.setCell ⟨g, 0, none⟩ (.string u.f0)).setCell ⟨g, 1, none⟩ (.int .i64 u.f1.f0)).setCell ⟨g, 2, none⟩ (.int .i64 u.f1.f1)) ∧ (((W1.setCell ⟨g, 0, none⟩ (.string u.f0)).setCell ⟨g, 1, none⟩ (.int .i64 u.f1.f0)).setCell ⟨g, 2, none⟩ (.int .i64 u.f1.f1)).heap[g]? = some (.cells #[.string u.f0, .int .i64 u.f1.f0, .int .i64 u.f1.f1] 47 (0, 0)) := by
  have n := TB.new s.s hg hb h u
  have nt : gt ≠ g := by rw [hg]; exact Nat.ne_of_lt (blk_lt s.bt)
  exact ⟨⟨n.s, blk_far (blk_far (blk_far (blk_below s.bt hb) (p := ⟨g, 0, none⟩) nt _) (p := ⟨g, 1, none⟩) nt _) (p := ⟨g, 2, none⟩) nt _, s.lt⟩, n.bt⟩
theorem rathas_take {n : ByteArray} {l : List S47} {y : Int} (h0 : 0 ≤ y) (h : y < (l.length : Int)) : rathas n (l.take (y.toNat + 1)) = (rathas n (l.take y.toNat) || ((rd_T47 l y).f0.toList == n.toList)) := by
  have hl : y.toNat < l.length := by omega
  unfold rathas
  rw [List.take_succ_eq_append_getElem hl, List.any_append, List.any_cons, List.any_nil, Bool.or_false]
  congr 2
  unfold rd_T47
  rw [List.getD_eq_getElem?_getD, List.getElem?_eq_getElem hl]; rfl
def fleuronref08_At.T15 : Bool × List (List Nat × List Nat) := (true, [([], []), ([0], [0]), ([], []), ([], []), ([3], [3]), ([2, 4], [2, 4]), ([1, 5, 5], [1, 5]), ([6], [6]), ([7], [7]), ([7], [7]), ([], []), ([10, 8, 6, 0, 1, 2, 3, 4, 5, 6, 7, 8, 10], [8, 10]), ([9, 11, 0, 1, 2, 3, 4, 5, 6, 7, 8, 9, 10, 11], [9])])
def fleuronref08_At.B15 : List Nat := [0, 1, 0, 0, 8, 28, 63, 127, 255, 255, 0, 1535, 4095]
theorem fleuronref08_At.tab15 : rtab .any (opsOf Tryz.f29 15) = fleuronref08_At.T15 := by kernel_rfl
theorem fleuronref08_At.bits15 : waitsOk fleuronref08_At.T15.2 fleuronref08_At.B15 = true := by kernel_rfl
set_option maxHeartbeats 8000000 in
set_option maxRecDepth 100000 in
theorem fleuronref08_At.calls (k : Nat) (a0_0 a0_1 : Int) (A0_2 : Option Addr) (c0_2 : Nat) (l0_2 : List S47) (A1 : Option Addr) (c1 : Nat) (l1 : List S47) (r1 r2 : Int) (r3 : List S47) (r4 : Int) (w : World) (hr0_2 : Kd.C k47 w A0_2 l0_2.length l0_2) (hc0_2 : l0_2.length ≤ c0_2) (hr1 : Kd.C k47 w A1 l1.length l1) (hc1 : l1.length ≤ c1) (h : fleuronref08_At.f k a0_0 a0_1 l0_2 l1 = some (r1, r2, r3, r4)) :
  Calls Tryz.prog 29 #[.agg #[.int .i64 a0_0, .int .i64 a0_1, .slice A0_2 l0_2.length c0_2], .slice A1 l1.length c1] w fun e w' => ∃ v2_ : Value, e = .returned (.tuple #[.agg #[.int .i64 r1, .int .i64 r2, v2_], .int .i64 r4]) ∧ Kd.R k47 47 w' w.heap.size (fun _ => True) v2_ r3 ∧ Below w.heap.size w w' := by
 have hu26 := Tryz.underlying26
 have hu23 := Tryz.underlying23
 have hu47 := Tryz.underlying47
 have hBs : Base w := Base.mk
 have HR0 := Fa.mk hr0_2
 have HC0 := Fa.mk hc0_2
 have HR1 := Fa.mk hr1
 have HC1 := Fa.mk hc1
 clear hr0_2 hc0_2 hr1 hc1
 unfold fleuronref08_At.f at h
 split at h
 ·
  cases h
 rename_i hbig
 have HBG : Fa (l0_2.length < 4398046511104 ∧ l1.length < 4398046511104) := ⟨Decidable.not_not.mp hbig⟩
 clear hbig
 obtain ⟨v, hv, h⟩ := Option.bind_eq_some_iff.mp h
 have HV := Fa.mk hv
 clear hv
 by_cases hvt : v = true
 rotate_left
 ·
  rw [if_neg hvt] at h
  obtain rfl : v = false := by simpa using hvt
  simp only [Option.some.injEq, Prod.mk.injEq] at h
  obtain ⟨rfl, rfl, rfl, rfl⟩ := h
  clear hvt
  go_enter Tryz.func29, Tryz.ntmps29
  go_wp2_with (first | ((with_reducible refine gate_dst (N := 2) rfl ?_); refine boxF (N := 2) (cs := #[.int .i64 a0_0, .int .i64 a0_1, .slice A0_2 l0_2.length c0_2]) (t := 26) ?_; intro gf hg_gf w1 hx_gf hb_gf; have BF := Fa.mk hx_gf; have HB1 := Fa.mk hb_gf; clear hg_gf hx_gf hb_gf) | ((with_reducible refine gate_dst (N := 4) rfl ?_); refine boxF (N := 4) (cs := #[.int .i64 0, .int .i64 0, .slice none 0 0]) (t := 26) ?_; intro gr hg_gr w2 hx_gr hb_gr; have SF := Fa.mk (AF.mk (blk_below BF.out hb_gr) hx_gr (below_step HB1.out hb_gr) (Nat.le_trans HB1.out.size (Nat.le_of_eq hg_gr.symm))); clear hg_gr hx_gr hb_gr BF HB1; have HRV := Fa.mk (Kd.C_below HR0.out SF.out.hb); have cf0 := jcell SF.out.bf (i := 0) rfl; have cf1 := jcell SF.out.bf (i := 1) rfl; have cf2 := jcell SF.out.bf (i := 2) rfl) | (go_at_call 18; (with_reducible refine (fleuronref08_Valid.calls k a0_0 a0_1 _ _ l0_2 false _ HRV.out HC0.out HV.out).mono ?_); rintro e w3 ⟨rfl, hb⟩; have SF1 := Fa.mk (SF.out.call hb); clear hb SF HRV cf0 cf1 cf2; have SF := SF1; clear SF1; have HRV := Fa.mk (Kd.C_below HR1.out SF.out.hb); have cf0 := jcell SF.out.bf (i := 0) rfl; have cf1 := jcell SF.out.bf (i := 1) rfl; have cf2 := jcell SF.out.bf (i := 2) rfl; have cr0 := jcell SF.out.br (i := 0) rfl; have cr1 := jcell SF.out.br (i := 1) rfl; have cr2 := jcell SF.out.br (i := 2) rfl; have fr0 := blk_frozen SF.out.br 0; have fr1 := blk_frozen SF.out.br 1; have fr2 := blk_frozen SF.out.br 2))
  refine bodyPost_ret (results_ct rfl _ _ gr 26 #[.int .i64 0, .int .i64 0, .slice none 0 0] (0, 0) _ rfl (SF.out.ret (.int .i64 0) (.int .i64 0) (.slice none 0 0)).1 Tryz.underlying26 rfl (by kernel_rfl)) rfl ?_
  exact ⟨_, rfl, Kd.R_nil _ _ _ _ _, (SF.out.ret _ _ _).2⟩
 subst hvt
 rw [if_pos rfl] at h
 obtain ⟨v2, hv, h⟩ := Option.bind_eq_some_iff.mp h
 have HS := Fa.mk hv
 clear hv
 by_cases hvt : v2 = true
 rotate_left
 ·
  rw [if_neg hvt] at h
  obtain rfl : v2 = false := by simpa using hvt
  simp only [Option.some.injEq, Prod.mk.injEq] at h
  obtain ⟨rfl, rfl, rfl, rfl⟩ := h
  clear hvt
  go_enter Tryz.func29, Tryz.ntmps29
  go_wp2_with (first | ((with_reducible refine gate_dst (N := 2) rfl ?_); refine boxF (N := 2) (cs := #[.int .i64 a0_0, .int .i64 a0_1, .slice A0_2 l0_2.length c0_2]) (t := 26) ?_; intro gf hg_gf w1 hx_gf hb_gf; have BF := Fa.mk hx_gf; have HB1 := Fa.mk hb_gf; clear hg_gf hx_gf hb_gf) | ((with_reducible refine gate_dst (N := 4) rfl ?_); refine boxF (N := 4) (cs := #[.int .i64 0, .int .i64 0, .slice none 0 0]) (t := 26) ?_; intro gr hg_gr w2 hx_gr hb_gr; have SF := Fa.mk (AF.mk (blk_below BF.out hb_gr) hx_gr (below_step HB1.out hb_gr) (Nat.le_trans HB1.out.size (Nat.le_of_eq hg_gr.symm))); clear hg_gr hx_gr hb_gr BF HB1; have HRV := Fa.mk (Kd.C_below HR0.out SF.out.hb); have cf0 := jcell SF.out.bf (i := 0) rfl; have cf1 := jcell SF.out.bf (i := 1) rfl; have cf2 := jcell SF.out.bf (i := 2) rfl) | (go_at_call 18; (with_reducible refine (fleuronref08_Valid.calls k a0_0 a0_1 _ _ l0_2 true _ HRV.out HC0.out HV.out).mono ?_); rintro e w3 ⟨rfl, hb⟩; have SF1 := Fa.mk (SF.out.call hb); clear hb SF HRV cf0 cf1 cf2; have SF := SF1; clear SF1; have HRV := Fa.mk (Kd.C_below HR1.out SF.out.hb); have cf0 := jcell SF.out.bf (i := 0) rfl; have cf1 := jcell SF.out.bf (i := 1) rfl; have cf2 := jcell SF.out.bf (i := 2) rfl; have cr0 := jcell SF.out.br (i := 0) rfl; have cr1 := jcell SF.out.br (i := 1) rfl; have cr2 := jcell SF.out.br (i := 2) rfl; have fr0 := blk_frozen SF.out.br 0; have fr1 := blk_frozen SF.out.br 1; have fr2 := blk_frozen SF.out.br 2) | (go_at_call 48; (with_reducible refine (fleuronref08_terms.calls k _ _ l1 true false _ HRV.out HC1.out HS.out).mono ?_); rintro e w4 ⟨rfl, hb⟩; have SF1 := Fa.mk (SF.out.call hb); clear hb SF HRV cf0 cf1 cf2 cr0 cr1 cr2 fr0 fr1 fr2; have SF := SF1; clear SF1; have cf0 := jcell SF.out.bf (i := 0) rfl; have cf1 := jcell SF.out.bf (i := 1) rfl; have cf2 := jcell SF.out.bf (i := 2) rfl; have cr0 := jcell SF.out.br (i := 0) rfl; have cr1 := jcell SF.out.br (i := 1) rfl; have cr2 := jcell SF.out.br (i := 2) rfl; have fr0 := blk_frozen SF.out.br 0; have fr1 := blk_frozen SF.out.br 1; have fr2 := blk_frozen SF.out.br 2))
  refine bodyPost_ret (results_ct rfl _ _ gr 26 #[.int .i64 0, .int .i64 0, .slice none 0 0] (0, 0) _ rfl (SF.out.ret (.int .i64 0) (.int .i64 0) (.slice none 0 0)).1 Tryz.underlying26 rfl (by kernel_rfl)) rfl ?_
  exact ⟨_, rfl, Kd.R_nil _ _ _ _ _, (SF.out.ret _ _ _).2⟩
 subst hvt
 rw [if_pos rfl] at h
 have HJ := Fa.mk h
 clear h
 go_enter Tryz.func29, Tryz.ntmps29
 go_upto_region 4 with (first | ((with_reducible refine gate_dst (N := 2) rfl ?_); refine boxF (N := 2) (cs := #[.int .i64 a0_0, .int .i64 a0_1, .slice A0_2 l0_2.length c0_2]) (t := 26) ?_; intro gf hg_gf w1 hx_gf hb_gf; have BF := Fa.mk hx_gf; have HB1 := Fa.mk hb_gf; clear hg_gf hx_gf hb_gf) | ((with_reducible refine gate_dst (N := 4) rfl ?_); refine boxF (N := 4) (cs := #[.int .i64 0, .int .i64 0, .slice none 0 0]) (t := 26) ?_; intro gr hg_gr w2 hx_gr hb_gr; have SF := Fa.mk (AF.mk (blk_below BF.out hb_gr) hx_gr (below_step HB1.out hb_gr) (Nat.le_trans HB1.out.size (Nat.le_of_eq hg_gr.symm))); clear hg_gr hx_gr hb_gr BF HB1; have HRV := Fa.mk (Kd.C_below HR0.out SF.out.hb); have cf0 := jcell SF.out.bf (i := 0) rfl; have cf1 := jcell SF.out.bf (i := 1) rfl; have cf2 := jcell SF.out.bf (i := 2) rfl) | (go_at_call 18; (with_reducible refine (fleuronref08_Valid.calls k a0_0 a0_1 _ _ l0_2 true _ HRV.out HC0.out HV.out).mono ?_); rintro e w3 ⟨rfl, hb⟩; have SF1 := Fa.mk (SF.out.call hb); clear hb SF HRV cf0 cf1 cf2; have SF := SF1; clear SF1; have HRV := Fa.mk (Kd.C_below HR1.out SF.out.hb); have cf0 := jcell SF.out.bf (i := 0) rfl; have cf1 := jcell SF.out.bf (i := 1) rfl; have cf2 := jcell SF.out.bf (i := 2) rfl; have cr0 := jcell SF.out.br (i := 0) rfl; have cr1 := jcell SF.out.br (i := 1) rfl; have cr2 := jcell SF.out.br (i := 2) rfl; have fr0 := blk_frozen SF.out.br 0; have fr1 := blk_frozen SF.out.br 1; have fr2 := blk_frozen SF.out.br 2) | (go_at_call 48; (with_reducible refine (fleuronref08_terms.calls k _ _ l1 true true _ HRV.out HC1.out HS.out).mono ?_); rintro e w4 ⟨rfl, hb⟩; have SF1 := Fa.mk (SF.out.call hb); clear hb SF HRV cf0 cf1 cf2 cr0 cr1 cr2 fr0 fr1 fr2; have SF := SF1; clear SF1; have cf0 := jcell SF.out.bf (i := 0) rfl; have cf1 := jcell SF.out.bf (i := 1) rfl; have cf2 := jcell SF.out.bf (i := 2) rfl; have cr0 := jcell SF.out.br (i := 0) rfl; have cr1 := jcell SF.out.br (i := 1) rfl; have cr2 := jcell SF.out.br (i := 2) rfl; have fr0 := blk_frozen SF.out.br 0; have fr1 := blk_frozen SF.out.br 1; have fr2 := blk_frozen SF.out.br 2) | ((with_reducible refine gate_dst (N := 6) rfl ?_); refine boxF (N := 6) (cs := #[.int .i64 0, .int .i64 0, .slice none 0 0]) (t := 26) ?_; intro go hg_go w5 hx_go hb_go; have SS := Fa.mk (TS.start SF.out hg_go hb_go hx_go a0_0 a0_1); have co0 := jcell hx_go (i := 0) rfl; have co1 := jcell hx_go (i := 1) rfl; have co2 := jcell hx_go (i := 2) rfl; have fo0 := blk_frozen hx_go 0; have fo1 := blk_frozen hx_go 1; have fo2 := blk_frozen hx_go 2; clear hg_go hb_go hx_go cf0 cf1 cf2 cr0 cr1 cr2 fr0 fr1 fr2 SF))
 obtain ⟨S0, hf0⟩ := SS.out
 have S := Fa.mk S0
 have cf2 := jcell hf0 (i := 2) rfl
 generalize hW_ : (((w5.setCell ⟨go, 0, none⟩ (.int .i64 a0_0)).setCell ⟨go, 1, none⟩ (.int .i64 a0_1)).setCell ⟨go, 2, none⟩ (.slice none 0 0)) = w6 at S cf2 ⊢
 clear hW_ S0 hf0 SS co0 co1 co2 fo0 fo1 fo2
 go_wp2
 clear cf2
 go_loopw [29] (fun v28 W => ∃ (x : Int) (ov : Value) (out : List S47) (p q : Int), v28 = .int .i64 x ∧ 0 ≤ x ∧ x ≤ (l0_2.length : Int) ∧ out.length ≤ x.toNat ∧ Fa (ratgo k l1 (l0_2.drop x.toNat) p q out = some (r1, r2, r3, r4)) ∧ Fa (TS w gr go p q ov out W)) (fun v28 _ => l0_2.length - iix v28)
 case atStart => exact ⟨0, _, [], a0_0, a0_1, rfl, by omega, by omega, Nat.le_refl _, HJ, S⟩
 case round =>
  clear S HJ
  obtain ⟨x, ov, out, p, q, rfl, h0, hle, hol, HJ, S⟩ := hrel
  by_cases hlt : x < (l0_2.length : Int)
  rotate_left
  ·
   have dw : decide (x < (l0_2.length : Int)) = false := decide_eq_false hlt
   have hd : l0_2.drop x.toNat = [] := List.drop_eq_nil_of_le (by omega)
   have hJ := HJ.out
   rw [hd] at hJ
   unfold ratgo at hJ
   simp only [Option.some.injEq, Prod.mk.injEq] at hJ
   obtain ⟨rfl, rfl, rfl, rfl⟩ := hJ
   clear HJ hd hlt hle hol h0
   obtain ⟨Ao, co, hvo⟩ := Kd.R_slice S.out.ro
   subst hvo
   have co0 := jcell S.out.bo (i := 0) rfl
   have co1 := jcell S.out.bo (i := 1) rfl
   have co2 := jcell S.out.bo (i := 2) rfl
   have cr0 := jcell S.out.br (i := 0) rfl
   have cr1 := jcell S.out.br (i := 1) rfl
   have cr2 := jcell S.out.br (i := 2) rfl
   have fr0 := blk_frozen S.out.br 0
   have fr1 := blk_frozen S.out.br 1
   have fr2 := blk_frozen S.out.br 2
   have hn1 := S.out.nro
   have hn2 := hn1.symm
   go_wp2
   refine bodyPost_ret (results_ct rfl _ _ gr 26 #[.int .i64 p, .int .i64 q, .slice Ao out.length co] (0, 0) _ rfl (S.out.outs (.int .i64 p) (.int .i64 q) (.slice Ao out.length co)).1 Tryz.underlying26 rfl (by kernel_rfl)) rfl ?_
   exact ⟨_, rfl, (S.out.outs _ _ _).2.2, (S.out.outs _ _ _).2.1⟩
  have dw : decide (x < (l0_2.length : Int)) = true := decide_eq_true hlt
  obtain ⟨ad, rfl, HX⟩ := jati HR0.out x h0 hlt (W := w)
  have HXF := Fa.mk HX
  clear HX
  have hd := at_drop h0 hlt
  have hJ := HJ.out
  clear HJ
  rw [hd] at hJ
  unfold ratgo at hJ
  have HXN : Fa (0 ≤ wrap64 (x + 1) ∧ wrap64 (x + 1) ≤ (l0_2.length : Int) ∧ (wrap64 (x + 1)).toNat = x.toNat + 1) := ⟨by have := HBG.out.1; unfold wrap64; omega⟩
  have HOL : Fa (out.length ≤ x.toNat) := ⟨hol⟩
  have HLT : Fa (x.toNat < l0_2.length) := ⟨by omega⟩
  obtain ⟨t, ht⟩ : ∃ t, t = rd_T47 l0_2 x := ⟨_, rfl⟩
  have HT := Fa.mk ht
  rw [← ht] at hJ
  have HJ := Fa.mk hJ
  obtain ⟨cx0, cx1, cx2⟩ := HXF.out _ S.out.hb
  rw [← ht] at cx0 cx1 cx2
  clear hJ hd ht HXF hol hle
  have p0 := eq_true h0
  have q0 := eq_true hlt
  go_upto_region 7 with (((with_reducible refine gate_dst (N := 8) rfl ?_); refine boxF (N := 8) (cs := #[.string (⟨#[]⟩ : ByteArray), .int .i64 0, .int .i64 0]) (t := 47) ?_; intro gt hg_gt w7 hx_gt hb_gt; have SB := Fa.mk (TB.new S.out hg_gt hb_gt hx_gt t); have ct0 := jcell hx_gt (i := 0) rfl; have ct1 := jcell hx_gt (i := 1) rfl; have ct2 := jcell hx_gt (i := 2) rfl; have ft0 := blk_frozen hx_gt 0; have ft1 := blk_frozen hx_gt 1; have ft2 := blk_frozen hx_gt 2; clear hg_gt hb_gt hx_gt S; clear cx0 cx1 cx2))
  clear p0 q0 h0 hlt ct0 ct1 ct2 ft0 ft1 ft2
  generalize hW_ : (((w7.setCell ⟨gt, 0, none⟩ (.string t.f0)).setCell ⟨gt, 1, none⟩ (.int .i64 t.f1.f0)).setCell ⟨gt, 2, none⟩ (.int .i64 t.f1.f1)) = w8 at SB ⊢
  clear hW_
  go_wp2
  go_loopw [9, 35] (fun v9 v35 W => ∃ y : Int, v9 = .bool (rathas t.f0 (l1.take y.toNat)) ∧ v35 = .int .i64 y ∧ 0 ≤ y ∧ y ≤ (l1.length : Int) ∧ Fa (TB w gr go gt p q ov out t W)) (fun _ v35 _ => l1.length - iix v35)
  case atStart => exact ⟨0, rfl, rfl, by omega, by omega, SB⟩
  case round =>
   clear SB
   obtain ⟨y, rfl, rfl, y0, yle, SB⟩ := hrel
   by_cases ylt : y < (l1.length : Int)
   ·
    have dw : decide (y < (l1.length : Int)) = true := decide_eq_true ylt
    obtain ⟨ad1, rfl, HX⟩ := jati HR1.out y y0 ylt (W := w)
    obtain ⟨cx0, cx1, cx2⟩ := HX _ SB.out.s.hb
    clear HX
    have HTK := Fa.mk (rathas_take (n := t.f0) y0 ylt)
    have HYN : Fa (0 ≤ wrap64 (y + 1) ∧ wrap64 (y + 1) ≤ (l1.length : Int) ∧ (wrap64 (y + 1)).toNat = y.toNat + 1 ∧ y.toNat < l1.length) := ⟨by have := HBG.out.2; unfold wrap64; omega⟩
    obtain ⟨u, hu⟩ : ∃ u, u = rd_T47 l1 y := ⟨_, rfl⟩
    rw [← hu] at cx0 cx1 cx2
    have HTK2 : Fa (rathas t.f0 (l1.take (y.toNat + 1)) = (rathas t.f0 (l1.take y.toNat) || (u.f0.toList == t.f0.toList))) := ⟨by rw [hu]; exact HTK.out⟩
    clear HTK hu yle
    have p0 := eq_true y0
    have q0 := eq_true ylt
    go_upto_region 11 with (((with_reducible refine gate_dst (N := 11) rfl ?_); refine boxF (N := 11) (cs := #[.string (⟨#[]⟩ : ByteArray), .int .i64 0, .int .i64 0]) (t := 47) ?_; intro gu hg_gu wu hx_gu hb_gu; have SU := Fa.mk (TB.tmp SB.out hg_gu hb_gu hx_gu u); have cu0 := jcell hx_gu (i := 0) rfl; have cu1 := jcell hx_gu (i := 1) rfl; have cu2 := jcell hx_gu (i := 2) rfl; have fu0 := blk_frozen hx_gu 0; have fu1 := blk_frozen hx_gu 1; have fu2 := blk_frozen hx_gu 2; clear hg_gu hb_gu hx_gu SB; clear cx0 cx1 cx2))
    clear p0 q0 y0 ylt cu0 cu1 cu2 fu0 fu1 fu2
    generalize hW_ : (((wu.setCell ⟨gu, 0, none⟩ (.string u.f0)).setCell ⟨gu, 1, none⟩ (.int .i64 u.f1.f0)).setCell ⟨gu, 2, none⟩ (.int .i64 u.f1.f1)) = wx at SU ⊢
    clear hW_
    obtain ⟨hs, hu⟩ := SU.out
    have SB := Fa.mk hs
    have cu0 := jcell hu (i := 0) rfl
    have ct0 := jcell SB.out.bt (i := 0) rfl
    clear hs hu SU
    obtain ⟨is, his⟩ : ∃ b, b = rathas t.f0 (l1.take y.toNat) := ⟨_, rfl⟩
    rw [← his]
    have HTK3 : Fa (rathas t.f0 (l1.take (y.toNat + 1)) = (is || (u.f0.toList == t.f0.toList))) := ⟨by rw [his]; exact HTK2.out⟩
    clear HTK2 his
    cases is with
    | true =>
     go_wp2
     go_roundw
     case rel => exact ⟨_, by rw [HYN.out.2.2.1, HTK3.out]; first | rfl | (simp; done), rfl, HYN.out.1, HYN.out.2.1, SB⟩
     case measure => have := HYN.out; simp only [iix]; omega
    | false =>
     go_wp2
     go_roundw
     case rel => exact ⟨_, by rw [HYN.out.2.2.1, HTK3.out]; first | rfl | (simp; done), rfl, HYN.out.1, HYN.out.2.1, SB⟩
     case measure => have := HYN.out; simp only [iix]; omega
   obtain rfl : y = (l1.length : Int) := by omega
   clear y0 yle ylt
   have dw : decide ((l1.length : Int) < (l1.length : Int)) = false := decide_eq_false (by omega)
   have dw2 : decide (l1.length < l1.length) = false := decide_eq_false (by omega)
   obtain ⟨is, his⟩ : ∃ b, b = rathas t.f0 (l1.take (l1.length : Int).toNat) := ⟨_, rfl⟩
   rw [← his]
   rw [Int.toNat_natCast, List.take_length] at his
   have hJ := HJ.out
   clear HJ
   rw [← his] at hJ
   clear his
   cases is with
   | false =>
    rw [if_neg (by decide)] at hJ
    obtain ⟨yo, hyo⟩ : ∃ y : List S47, y = out ++ [t] := ⟨_, rfl⟩
    rw [← hyo] at hJ
    have HYO := Fa.mk hyo
    have HJ2 := Fa.mk hJ
    clear hJ hyo
    have co2 := jcell SB.out.s.bo (i := 2) rfl
    have fo2 := blk_frozen SB.out.s.bo 2
    have ct0 := jcell SB.out.bt (i := 0) rfl
    have ct1 := jcell SB.out.bt (i := 1) rfl
    have ct2 := jcell SB.out.bt (i := 2) rfl
    go_wp2_with (((with_reducible refine gate_builtin (b := .append) (xs := #[.tmp 51, .tmp 53]) rfl ?_); (try (refine gate_guard (by rfl) ?_; dsimp only)); at_builtin; refine Kd.R_append k47 (w0 := w) w.heap.size rfl (.tmp 51) (.tmp 53) 24 47 (.agg #[(.string ⟨#[]⟩), (.int .i64 0), (.int .i64 0)]) 32 rfl Tryz.underlying24 info47 rfl (by decide) (by omega) ov out t [.string t.f0, .int .i64 t.f1.f0, .int .i64 t.f1.f1] (fun _ => True) (fun _ => False) rfl (by first | (go_simp; done) | (go_simp; rfl)) ?aP (fun _ hk => hk.elim) ?aF ?aO ?aB ?aS ?aL ?_; (case aP => exact k47_mkM _ _ _ t); (case aB => exact SB.out.s.hb); (case aF => exact fun _ _ => trivial); (case aO => exact SB.out.s.ro); (case aS => exact SB.out.s.hb.size); (case aL => have := HBG.out.1; have := HOL.out; have := HLT.out; omega); intro vo wo ho hb hg hat; rw [← HYO.out] at ho; have bo1 := blk_grown SB.out.s.bo hg (Kd.R_ne SB.out.s.ro SB.out.s.bo (by decide)); have SA := Fa.mk (SB.out.s.app ho hb hg); obtain ⟨Ao, co, hvo⟩ := Kd.R_slice ho; subst hvo; clear ct0 ct1 ct2 co2 fo2; have co2 := jcell bo1 (i := 2) rfl; have fo2 := blk_frozen bo1 2; clear ho hb hg hat bo1))
    go_roundw
    case rel => exact ⟨_, _, _, p, q, rfl, HXN.out.1, HXN.out.2.1, by have := HXN.out.2.2; have := HOL.out; rw [HYO.out]; simp only [List.length_append, List.length_cons, List.length_nil]; omega, ⟨by rw [HXN.out.2.2]; exact HJ2.out⟩, SA⟩
    case measure => have := HXN.out.2.2; have := HLT.out; simp only [iix]; omega
   | true =>
    rw [if_pos rfl] at hJ
    obtain ⟨⟨u1, u2⟩, hb, hJ⟩ := Option.bind_eq_some_iff.mp hJ
    dsimp only at hJ
    obtain ⟨⟨v1, v2, v3⟩, hv, hJ⟩ := Option.bind_eq_some_iff.mp hJ
    dsimp only at hv hJ
    have HU := Fa.mk hb
    have HV2 := Fa.mk hv
    have HJ := Fa.mk hJ
    clear hb hv hJ
    go_upto_region 15 with (fail)
    refine startU 13 (S := TB w gr go gt p q ov out t) (ds := []) SB.out.drew (fun hHeld => ?_); refine with_tabW fleuronref08_At.tab15 fleuronref08_At.bits15 (fun HT_ HW_ => ?_)
    clear SB
    generalize World.drew _ = wd at hHeld ⊢
    refine pureU 0 (some 57) (upto 13 1) HT_ ?_
    refine takeU 1 (some 58) (upto 13 2) HT_ HW_ hHeld rfl (by intro w' s_; have c1 := jcell s_.bt (i := 1) rfl; have c2 := jcell s_.bt (i := 2) rfl; clear s_; go_simp; with_reducible rfl) ?_
    refine pureU 2 (some 59) (upto 13 3) HT_ ?_
    refine pureU 3 (some 60) (upto 13 4) HT_ ?_
    refine takeU 4 (some 61) (upto 13 5) HT_ HW_ hHeld rfl (by intro w' s_; have c0 := jcell s_.bt (i := 0) rfl; clear s_; go_simp; with_reducible rfl) ?_
    refine join_ (σ := Nat) 2 (upto 13 11) (fun s_ => [(62, .agg #[.int .i64 u1, .int .i64 u2]), (63, .tuple #[.agg #[.int .i64 v1, .int .i64 v2], .int .i64 v3]), (56, .tuple #[.agg #[.int .i64 v1, .int .i64 v2], .int .i64 v3]), (64, .agg #[.int .i64 v1, .int .i64 v2]), (65, .int .i64 v3), (12, .pointer (some ⟨s_, 0, none⟩))]) (fun s_ w' => TV w gr go gt s_ p q ov out t 0 0 w') ?_ ?_
    rotate_left
    ·
     intro hCont
     refine two_ (i := 5) (j := 10) (Ni := some 62) (Nj := some 12) (upto 13 6) #[true, true, true, true, true, false, false, false, false, false, true, false, false] rfl rfl rfl rfl (two_of HT_.out (by kernel_rfl)) (by decide) (by decide) (fun K hK => ?_) (fun K hK => ?_)
     ·
      refine goes_ Tryz.func58 (by kernel_rfl) rfl #[.slice A1 l1.length c1, .string t.f0] (by rfl) rfl rfl (by (try simp only [List.map_toArray, List.map_cons, List.map_nil]); first | done | rfl) ?_
      refine (fleuronref08_coef.calls k A1 c1 l1 t.f0 u1 u2 _ (Kd.C_below HR1.out hHeld.s.hb) HC1.out HU.out).mono ?_
      rintro e wc ⟨rfl, hb⟩
      refine ⟨_, rfl, ?_⟩
      have H1 := hHeld.call hb
      refine hK.out _ _ H1 (fun hHeld1 => ?_)
      clear hK K hb hHeld H1
      have hHeld := hHeld1
      clear hHeld1
      refine normU (some 62) ?_
      refine two_ (i := 6) (j := 10) (Ni := some 63) (Nj := some 12) (upto 13 7) #[true, true, true, true, true, true, false, false, false, false, true, false, false] rfl rfl rfl rfl (two_of HT_.out (by kernel_rfl)) (by decide) (by decide) (fun K hK => ?_) (fun K hK => ?_)
      ·
       refine goes_ Tryz.func57 (by kernel_rfl) rfl #[.string (⟨#[42]⟩ : ByteArray), .agg #[.int .i64 t.f1.f0, .int .i64 t.f1.f1], .agg #[.int .i64 u1, .int .i64 u2]] (by rfl) rfl rfl (by (try simp only [List.map_toArray, List.map_cons, List.map_nil]); first | done | rfl) ?_
       refine (fleuronref01_Near.calls k (⟨#[42]⟩ : ByteArray) t.f1.f0 t.f1.f1 u1 u2 v1 v2 v3 _ HV2.out).mono ?_
       rintro e wn ⟨rfl, hb⟩
       refine ⟨_, rfl, ?_⟩
       have H1 := hHeld.call hb
       refine hK.out _ _ H1 (fun hHeld1 => ?_)
       clear hK K hb hHeld H1
       have hHeld := hHeld1
       clear hHeld1
       refine normU (some 63) ?_
       refine pureU 7 (some 56) (upto 13 8) HT_ ?_
       refine pureU 8 (some 64) (upto 13 9) HT_ ?_
       refine pureU 9 (some 65) (upto 13 10) HT_ ?_
       refine oneU 10 (some 12) (upto 13 11) HT_ (fun K hK => ?_)
       refine box_step ?hg (N := 12) ?hd (cs := #[.int .i64 0, .int .i64 0]) (t := 23) ?hr ?_; (case hd => rfl); (case hg => rfl); (case hr => first | (go_simp; done) | (go_simp; rfl))
       intro gv hg wv hx hb
       have Q := TV.new hHeld hg hb hx
       refine hK.out _ _ Q.s (fun hHeld1 => ?_)
       clear hK K hg hx hb hHeld hHeld1
       refine normU (some 12) ?_
       exact norm_ (by simp only [putAll, Act.put, List.setIfInBounds_toArray, List.set_cons_zero, List.set_cons_succ]) (hCont gv _ Q)
      ·
       refine box_step ?hg (N := 12) ?hd (cs := #[.int .i64 0, .int .i64 0]) (t := 23) ?hr ?_; (case hd => rfl); (case hg => rfl); (case hr => first | (go_simp; done) | (go_simp; rfl))
       intro gv hg wv hx hb
       have Q := TV.new hHeld hg hb hx
       refine hK.out _ _ Q.s (fun hHeld1 => ?_)
       clear hK K hg hx hb hHeld hHeld1
       refine normU (some 12) ?_
       refine oneU 6 (some 63) #[true, true, true, true, true, true, true, false, false, false, true, false, false] HT_ (fun K hK => ?_)
       refine goes_ Tryz.func57 (by kernel_rfl) rfl #[.string (⟨#[42]⟩ : ByteArray), .agg #[.int .i64 t.f1.f0, .int .i64 t.f1.f1], .agg #[.int .i64 u1, .int .i64 u2]] (by rfl) rfl rfl (by (try simp only [List.map_toArray, List.map_cons, List.map_nil]); first | done | rfl) ?_
       refine (fleuronref01_Near.calls k (⟨#[42]⟩ : ByteArray) t.f1.f0 t.f1.f1 u1 u2 v1 v2 v3 _ HV2.out).mono ?_
       rintro e wn ⟨rfl, hb⟩
       refine ⟨_, rfl, ?_⟩
       have Q1 := Q.call hb
       refine hK.out _ _ Q1.s (fun hHeld1 => ?_)
       clear hK K hb Q hHeld1
       have Q := Q1
       clear Q1
       refine normU (some 63) ?_
       refine pureU 7 (some 56) #[true, true, true, true, true, true, true, true, false, false, true, false, false] HT_ ?_
       refine pureU 8 (some 64) #[true, true, true, true, true, true, true, true, true, false, true, false, false] HT_ ?_
       refine pureU 9 (some 65) (upto 13 11) HT_ ?_
       exact norm_ (by simp only [putAll, Act.put, List.setIfInBounds_toArray, List.set_cons_zero, List.set_cons_succ]) (hCont gv _ Q)
     ·
      refine box_step ?hg (N := 12) ?hd (cs := #[.int .i64 0, .int .i64 0]) (t := 23) ?hr ?_; (case hd => rfl); (case hg => rfl); (case hr => first | (go_simp; done) | (go_simp; rfl))
      intro gv hg wv hx hb
      have Q := TV.new hHeld hg hb hx
      refine hK.out _ _ Q.s (fun hHeld1 => ?_)
      clear hK K hg hx hb hHeld hHeld1
      refine normU (some 12) ?_
      refine oneU 5 (some 62) #[true, true, true, true, true, true, false, false, false, false, true, false, false] HT_ (fun K hK => ?_)
      refine goes_ Tryz.func58 (by kernel_rfl) rfl #[.slice A1 l1.length c1, .string t.f0] (by rfl) rfl rfl (by (try simp only [List.map_toArray, List.map_cons, List.map_nil]); first | done | rfl) ?_
      refine (fleuronref08_coef.calls k A1 c1 l1 t.f0 u1 u2 _ (Kd.C_below HR1.out Q.s.s.hb) HC1.out HU.out).mono ?_
      rintro e wc ⟨rfl, hb⟩
      refine ⟨_, rfl, ?_⟩
      have Q1 := Q.call hb
      refine hK.out _ _ Q1.s (fun hHeld1 => ?_)
      clear hK K hb Q hHeld1
      have Q := Q1
      clear Q1
      refine normU (some 62) ?_
      refine oneU 6 (some 63) #[true, true, true, true, true, true, true, false, false, false, true, false, false] HT_ (fun K hK => ?_)
      refine goes_ Tryz.func57 (by kernel_rfl) rfl #[.string (⟨#[42]⟩ : ByteArray), .agg #[.int .i64 t.f1.f0, .int .i64 t.f1.f1], .agg #[.int .i64 u1, .int .i64 u2]] (by rfl) rfl rfl (by (try simp only [List.map_toArray, List.map_cons, List.map_nil]); first | done | rfl) ?_
      refine (fleuronref01_Near.calls k (⟨#[42]⟩ : ByteArray) t.f1.f0 t.f1.f1 u1 u2 v1 v2 v3 _ HV2.out).mono ?_
      rintro e wn ⟨rfl, hb⟩
      refine ⟨_, rfl, ?_⟩
      have Q1 := Q.call hb
      refine hK.out _ _ Q1.s (fun hHeld1 => ?_)
      clear hK K hb Q hHeld1
      have Q := Q1
      clear Q1
      refine normU (some 63) ?_
      refine pureU 7 (some 56) #[true, true, true, true, true, true, true, true, false, false, true, false, false] HT_ ?_
      refine pureU 8 (some 64) #[true, true, true, true, true, true, true, true, true, false, true, false, false] HT_ ?_
      refine pureU 9 (some 65) (upto 13 11) HT_ ?_
      exact norm_ (by simp only [putAll, Act.put, List.setIfInBounds_toArray, List.set_cons_zero, List.set_cons_succ]) (hCont gv _ Q)
    clear hHeld
    rintro gv wj Q
    have hHeld := Q.s
    refine norm_ (a' := ?_) ?_ ?_
    rotate_left
    ·
     simp only [putAll, Act.put, List.setIfInBounds_toArray, List.set_cons_zero, List.set_cons_succ]
     rfl
    have cv0 := jcell Q.bv (i := 0) rfl
    have cv1 := jcell Q.bv (i := 1) rfl
    have fv0 := blk_frozen Q.bv 0
    have fv1 := blk_frozen Q.bv 1
    have SV := Fa.mk (Q.set v1 v2)
    clear Q
    refine oneU 11 none (upto 13 12) HT_ (fun K hK => ?_)
    refine skip_ (w1 := ?_) (by rfl) rfl ?_ ?_
    rotate_left
    ·
     go_simp
     rfl
    have hS := SV.out.s
    refine hK.out _ _ hS (fun hHeld => ?_)
    clear hK K hS cv0 cv1 fv0 fv1
    generalize hW_ : ((wj.setCell ⟨gv, 0, none⟩ (.int .i64 v1)).setCell ⟨gv, 1, none⟩ (.int .i64 v2)) = wk at SV hHeld ⊢
    clear hW_ hHeld
    refine pureU 12 (some 13) (upto 13 13) HT_ ?_
    refine done_ (done_of HT_.out (by kernel_rfl)) ?_
    have hJ := HJ.out
    clear HJ
    by_cases h3 : v3 = 0
    rotate_left
    ·
     rw [if_neg h3] at hJ
     simp only [Option.some.injEq, Prod.mk.injEq] at hJ
     obtain ⟨rfl, rfl, rfl, rfl⟩ := hJ
     have d0 : (v3 == 0) = false := beq_eq_false_iff_ne.mpr h3
     have d1 : (v3 != 0) = true := bne_iff_ne.mpr h3
     clear h3
     have cr0 := jcell SV.out.s.s.br (i := 0) rfl
     have cr1 := jcell SV.out.s.s.br (i := 1) rfl
     have cr2 := jcell SV.out.s.s.br (i := 2) rfl
     have fr0 := blk_frozen SV.out.s.s.br 0
     have fr1 := blk_frozen SV.out.s.s.br 1
     have fr2 := blk_frozen SV.out.s.s.br 2
     have co0 := jcell SV.out.s.s.bo (i := 0) rfl
     have co1 := jcell SV.out.s.s.bo (i := 1) rfl
     have co2 := jcell SV.out.s.s.bo (i := 2) rfl
     have fo0 := blk_frozen SV.out.s.s.bo 0
     have fo1 := blk_frozen SV.out.s.s.bo 1
     have cv0 := jcell SV.out.bv (i := 0) rfl
     have cv1 := jcell SV.out.bv (i := 1) rfl
     go_wp2
     refine bodyPost_ret (results_ct rfl _ _ gr 26 #[.int .i64 0, .int .i64 0, .slice none 0 0] (0, 0) _ rfl (SV.out.s.s.outs (.int .i64 0) (.int .i64 0) (.slice none 0 0)).1 Tryz.underlying26 rfl (by kernel_rfl)) rfl ?_
     exact ⟨_, rfl, Kd.R_nil _ _ _ _ _, (SV.out.s.s.outs _ _ _).2.1⟩
    subst h3
    rw [if_pos rfl] at hJ
    obtain ⟨⟨m1, m2, m3⟩, hm, hJ⟩ := Option.bind_eq_some_iff.mp hJ
    dsimp only at hm hJ
    have HM := Fa.mk hm
    clear hm
    have cr0 := jcell SV.out.s.s.br (i := 0) rfl
    have cr1 := jcell SV.out.s.s.br (i := 1) rfl
    have cr2 := jcell SV.out.s.s.br (i := 2) rfl
    have fr0 := blk_frozen SV.out.s.s.br 0
    have fr1 := blk_frozen SV.out.s.s.br 1
    have fr2 := blk_frozen SV.out.s.s.br 2
    have co0 := jcell SV.out.s.s.bo (i := 0) rfl
    have co1 := jcell SV.out.s.s.bo (i := 1) rfl
    have co2 := jcell SV.out.s.s.bo (i := 2) rfl
    have fo0 := blk_frozen SV.out.s.s.bo 0
    have fo1 := blk_frozen SV.out.s.s.bo 1
    have cv0 := jcell SV.out.bv (i := 0) rfl
    have cv1 := jcell SV.out.bv (i := 1) rfl
    by_cases hm3 : m3 = 0
    rotate_left
    ·
     rw [if_neg hm3] at hJ
     simp only [Option.some.injEq, Prod.mk.injEq] at hJ
     obtain ⟨rfl, rfl, rfl, rfl⟩ := hJ
     have d0 : (m3 == 0) = false := beq_eq_false_iff_ne.mpr hm3
     have d1 : (m3 != 0) = true := bne_iff_ne.mpr hm3
     clear hm3
     go_wp2_with ((go_at_call 57; (with_reducible refine (fleuronref01_Near.calls k (⟨#[43]⟩ : ByteArray) p q v1 v2 m1 m2 m3 _ HM.out).mono ?_); rintro e w9 ⟨rfl, hb⟩; have S9 := Fa.mk (SV.out.call hb).s.s; clear hb SV cv0 cv1 cr0 cr1 cr2 fr0 fr1 fr2 co0 co1 co2 fo0 fo1; have SZ := Fa.mk (S9.out.setn m1 m2); have co0 := jcell S9.out.bo (i := 0) rfl; have co1 := jcell S9.out.bo (i := 1) rfl; have fo0 := blk_frozen S9.out.bo 0; have fo1 := blk_frozen S9.out.bo 1; have cr0 := jcell S9.out.br (i := 0) rfl; have cr1 := jcell S9.out.br (i := 1) rfl; have cr2 := jcell S9.out.br (i := 2) rfl; have fr0 := blk_frozen S9.out.br 0; have fr1 := blk_frozen S9.out.br 1; have fr2 := blk_frozen S9.out.br 2; have hn1 := S9.out.nro; have hn2 := hn1.symm))
     refine bodyPost_ret (results_ct rfl _ _ gr 26 #[.int .i64 0, .int .i64 0, .slice none 0 0] (0, 0) _ rfl (SZ.out.outs (.int .i64 0) (.int .i64 0) (.slice none 0 0)).1 Tryz.underlying26 rfl (by kernel_rfl)) rfl ?_
     exact ⟨_, rfl, Kd.R_nil _ _ _ _ _, (SZ.out.outs _ _ _).2.1⟩
    subst hm3
    rw [if_pos rfl] at hJ
    have HJ2 := Fa.mk hJ
    clear hJ
    go_wp2_with ((go_at_call 57; (with_reducible refine (fleuronref01_Near.calls k (⟨#[43]⟩ : ByteArray) p q v1 v2 m1 m2 0 _ HM.out).mono ?_); rintro e w9 ⟨rfl, hb⟩; have S9 := Fa.mk (SV.out.call hb).s.s; clear hb SV cv0 cv1 cr0 cr1 cr2 fr0 fr1 fr2 co0 co1 co2 fo0 fo1; have SZ := Fa.mk (S9.out.setn m1 m2); have co0 := jcell S9.out.bo (i := 0) rfl; have co1 := jcell S9.out.bo (i := 1) rfl; have fo0 := blk_frozen S9.out.bo 0; have fo1 := blk_frozen S9.out.bo 1; have cr0 := jcell S9.out.br (i := 0) rfl; have cr1 := jcell S9.out.br (i := 1) rfl; have cr2 := jcell S9.out.br (i := 2) rfl; have fr0 := blk_frozen S9.out.br 0; have fr1 := blk_frozen S9.out.br 1; have fr2 := blk_frozen S9.out.br 2; have hn1 := S9.out.nro; have hn2 := hn1.symm))
    go_roundw
    case rel => exact ⟨_, ov, out, m1, m2, rfl, HXN.out.1, HXN.out.2.1, by have := HXN.out.2.2; have := HOL.out; omega, ⟨by rw [HXN.out.2.2]; exact HJ2.out⟩, SZ⟩
    case measure => have := HXN.out.2.2; have := HLT.out; simp only [iix]; omega
def fleuronlaw08_LinearAt.f (k : Nat) (a0_0 : Int) (a0_1 : Int) (l0 : List S47) (l1 : List S47) : Option Bool :=
  (fleuronlaw08_few.f k [(⟨(⟨a0_0, a0_1⟩ : S23), l0⟩ : S26), (⟨(⟨0, 0⟩ : S23), l1⟩ : S26)]).bind fun t => if t = true then (linear_At.f k a0_0 a0_1 l0 l1).bind fun a => (fleuronref08_At.f k a0_0 a0_1 l0 l1).bind fun b => (fleuronref08_Same.f k a.1 a.2.1 a.2.2.1 b.1 b.2.1 b.2.2.1).bind fun s0 => (fleuronlaw08_awake.f k).bind fun v => if s0 = true ∧ a.2.2.2 = b.2.2.2 then some v else none else fleuronlaw08_awake.f k
theorem fleuronlaw08_LinearAt.few_n (k : Nat) {n : Nat} {A0 : Option Addr} {c0 : Nat} {l0 : List S26} {r : Bool} {w : World} (hr : Kd.C k26 w A0 n l0) (hc : n ≤ c0) (h : fleuronlaw08_few.f k l0 = some r) : Calls Tryz.prog 11 #[.slice A0 n c0] w fun e w' => e = .returned (.bool r) ∧ Below w.heap.size w w' := by
  obtain rfl : l0.length = n := hr.1
  exact fleuronlaw08_few.calls k A0 c0 l0 r w hr hc h
set_option maxHeartbeats 8000000 in
set_option maxRecDepth 100000 in
theorem fleuronlaw08_LinearAt.calls (k : Nat) (a0_0 : Int) (a0_1 : Int) (A0 : Option Addr) (c0 : Nat) (l0 : List S47) (A1 : Option Addr) (c1 : Nat) (l1 : List S47) (r : Bool) (w : World) (hr0 : Kd.C k47 w A0 l0.length l0) (hc0 : l0.length ≤ c0) (hr1 : Kd.C k47 w A1 l1.length l1) (hc1 : l1.length ≤ c1) (h : fleuronlaw08_LinearAt.f k a0_0 a0_1 l0 l1 = some r) (hG : Glob w) :
  Calls Tryz.prog 5 #[.agg #[.int .i64 a0_0, .int .i64 a0_1, .slice A0 l0.length c0], .slice A1 l1.length c1] w fun e w' => e = .returned (.bool r) ∧ Below w.heap.size w w' := by
 have HG := Fa.mk hG
 clear hG
 have hu26 := Tryz.underlying26
 have hu23 := Tryz.underlying23
 have hu47 := Tryz.underlying47
 have hBs : Base w := Base.mk
 have HR0 := Fa.mk hr0
 have HC0 := Fa.mk hc0
 clear hr0 hc0
 have HR1 := Fa.mk hr1
 have HC1 := Fa.mk hc1
 clear hr1 hc1
 unfold fleuronlaw08_LinearAt.f at h
 obtain ⟨t, e_, h⟩ := Option.bind_eq_some_iff.mp h
 have ET := Fa.mk e_
 clear e_
 have S := Fa.mk (AS.nil w)
 by_cases ht : t = true
 rotate_left
 ·
  obtain rfl : t = false := by simpa using ht
  rw [if_neg (by simp)] at h
  clear ht
  have EV := Fa.mk h
  clear h
  go_enter Tryz.func5, Tryz.ntmps5
  go_wp2_with (first | ((with_reducible refine gate_dst (N := 2) rfl ?_); refine boxF (N := 2) (cs := #[.int .i64 a0_0, .int .i64 a0_1, .slice A0 l0.length c0]) (t := 26) ?_; intro gi0 hg wi0 hx hb; have S1 := Fa.mk (S.out.inp HR0.out HC0.out hg hb hx); clear hg hb hx S; have S := S1; clear S1; have cl0_0 := jcell (S.out.get 0 rfl).blk (i := 0) rfl; have cl0_1 := jcell (S.out.get 0 rfl).blk (i := 1) rfl; have cl0_2 := jcell (S.out.get 0 rfl).blk (i := 2) rfl; have rr0 := Fa.mk (S.out.rd 0 rfl)) | ((with_reducible refine gate_dst (N := 12) rfl ?_); refine fewLit 12 ?hg ?hd (xs := [(⟨(⟨a0_0, a0_1⟩ : S23), l0⟩ : S26), (⟨(⟨0, 0⟩ : S23), l1⟩ : S26)]) (inner := [.int .i64 a0_0, .int .i64 a0_1, .slice A0 l0.length c0, .int .i64 0, .int .i64 0, .slice A1 l1.length c1]) ?hr ?hp (by simp) ?_; (case hd => rfl); (case hg => rfl); (case hr => first | (go_simp; done) | (go_simp; rfl)); (case hp => exact (Reps.c3 (k26_mk _ (⟨(⟨a0_0, a0_1⟩ : S23), l0⟩ : S26) HC0.out (Kd.C_below HR0.out S.out.below)) (Reps.c3 (k26_mk _ (⟨(⟨0, 0⟩ : S23), l1⟩ : S26) HC1.out (Kd.C_below HR1.out S.out.below)) (Reps.none _ _)))); intro AL cL wL hCL hcL hb; have HCL : Fa (Kd.C k26 wL AL 2 [(⟨(⟨a0_0, a0_1⟩ : S23), l0⟩ : S26), (⟨(⟨0, 0⟩ : S23), l1⟩ : S26)]) := ⟨hCL⟩; have HcL : Fa (2 ≤ cL) := ⟨hcL⟩; clear hCL hcL cl0_0 cl0_1 cl0_2 rr0; have S1 := Fa.mk (S.out.call hb); clear hb S; have S := S1; clear S1) | (go_at_call 11; (with_reducible refine (fleuronlaw08_LinearAt.few_n k HCL.out HcL.out ET.out).mono ?_); rintro e wf ⟨rfl, hb⟩; clear HCL HcL; have S1 := Fa.mk (S.out.call hb); clear hb S; have S := S1; clear S1) | (go_at_call 12; (with_reducible refine (fleuronlaw08_awake.calls k r _ EV.out (HG.out.below S.out.below)).mono ?_); rintro e wa ⟨rfl, hb⟩; have S1 := Fa.mk (S.out.call hb); clear hb S; have S := S1; clear S1))
  go_ret
  exact ⟨rfl, S.out.below⟩
 subst ht
 rw [if_pos rfl] at h
 replace h := Option.bind_eq_some_iff.mp h
 obtain ⟨⟨a1, a2, a3, a4⟩, e_, h⟩ := h
 (try dsimp only at e_ h)
 have E0 := Fa.mk e_
 clear e_
 replace h := Option.bind_eq_some_iff.mp h
 obtain ⟨⟨b1, b2, b3, b4⟩, e_, h⟩ := h
 (try dsimp only at e_ h)
 have E1 := Fa.mk e_
 clear e_
 replace h := Option.bind_eq_some_iff.mp h
 obtain ⟨s0, e_, h⟩ := h
 (try dsimp only at e_ h)
 have D0 := Fa.mk e_
 clear e_
 replace h := Option.bind_eq_some_iff.mp h
 obtain ⟨v, e_, h⟩ := h
 (try dsimp only at e_ h)
 have EV := Fa.mk e_
 clear e_
 split at h
 rotate_left
 ·
  cases h
 rename_i hc
 obtain rfl := Option.some.inj h
 clear h
 obtain ⟨rfl, rfl⟩ := hc
 go_enter Tryz.func5, Tryz.ntmps5
 go_upto_region 3 with (first | ((with_reducible refine gate_dst (N := 2) rfl ?_); refine boxF (N := 2) (cs := #[.int .i64 a0_0, .int .i64 a0_1, .slice A0 l0.length c0]) (t := 26) ?_; intro gi0 hg wi0 hx hb; have S1 := Fa.mk (S.out.inp HR0.out HC0.out hg hb hx); clear hg hb hx S; have S := S1; clear S1; have cl0_0 := jcell (S.out.get 0 rfl).blk (i := 0) rfl; have cl0_1 := jcell (S.out.get 0 rfl).blk (i := 1) rfl; have cl0_2 := jcell (S.out.get 0 rfl).blk (i := 2) rfl; have rr0 := Fa.mk (S.out.rd 0 rfl)) | ((with_reducible refine gate_dst (N := 12) rfl ?_); refine fewLit 12 ?hg ?hd (xs := [(⟨(⟨a0_0, a0_1⟩ : S23), l0⟩ : S26), (⟨(⟨0, 0⟩ : S23), l1⟩ : S26)]) (inner := [.int .i64 a0_0, .int .i64 a0_1, .slice A0 l0.length c0, .int .i64 0, .int .i64 0, .slice A1 l1.length c1]) ?hr ?hp (by simp) ?_; (case hd => rfl); (case hg => rfl); (case hr => first | (go_simp; done) | (go_simp; rfl)); (case hp => exact (Reps.c3 (k26_mk _ (⟨(⟨a0_0, a0_1⟩ : S23), l0⟩ : S26) HC0.out (Kd.C_below HR0.out S.out.below)) (Reps.c3 (k26_mk _ (⟨(⟨0, 0⟩ : S23), l1⟩ : S26) HC1.out (Kd.C_below HR1.out S.out.below)) (Reps.none _ _)))); intro AL cL wL hCL hcL hb; have HCL : Fa (Kd.C k26 wL AL 2 [(⟨(⟨a0_0, a0_1⟩ : S23), l0⟩ : S26), (⟨(⟨0, 0⟩ : S23), l1⟩ : S26)]) := ⟨hCL⟩; have HcL : Fa (2 ≤ cL) := ⟨hcL⟩; clear hCL hcL cl0_0 cl0_1 cl0_2 rr0; have S1 := Fa.mk (S.out.call hb); clear hb S; have S := S1; clear S1) | (go_at_call 11; (with_reducible refine (fleuronlaw08_LinearAt.few_n k HCL.out HcL.out ET.out).mono ?_); rintro e wf ⟨rfl, hb⟩; clear HCL HcL; have S1 := Fa.mk (S.out.call hb); clear hb S; have S := S1; clear S1))
 have cl0_0 := jcell (S.out.get 0 rfl).blk (i := 0) rfl
 have cl0_1 := jcell (S.out.get 0 rfl).blk (i := 1) rfl
 have cl0_2 := jcell (S.out.get 0 rfl).blk (i := 2) rfl
 have rr0 := Fa.mk (S.out.rd 0 rfl)
 have rr1 : Fa (True ∧ l1.length ≤ c1 ∧ Kd.C k47 _ A1 l1.length l1) := Fa.mk ⟨trivial, HC1.out, Kd.C_below HR1.out S.out.below⟩
 go_upto_region 4 with (first | (go_at_call 28; (with_reducible refine (linear_At.calls k a0_0 a0_1 A0 c0 l0 A1 c1 l1 a1 a2 a3 _ _ rr0.out.2.2 rr0.out.2.1 rr1.out.2.2 rr1.out.2.1 E0.out).mono ?_); rintro e wca ⟨va, rfl, ho, hb⟩; obtain ⟨Aa, ca, hv⟩ := Kd.R_slice ho; subst hv; have Q := Fa.mk ((AQ.start S.out).row hb ho); clear ho hb S cl0_0 cl0_1 cl0_2 rr0 rr1) | ((with_reducible refine gate_dst (N := 5) rfl ?_); refine boxF (N := 5) (cs := #[.int .i64 0, .int .i64 0, .slice none 0 0]) (t := 26) ?_; intro ga hg wba hx hb; have S := Fa.mk ((Q.out.box hg hb hx).put a1 a2); have co0 := jcell hx (i := 0) rfl; have co1 := jcell hx (i := 1) rfl; have co2 := jcell hx (i := 2) rfl; have fo0 := blk_frozen hx 0; have fo1 := blk_frozen hx 1; have fo2 := blk_frozen hx 2; clear hg hb hx Q))
 generalize hW_ : (((wba.setCell ⟨ga, 0, none⟩ (.int .i64 a1)).setCell ⟨ga, 1, none⟩ (.int .i64 a2)).setCell ⟨ga, 2, none⟩ (.slice Aa a3.length ca)) = wwa at S ⊢
 clear hW_ co0 co1 co2 fo0 fo1 fo2
 have cl0_0 := jcell (S.out.get 1 rfl).blk (i := 0) rfl
 have cl0_1 := jcell (S.out.get 1 rfl).blk (i := 1) rfl
 have cl0_2 := jcell (S.out.get 1 rfl).blk (i := 2) rfl
 have rr0 := Fa.mk (S.out.rd 1 rfl)
 have rr1 : Fa (True ∧ l1.length ≤ c1 ∧ Kd.C k47 _ A1 l1.length l1) := Fa.mk ⟨trivial, HC1.out, Kd.C_below HR1.out S.out.below⟩
 go_upto_region 5 with (first | (go_at_call 29; (with_reducible refine (fleuronref08_At.calls k a0_0 a0_1 A0 c0 l0 A1 c1 l1 b1 b2 b3 _ _ rr0.out.2.2 rr0.out.2.1 rr1.out.2.2 rr1.out.2.1 E1.out).mono ?_); rintro e wcb ⟨vb, rfl, ho, hb⟩; obtain ⟨Ab, cb, hv⟩ := Kd.R_slice ho; subst hv; have Q := Fa.mk ((AQ.start S.out).row hb ho); clear ho hb S cl0_0 cl0_1 cl0_2 rr0 rr1) | ((with_reducible refine gate_dst (N := 7) rfl ?_); refine boxF (N := 7) (cs := #[.int .i64 0, .int .i64 0, .slice none 0 0]) (t := 26) ?_; intro gb hg wbb hx hb; have S := Fa.mk ((Q.out.box hg hb hx).put b1 b2); have co0 := jcell hx (i := 0) rfl; have co1 := jcell hx (i := 1) rfl; have co2 := jcell hx (i := 2) rfl; have fo0 := blk_frozen hx 0; have fo1 := blk_frozen hx 1; have fo2 := blk_frozen hx 2; clear hg hb hx Q))
 generalize hW_ : (((wbb.setCell ⟨gb, 0, none⟩ (.int .i64 b1)).setCell ⟨gb, 1, none⟩ (.int .i64 b2)).setCell ⟨gb, 2, none⟩ (.slice Ab b3.length cb)) = wwb at S ⊢
 clear hW_ co0 co1 co2 fo0 fo1 fo2
 have tok1 : True := trivial
 have cla_0 := jcell (S.out.get 1 rfl).blk (i := 0) rfl
 have cla_1 := jcell (S.out.get 1 rfl).blk (i := 1) rfl
 have cla_2 := jcell (S.out.get 1 rfl).blk (i := 2) rfl
 have rra := Fa.mk (S.out.rd 1 rfl)
 have clb_0 := jcell (S.out.get 0 rfl).blk (i := 0) rfl
 have clb_1 := jcell (S.out.get 0 rfl).blk (i := 1) rfl
 have clb_2 := jcell (S.out.get 0 rfl).blk (i := 2) rfl
 have rrb := Fa.mk (S.out.rd 0 rfl)
 go_wp2_with (first | (have _t := tok1; go_at_call 19; (with_reducible refine (fleuronref08_Same.calls k a1 a2 _ _ a3 b1 b2 _ _ b3 true _ rra.out.2.2 rra.out.2.1 rrb.out.2.2 rrb.out.2.1 D0.out).mono ?_); rintro e wl0 ⟨rfl, hb⟩; clear tok1 cla_0 cla_1 cla_2 rra clb_0 clb_1 clb_2 rrb; have S1 := Fa.mk (S.out.call hb); clear hb S; have S := S1; clear S1) | (go_at_call 12; (with_reducible refine (fleuronlaw08_awake.calls k v _ EV.out (HG.out.below S.out.below)).mono ?_); rintro e wa ⟨rfl, hb⟩; have S1 := Fa.mk (S.out.call hb); clear hb S; have S := S1; clear S1))
 go_ret
 exact ⟨rfl, S.out.below⟩
end Go.Proofs.YtilamkcpbibnmaaGreatDoor.P
