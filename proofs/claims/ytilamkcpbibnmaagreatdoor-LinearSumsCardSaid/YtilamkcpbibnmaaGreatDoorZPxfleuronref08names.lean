import Derived.Test.YtilamkcpbibnmaaGreatDoorZPx0
import Derived.Test.YtilamkcpbibnmaaGreatDoorZPxlinearjoin
import Derived.Test.YtilamkcpbibnmaaGreatDoorZPxlinearOver
import Derived.Test.YtilamkcpbibnmaaGreatDoorZPxfleuronref08Valid
import Derived.Test.YtilamkcpbibnmaaGreatDoorZPxfleuronref01Near
import Derived.Test.YtilamkcpbibnmaaGreatDoorZPxfleuronref08coef
namespace Go.Proofs.YtilamkcpbibnmaaGreatDoor.P
open Go.RowKit Go.Proofs.YtilamkcpbibnmaaGreatDoorW.PrintWords Go.Proofs.YtilamkcpbibnmaaGreatDoorW.PrintLast Go.Proofs.YtilamkcpbibnmaaGreatDoorW.PrintMore
attribute [local go_sem] max2_int min2_int max_two min_two max_three min_three max_four min_four
set_option linter.unusedVariables false
set_option linter.unusedSimpArgs false
abbrev rdB (l : List ByteArray) (i : Int) : ByteArray := rdOf ByteArray.empty l i
def nidx (n : ByteArray) : List ByteArray → Nat
  | [] => 0
  | x :: xs => if Op.bytesLess x.toList n.toList = true then nidx n xs + 1 else 0
def insN (n : ByteArray) (out : List ByteArray) : List ByteArray := if nidx n out < out.length ∧ (rdB out (nidx n out : Int)).toList = n.toList then out else out.take (nidx n out) ++ ([n] ++ out.drop (nidx n out))
def nall : List S47 → List ByteArray → List ByteArray
  | [], out => out
  | t :: ts, out => nall ts (insN t.f0 out)
def fleuronref08_names.f (l0 l1 : List S47) : Option (List ByteArray) := if l0.length + l1.length < 4398046511104 then some (nall (l0 ++ l1) []) else none
theorem nidx_cons (n x : ByteArray) (xs : List ByteArray) : nidx n (x :: xs) = if Op.bytesLess x.toList n.toList = true then nidx n xs + 1 else 0 := rfl
theorem nidx_nil (n : ByteArray) : nidx n [] = 0 := rfl
theorem drop_rdB {l : List ByteArray} {y : Int} (h0 : 0 ≤ y) (h : y < (l.length : Int)) : l.drop y.toNat = rdB l y :: l.drop (y.toNat + 1) := by
  have hl : y.toNat < l.length := by omega
  rw [List.drop_eq_getElem_cons hl]
  congr 1
  unfold rdB rdOf
  rw [List.getD_eq_getElem?_getD, List.getElem?_eq_getElem hl]; rfl
theorem cut_cap {P : Program} (t e : TypeId) (kh km : IntKind) {i : TypeInfo} (ht : P.underlying t = some (.slice e)) (hi : P.info? e = some i) (A : Option Addr) (n c : Nat) (j : Int) (h0 : 0 ≤ j) (hm : j ≤ n) (hc : n ≤ c) :
    ∀ W : World, (Instr.slice t (.slice A n c) none (some (.int kh j)) (some (.int km j))).run P W = .ok (.slice A j.toNat j.toNat) W := by
  intro W
  have h1 : j ≤ (c : Int) := by omega
  have h2 : j ≤ (j.toNat : Int) := by omega
  have ha : (A.map fun x => x.add 0) = A := by cases A <;> simp [Addr.add]
  simp [Instr.slice, run_underlying ht, Instr.sliceBounds, run_sliceBound, h0, h1, sizeOf, typeInfo, hi, ha]
  rw [run_sliceBound W kh j j.toNat BoundsCode.slice3B h0 (by omega)]
  rfl
theorem names_app {P : Program} {ops : Array Oper} {o : Oper} {a : Act} {Q : Exit → Act → World → Prop} {Kc : Act → World → Prop} {W : World} (hw : Region.wanted o (yielded ops a.tmps) = true) (s x : Operand) (t e : TypeId) (z : Value)
    (ho : o.op = .call { callee := .builtin .append, args := #[s, x], argTypes := #[t, t] }) (ht : P.underlying t = some (.slice e)) (hinfo : (P.info? e).map (fun i => (i.zero, i.size, i.bytes)) = some (some z, 1, 16)) (hz : z.cells.size = 1)
    (A B : Option Addr) (n m c : Nat) (xs ys : List ByteArray) (hs : a.eval s = .slice A n n) (hx : a.eval x = .slice B m c) (HX : Kd.string.C W A n xs) (HY : Kd.string.C W B m ys) (h1 : 1 ≤ m) (hl : (n + m) * 16 ≤ 140737488355328)
    (h : ∀ v1 w1, Kd.string.R e w1 W.heap.size (fun _ => True) v1 (xs ++ ys) → Below W.heap.size W w1 → Kc (a.put o.dst v1) w1) : if Region.wanted o (yielded ops a.tmps) = true then Oper.wp P o a W Kc Q else Kc (a.put o.dst undef) W := by
  obtain ⟨i0, hi, hzz⟩ := Option.map_eq_some_iff.1 hinfo
  simp only [Prod.mk.injEq] at hzz
  obtain ⟨hz0, hz1, hz2⟩ := hzz
  have hm : ys.length = m := HY.1
  have hn : xs.length = n := HX.1
  obtain ⟨ad, rfl, _⟩ := HY.2.2 (by omega)
  obtain ⟨news, hnr, hnc⟩ := ReadsRow.inner_ HY
  have hone : ∀ u ∈ news, u.oneCell' = true := by
    intro u hu
    obtain ⟨q, hq, rfl⟩ := List.mem_iff_getElem.1 hu
    have hl1 : news.length = ys.length := by rw [hnr.1]; exact Nat.mul_one _
    have hc := hnr.2 q _ (List.getElem?_eq_getElem (by omega))
    refine Kd.string.K_one hc _ ?_
    rw [List.mem_iff_getElem?]
    refine ⟨0, ?_⟩
    rw [List.getElem?_take, if_pos (by decide), List.getElem?_drop, show q * Kd.string.sz + 0 = q from Nat.mul_one q, List.getElem?_eq_getElem hq]
  have hmm : n + m ≤ maxLen := by simp only [maxLen]; omega
  have fin : ∀ (v1 : Value) (w1 : World) (olds : List Value), Reps (Kd.string.K W) 1 xs olds → (Builtin.append_ #[t, t] o.type #[.slice A n n, .slice (some ad) m c]).run P W = .ok v1 w1 → w1.ownsRow W.heap.size e 1 v1 (n + m) (olds ++ news) → W.grownBy w1 none → if Region.wanted o (yielded ops a.tmps) = true then Oper.wp P o a W Kc Q else Kc (a.put o.dst undef) W := by
    intro v1 w1 olds hor hrun hown hg
    refine event_step hw ?_ (h v1 w1 ⟨fun _ _ => trivial, olds ++ news, by rw [List.length_append, hn, hm]; exact hown, Kd.reps_append hor hnr⟩ (pw_below_grown (Below.refl _ _) none (Nat.le_refl _) hg (fun k hk => by cases hk)))
    simp [execOp, ho, resolve, invoke, builtin, hs, hx, hrun, Result.andThen]
  rcases A with _ | b
  · have h0 : n = 0 := by
      rcases Nat.eq_zero_or_pos n with h0 | h0
      · exact h0
      · obtain ⟨ad, h, _⟩ := HX.2.2 h0
        cases h
    subst h0
    obtain rfl : xs = [] := List.eq_nil_of_length_eq_zero hn
    obtain ⟨v', w', hrun, r1, r2, _⟩ := run_append_own (P := P) W W.heap.size t o.type e i0 z 1 16 ht hi hz0 hz1 hz2 hz (by decide) (.slice none 0 0) 0 [] (World.ownsRow_nil W _ e 1) ad m c news (by rw [hnr.1, hm]; rfl) hnc hone hmm hl (Nat.le_refl _)
    exact fin v' w' [] (Reps.none _ _) hrun r1 r2
  · obtain ⟨olds, hor, hoc⟩ := ReadsRow.inner_ HX
    obtain ⟨v', w', hrun, r1, r2⟩ := run_append_arg_grows (P := P) W t o.type e i0 z 1 16 ht hi hz0 hz1 hz2 hz (by decide) b n n olds (by rw [hor.1, hn]; rfl) hoc ad m c news (by rw [hnr.1, hm]; rfl) hnc (by omega) hmm hl
    exact fin v' w' olds hor hrun r1 r2
theorem R_putS {w W : World} {g : Nat} {cs : Array Value} {v : Value} {l : List ByteArray} {t : TypeId} (h : Kd.R Kd.string 9 W w.heap.size (fun _ => True) v l) (hb : W.heap[g]? = some (.cells cs t (0, 0))) (ht : ∀ q : Nat, q ∈ 9 :: Kd.string.E → q ≠ t) (i : Nat) (u : Value) : Kd.R Kd.string 9 (W.setCell ⟨g, i, none⟩ u) w.heap.size (fun _ => True) v l :=
  Kd.R_mono (Kd.R_far (p := ⟨g, i, none⟩) (Kd.R_types h hb ht) (fun _ hk => hk.2) u) (fun _ _ => trivial)
structure NA (w : World) (va : Value) (ab : List S47) (ov : Value) (out : List ByteArray) (W : World) : Prop where
  hb : Below w.heap.size w W
  ra : Kd.R k47 47 W w.heap.size (fun _ => True) va ab
  ro : Kd.R Kd.string 9 W w.heap.size (fun _ => True) ov out
structure NB (w : World) (gt : Nat) (va : Value) (ab : List S47) (ov : Value) (out : List ByteArray) (t : S47) (W : World) : Prop where
  s : NA w va ab ov out W
  bt : W.heap[gt]? = some (.cells #[.string t.f0, .int .i64 t.f1.f0, .int .i64 t.f1.f1] 47 (0, 0))
  lt : w.heap.size ≤ gt
section
variable {w W W' W1 : World} {gt : Nat} {va ov ov' : Value} {ab : List S47} {out out' : List ByteArray} {t : S47}
theorem NA.call (s : NA w va ab ov out W) (hb : Below W.heap.size W W') : NA w va ab ov out W' := ⟨below_step s.hb hb, Kd.R_below s.ra hb, Kd.R_below s.ro hb⟩
theorem NB.call (s : NB w gt va ab ov out t W) (hb : Below W.heap.size W W') : NB w gt va ab ov out t W' := ⟨s.s.call hb, blk_below s.bt hb, s.lt⟩
theorem NB.drew (s : NB w gt va ab ov out t W) : NB w gt va ab ov out t W.drew := ⟨⟨below_drew1 s.s.hb, Kd.R_drew s.s.ra, Kd.R_drew s.s.ro⟩, blk_drew s.bt, s.lt⟩
theorem NA.row (s : NA w va ab ov out W) (h : Kd.R Kd.string 9 W w.heap.size (fun _ => True) ov' out') : NA w va ab ov' out' W := ⟨s.hb, s.ra, h⟩
theorem NB.new (s : NA w va ab ov out W) (hg : gt = W.heap.size) (hb : Below W.heap.size W W1) (h : W1.heap[gt]? = some (.cells #[.string (⟨#[]⟩ : ByteArray), .int .i64 0, .int .i64 0] 47 (0, 0))) (t : S47) :
    NB w gt va ab ov out t (((W1.setCell ⟨gt, 0, none⟩ (.string t.f0)).setCell ⟨gt, 1, none⟩ (.int .i64 t.f1.f0)).setCell ⟨gt, 2, none⟩ (.int .i64 t.f1.f1)) := by
  have s1 := s.call hb
  have lt : w.heap.size ≤ gt := by rw [hg]; exact s.hb.size
  have r0 : Kd.R k47 47 W w.heap.size (fun k => k ≠ gt) va ab := Kd.R_mono (Kd.R_bound s.ra) (fun k hk => by have := hk.2.2.1; omega)
  have r1 := Kd.R_far (p := ⟨gt, 2, none⟩) (Kd.R_far (p := ⟨gt, 1, none⟩) (Kd.R_far (p := ⟨gt, 0, none⟩) (Kd.R_below r0 hb) (fun _ hk => hk) (.string t.f0)) (fun _ hk => hk) (.int .i64 t.f1.f0)) (fun _ hk => hk) (.int .i64 t.f1.f1)
  have b1 := blk_put h 0 (.string t.f0) rfl
  have b2 := blk_put b1 1 (.int .i64 t.f1.f0) rfl
  exact ⟨⟨below_set (below_set (below_set s1.hb lt) lt) lt, Kd.R_mono r1 (fun _ _ => trivial), R_putS (R_putS (R_putS s1.ro h (by decide) 0 _) b1 (by decide) 1 _) b2 (by decide) 2 _⟩, blk_put b2 2 _ rfl, lt⟩
end
theorem bati {W : World} {A : Option Addr} {l : List ByteArray} (h : Kd.string.C W A l.length l) (y : Int) (h0 : 0 ≤ y) (h1 : y < (l.length : Int)) : ∃ ad, A = some ad ∧ ∀ W', Below W.heap.size W W' → W'.cell? (ad.add y.toNat) = some (.string (rdB l y)) := by
  obtain ⟨ad, e, c0⟩ := Kd.at_string h y h0 h1
  exact ⟨ad, e, fun W' hb => (hb.cell (World.block_lt_of_cell? W _ c0)).trans c0⟩
set_option maxHeartbeats 8000000 in
set_option maxRecDepth 100000 in
theorem fleuronref08_names.calls (A0 : Option Addr) (c0 : Nat) (l0 : List S47) (A1 : Option Addr) (c1 : Nat) (l1 : List S47) (r : List ByteArray) (w : World) (hr0 : Kd.C k47 w A0 l0.length l0) (hc0 : l0.length ≤ c0) (hr1 : Kd.C k47 w A1 l1.length l1) (hc1 : l1.length ≤ c1) (h : fleuronref08_names.f l0 l1 = some r) :
  Calls Tryz.prog 78 #[.slice A0 l0.length c0, .slice A1 l1.length c1] w fun e w' => ∃ v0_ : Value, e = .returned (v0_) ∧ Kd.R Kd.string 9 w' w.heap.size (fun _ => True) v0_ r ∧ Below w.heap.size w w' := by
 have hu47 := Tryz.underlying47
 have hBs : Base w := Base.mk
 have HR0 := Fa.mk hr0
 have HR1 := Fa.mk hr1
 clear hr0 hc0 hr1 hc1
 unfold fleuronref08_names.f at h
 split at h
 rotate_left
 ·
  cases h
 rename_i hbig
 have HBG : Fa (l0.length + l1.length < 4398046511104) := ⟨hbig⟩
 clear hbig
 obtain ⟨ab, hab⟩ : ∃ x, x = l0 ++ l1 := ⟨_, rfl⟩
 rw [← hab] at h
 have HAB := Fa.mk hab
 have HJ := Fa.mk (Option.some.inj h)
 have HLA : Fa (ab.length < 4398046511104) := ⟨by rw [hab, List.length_append]; exact HBG.out⟩
 clear h hab
 go_enter Tryz.func78, Tryz.ntmps78
 have tok1 : True := trivial
 have tok2 : True := trivial
 go_upto_region 2 with (fail)
 go_wp2_with (first | ((with_reducible refine gate_dst (N := 9) rfl ?_); refine Kd.R_lit k47 _ 47 ?hg (N := 9) ?hd (xs := ([] : List S47)) (inner := []) (ok := fun _ => True) (okp := fun _ => True) ?hr ?hp (fun _ hk => hk) trivial (Below.refl _ _) (Nat.le_refl _) (by simp) ?_; (case hd => rfl); (case hg => rfl); (case hr => first | (go_simp; done) | (go_simp; rfl)); (case hp => exact (Reps.none _ _)); intro v9 w1 ho hb hg_ hnew_; have HO := Fa.mk ho; have HB := Fa.mk hb; clear ho hb hg_ hnew_) | ((have _t := tok1; with_reducible refine gate_builtin (b := .append) (xs := #[.tmp 9, .tmp 10]) rfl ?_); (try (refine gate_guard (by rfl) ?_; dsimp only)); at_builtin; refine Kd.R_append_rows k47 (w0 := w) w.heap.size rfl (.tmp 9) (.tmp 10) 24 47 (.agg #[(.string ⟨#[]⟩), (.int .i64 0), (.int .i64 0)]) 32 rfl Tryz.underlying24 info47 rfl (by decide) (by omega) v9 [] l0 _ _ _ (fun _ => True) (fun _ => False) rfl rfl ?aO ?aR (fun _ _ h => h) (fun _ h => h.elim) ?aF ?aB ?aS ?aL ?_; (case aR => exact Kd.C_below HR0.out fa); (case aB => exact HB.out); (case aF => exact fun _ _ => trivial); (case aO => exact HO.out); (case aS => exact HB.out.size); (case aL => have := HBG.out; (try simp only [List.length_nil, Nat.zero_add]); omega); intro v11 w2 ho hb hg hat; have HO1 := Fa.mk (show Kd.R k47 47 w2 w.heap.size (fun _ => True) v11 l0 from ho); have HB1 := Fa.mk hb; clear ho hb hg hat HO HB tok1; have HO := HO1; have HB := HB1; clear HO1 HB1) | (((have _t := tok2; with_reducible refine gate_builtin (b := .append) (xs := #[.tmp 11, .tmp 12]) rfl ?_); (try (refine gate_guard (by rfl) ?_; dsimp only)); at_builtin; refine Kd.R_append_rows k47 (w0 := w) w.heap.size rfl (.tmp 11) (.tmp 12) 24 47 (.agg #[(.string ⟨#[]⟩), (.int .i64 0), (.int .i64 0)]) 32 rfl Tryz.underlying24 info47 rfl (by decide) (by omega) v11 l0 l1 _ _ _ (fun _ => True) (fun _ => False) rfl rfl ?aO ?aR (fun _ _ h => h) (fun _ h => h.elim) ?aF ?aB ?aS ?aL ?_; (case aR => exact Kd.C_below HR1.out fa); (case aB => exact HB.out); (case aF => exact fun _ _ => trivial); (case aO => exact HO.out); (case aS => exact HB.out.size); (case aL => have := HBG.out; (try simp only [List.length_nil, Nat.zero_add]); omega); intro v13 w3 ho hb hg hat; have HO1 := Fa.mk (show Kd.R k47 47 w3 w.heap.size (fun _ => True) v13 (l0 ++ l1) from ho); have HB1 := Fa.mk hb; clear ho hb hg hat HO HB tok2; have HO := HO1; have HB := HB1; clear HO1 HB1; (have ho2 := HO.out; rw [← HAB.out] at ho2; obtain ⟨Ab, cb, hvb⟩ := Kd.R_slice ho2; subst hvb; have S := Fa.mk (show NA w (.slice Ab ab.length cb) ab (.slice none 0 0) [] w3 from ⟨HB.out, ho2, Kd.R_nil _ _ _ _ _⟩); clear ho2 HO HB))))
 go_loopw [5, 15] (fun v5 v15 W => ∃ (x : Int) (out : List ByteArray), v15 = .int .i64 x ∧ 0 ≤ x ∧ x ≤ (ab.length : Int) ∧ out.length ≤ x.toNat ∧ Fa (nall (ab.drop x.toNat) out = r) ∧ Fa (NA w (.slice Ab ab.length cb) ab v5 out W)) (fun _ v15 _ => ab.length - iix v15)
 case atStart => exact ⟨0, [], rfl, by omega, by omega, Nat.le_refl _, HJ, S⟩
 case round =>
  clear S HJ
  obtain ⟨x, out, rfl, h0, hle, hol, HJ, S⟩ := hrel
  by_cases hlt : x < (ab.length : Int)
  rotate_left
  ·
   have dw : decide (x < (ab.length : Int)) = false := decide_eq_false hlt
   have hd : ab.drop x.toNat = [] := List.drop_eq_nil_of_le (by omega)
   have hJ := HJ.out
   rw [hd] at hJ
   unfold nall at hJ
   subst hJ
   clear HJ hd hlt hle hol h0
   go_wp2
   go_ret
   exact ⟨_, rfl, S.out.ro, S.out.hb⟩
  have dw : decide (x < (ab.length : Int)) = true := decide_eq_true hlt
  obtain ⟨ad, rfl, HX⟩ := jati (W := wr) (Kd.R_reads' S.out.ra).2.2 x h0 hlt
  obtain ⟨cx0, cx1, cx2⟩ := HX _ (Below.refl _ _)
  clear HX
  have hd := at_drop h0 hlt
  have hJ := HJ.out
  clear HJ
  rw [hd] at hJ
  unfold nall at hJ
  have HXN : Fa (0 ≤ wrap64 (x + 1) ∧ wrap64 (x + 1) ≤ (ab.length : Int) ∧ (wrap64 (x + 1)).toNat = x.toNat + 1) := ⟨by have := HLA.out; unfold wrap64; omega⟩
  have HOL : Fa (out.length ≤ x.toNat) := ⟨hol⟩
  have HLT : Fa (x.toNat < ab.length) := ⟨by omega⟩
  obtain ⟨t, ht⟩ : ∃ t, t = rd_T47 ab x := ⟨_, rfl⟩
  rw [← ht] at hJ cx0 cx1 cx2
  have HJ := Fa.mk hJ
  clear hJ hd ht hol hle
  have p0 := eq_true h0
  have q0 := eq_true hlt
  obtain ⟨Ao, co, hvo⟩ := Kd.R_slice S.out.ro
  subst hvo
  have HCO := Fa.mk (Kd.R_reads' S.out.ro).2.1
  go_upto_region 5 with (((with_reducible refine gate_dst (N := 7) rfl ?_); refine boxF (N := 7) (cs := #[.string (⟨#[]⟩ : ByteArray), .int .i64 0, .int .i64 0]) (t := 47) ?_; intro gt hg_gt w7 hx_gt hb_gt; have SB := Fa.mk (NB.new S.out hg_gt hb_gt hx_gt t); have ct0 := jcell hx_gt (i := 0) rfl; have ct1 := jcell hx_gt (i := 1) rfl; have ct2 := jcell hx_gt (i := 2) rfl; have ft0 := blk_frozen hx_gt 0; have ft1 := blk_frozen hx_gt 1; have ft2 := blk_frozen hx_gt 2; clear hg_gt hb_gt hx_gt S; clear cx0 cx1 cx2))
  clear p0 q0 h0 hlt ct0 ct1 ct2 ft0 ft1 ft2
  generalize hW_ : (((w7.setCell ⟨gt, 0, none⟩ (.string t.f0)).setCell ⟨gt, 1, none⟩ (.int .i64 t.f1.f0)).setCell ⟨gt, 2, none⟩ (.int .i64 t.f1.f1)) = w8 at SB ⊢
  clear hW_
  go_wp2
  go_loopw [8] (fun v8 W => ∃ y : Int, v8 = .int .i64 y ∧ 0 ≤ y ∧ y ≤ (out.length : Int) ∧ Fa (y.toNat + nidx t.f0 (out.drop y.toNat) = nidx t.f0 out) ∧ Fa (NB w gt (.slice (some ad) ab.length cb) ab (.slice Ao out.length co) out t W)) (fun v8 _ => out.length - iix v8)
  case atStart => exact ⟨0, rfl, by omega, by omega, ⟨Nat.zero_add _⟩, SB⟩
  case round =>
   clear SB
   obtain ⟨y, rfl, y0, yle, HY, SB⟩ := hrel
   have HY0 : Fa (0 ≤ y ∧ y ≤ (out.length : Int)) := ⟨y0, yle⟩
   obtain ⟨b, hb⟩ : ∃ b, b = (decide (y < (out.length : Int)) && Op.bytesLess (rdB out y).toList t.f0.toList) := ⟨_, rfl⟩
   have HBB := Fa.mk hb
   clear hb yle
   go_upto_region 6 with (fail)
   go_cut [31] (fun v31 wc => v31 = .bool b ∧ Fa (NB w gt (.slice (some ad) ab.length cb) ab (.slice Ao out.length co) out t wc))
   case first =>
    by_cases ylt : y < (out.length : Int)
    ·
     have dy : decide (y < (out.length : Int)) = true := decide_eq_true ylt
     obtain ⟨ad2, rfl, hAD⟩ := bati (Kd.R_reads' SB.out.s.ro).2.2 y y0 ylt
     have HAD := Fa.mk hAD
     clear hAD
     have py := eq_true y0
     have qy := eq_true ylt
     refine startU 13 (S := fun w' => NB w gt (.slice (some ad) ab.length cb) ab (.slice (some ad2) out.length co) out t w' ∧ Below wr.heap.size wr w') (ds := []) ⟨SB.out.drew, below_drew (Below.refl _ _)⟩ (fun hHeld => ?_)
     generalize World.drew _ = wd at hHeld ⊢
     refine pureV 0 (some 19) (upto 13 1) ?_
     refine pureV 1 (some 20) (upto 13 2) ?_
     refine pureV 2 (some 21) (upto 13 3) ?_
     refine pureV 3 (some 22) (upto 13 4) ?_
     refine pureV 4 (some 23) (upto 13 5) ?_
     refine pureV 5 (some 24) (upto 13 6) ?_
     refine pureV 6 (some 25) (upto 13 7) ?_
     refine pureV 7 (some 26) (upto 13 8) ?_
     refine takeV 8 (some 27) (upto 13 9) hHeld rfl (by intro w' s_; have c0 := HAD.out _ s_.2; clear s_; go_simp; with_reducible rfl) ?_
     refine pureV 9 (some 28) (upto 13 10) ?_
     refine takeV 10 (some 29) (upto 13 11) hHeld rfl (by intro w' s_; have c0 := jcell s_.1.bt (i := 0) rfl; clear s_; go_simp; with_reducible rfl) ?_
     refine pureV 11 (some 30) (upto 13 12) ?_
     refine pureV 12 (some 31) (upto 13 13) ?_
     refine done_ (by kernel_rfl) ?_
     have SB2 := Fa.mk hHeld.1
     clear SB hHeld py qy
     (try go_wp2)
     go_meet
     case rel => exact ⟨by rw [HBB.out, dy]; simp, SB2⟩
    ·
     have dy : decide (y < (out.length : Int)) = false := decide_eq_false ylt
     refine startU 13 (S := fun w' => NB w gt (.slice (some ad) ab.length cb) ab (.slice Ao out.length co) out t w' ∧ Below wr.heap.size wr w') (ds := []) ⟨SB.out.drew, below_drew (Below.refl _ _)⟩ (fun hHeld => ?_)
     generalize World.drew _ = wd at hHeld ⊢
     refine pureV 0 (some 19) (upto 13 1) ?_
     refine pureV 1 (some 20) (upto 13 2) ?_
     refine pureV 2 (some 21) (upto 13 3) ?_
     refine pureV 3 (some 22) (upto 13 4) ?_
     refine pureV 4 (some 23) (upto 13 5) ?_
     refine pureV 5 (some 24) (upto 13 6) ?_ (v := undef) (hy := Or.inr ⟨by rfl, rfl⟩)
     refine pureV 6 (some 25) (upto 13 7) ?_ (v := undef) (hy := Or.inr ⟨by rfl, rfl⟩)
     refine pureV 7 (some 26) (upto 13 8) ?_ (v := undef) (hy := Or.inr ⟨by rfl, rfl⟩)
     refine pureV 8 (some 27) (upto 13 9) ?_ (v := undef) (hy := Or.inr ⟨by rfl, rfl⟩)
     refine pureV 9 (some 28) (upto 13 10) ?_ (v := undef) (hy := Or.inr ⟨by rfl, rfl⟩)
     refine pureV 10 (some 29) (upto 13 11) ?_ (v := undef) (hy := Or.inr ⟨by rfl, rfl⟩)
     refine pureV 11 (some 30) (upto 13 12) ?_ (v := undef) (hy := Or.inr ⟨by rfl, rfl⟩)
     refine pureV 12 (some 31) (upto 13 13) ?_
     refine done_ (by kernel_rfl) ?_
     have SB2 := Fa.mk hHeld.1
     clear SB hHeld
     (try go_wp2)
     go_meet
     case rel => exact ⟨by rw [HBB.out, dy]; simp, SB2⟩
   case rest =>
    clear SB
    obtain ⟨rfl, SB⟩ := hcut
    cases b with
    | true =>
     have hbb := HBB.out
     symm at hbb
     simp only [Bool.and_eq_true, decide_eq_true_eq] at hbb
     have HYN : Fa (0 ≤ wrap64 (y + 1) ∧ wrap64 (y + 1) ≤ (out.length : Int) ∧ (wrap64 (y + 1)).toNat = y.toNat + 1 ∧ y.toNat < out.length) := ⟨by have := HOL.out; have := HLT.out; have := HLA.out; have := hbb.1; have := y0; unfold wrap64; omega⟩
     have HY2 : Fa (y.toNat + 1 + nidx t.f0 (out.drop (y.toNat + 1)) = nidx t.f0 out) := ⟨by have e := HY.out; rw [drop_rdB y0 hbb.1, nidx_cons, if_pos hbb.2] at e; omega⟩
     clear hbb HY
     go_wp2
     go_roundw
     case rel => exact ⟨_, rfl, HYN.out.1, HYN.out.2.1, ⟨by rw [HYN.out.2.2.1]; exact HY2.out⟩, SB⟩
     case measure => have := HYN.out; simp only [iix]; omega
    | false =>
     have hix : nidx t.f0 out = y.toNat := by
      have e := HY.out
      have hbb := HBB.out
      by_cases ylt : y < (out.length : Int)
      ·
       rw [drop_rdB y0 ylt, nidx_cons] at e; rw [decide_eq_true ylt, Bool.true_and] at hbb; rw [if_neg (by rw [← hbb]; decide)] at e; omega
      ·
       rw [List.drop_eq_nil_of_le (by omega), nidx_nil] at e; omega
     have HIX := Fa.mk hix
     clear hix HY HBB
     obtain ⟨nb, hnb⟩ : ∃ b, b = (decide (y = (out.length : Int)) || !((rdB out y).toList == t.f0.toList)) := ⟨_, rfl⟩
     have HNB := Fa.mk hnb
     clear hnb
     go_upto_region 8 with (fail)
     go_cut [46] (fun v46 wc => v46 = .bool nb ∧ Fa (NB w gt (.slice (some ad) ab.length cb) ab (.slice Ao out.length co) out t wc))
     case first =>
      by_cases ylt : y < (out.length : Int)
      ·
       have dy : (y == (out.length : Int)) = false := beq_eq_false_iff_ne.mpr (by omega)
       have dy2 : decide (y = (out.length : Int)) = false := decide_eq_false (by omega)
       obtain ⟨ad2, rfl, hAD⟩ := bati (Kd.R_reads' SB.out.s.ro).2.2 y y0 ylt
       have HAD := Fa.mk hAD
       clear hAD
       have py := eq_true y0
       have qy := eq_true ylt
       refine startU 13 (S := fun w' => NB w gt (.slice (some ad) ab.length cb) ab (.slice (some ad2) out.length co) out t w' ∧ Below wc.heap.size wc w') (ds := []) ⟨SB.out.drew, below_drew (Below.refl _ _)⟩ (fun hHeld => ?_)
       generalize World.drew _ = wd at hHeld ⊢
       refine pureV 0 (some 34) (upto 13 1) ?_
       refine pureV 1 (some 35) (upto 13 2) ?_
       refine pureV 2 (some 36) (upto 13 3) ?_
       refine pureV 3 (some 37) (upto 13 4) ?_
       refine pureV 4 (some 38) (upto 13 5) ?_
       refine pureV 5 (some 39) (upto 13 6) ?_
       refine pureV 6 (some 40) (upto 13 7) ?_
       refine pureV 7 (some 41) (upto 13 8) ?_
       refine takeV 8 (some 42) (upto 13 9) hHeld rfl (by intro w' s_; have c0 := HAD.out _ s_.2; clear s_; go_simp; with_reducible rfl) ?_
       refine pureV 9 (some 43) (upto 13 10) ?_
       refine takeV 10 (some 44) (upto 13 11) hHeld rfl (by intro w' s_; have c0 := jcell s_.1.bt (i := 0) rfl; clear s_; go_simp; with_reducible rfl) ?_
       refine pureV 11 (some 45) (upto 13 12) ?_
       refine pureV 12 (some 46) (upto 13 13) ?_
       refine done_ (by kernel_rfl) ?_
       have SB2 := Fa.mk hHeld.1
       clear SB hHeld py qy
       (try go_wp2)
       go_meet
       case rel => exact ⟨by rw [HNB.out, dy2]; simp [bne], SB2⟩
      ·
       have dy : (y == (out.length : Int)) = true := beq_iff_eq.mpr (by have := HY0.out; omega)
       have dy2 : decide (y = (out.length : Int)) = true := decide_eq_true (by have := HY0.out; omega)
       refine startU 13 (S := fun w' => NB w gt (.slice (some ad) ab.length cb) ab (.slice Ao out.length co) out t w' ∧ Below wc.heap.size wc w') (ds := []) ⟨SB.out.drew, below_drew (Below.refl _ _)⟩ (fun hHeld => ?_)
       generalize World.drew _ = wd at hHeld ⊢
       refine pureV 0 (some 34) (upto 13 1) ?_
       refine pureV 1 (some 35) (upto 13 2) ?_
       refine pureV 2 (some 36) (upto 13 3) ?_
       refine pureV 3 (some 37) (upto 13 4) ?_
       refine pureV 4 (some 38) (upto 13 5) ?_
       refine pureV 5 (some 39) (upto 13 6) ?_ (v := undef) (hy := Or.inr ⟨by rfl, rfl⟩)
       refine pureV 6 (some 40) (upto 13 7) ?_ (v := undef) (hy := Or.inr ⟨by rfl, rfl⟩)
       refine pureV 7 (some 41) (upto 13 8) ?_ (v := undef) (hy := Or.inr ⟨by rfl, rfl⟩)
       refine pureV 8 (some 42) (upto 13 9) ?_ (v := undef) (hy := Or.inr ⟨by rfl, rfl⟩)
       refine pureV 9 (some 43) (upto 13 10) ?_ (v := undef) (hy := Or.inr ⟨by rfl, rfl⟩)
       refine pureV 10 (some 44) (upto 13 11) ?_ (v := undef) (hy := Or.inr ⟨by rfl, rfl⟩)
       refine pureV 11 (some 45) (upto 13 12) ?_ (v := undef) (hy := Or.inr ⟨by rfl, rfl⟩)
       refine pureV 12 (some 46) (upto 13 13) ?_
       refine done_ (by kernel_rfl) ?_
       have SB2 := Fa.mk hHeld.1
       clear SB hHeld
       (try go_wp2)
       go_meet
       case rel => exact ⟨by rw [HNB.out, dy2]; simp, SB2⟩
     case rest =>
      clear SB
      obtain ⟨rfl, SB⟩ := hcut
      cases nb with
      | false =>
       have HJ2 : Fa (nall (ab.drop (x.toNat + 1)) out = r) := ⟨by
        have hJ := HJ.out
        have hn := HNB.out
        symm at hn
        simp only [Bool.or_eq_false_iff, decide_eq_false_iff_not, Bool.not_eq_false', beq_iff_eq] at hn
        have e : insN t.f0 out = out := by
         unfold insN
         rw [HIX.out]
         exact if_pos ⟨by have := HY0.out; omega, by rw [Int.toNat_of_nonneg y0]; exact hn.2⟩
        rw [e] at hJ
        exact hJ⟩
       clear HJ HNB
       go_wp2
       go_roundw
       case rel => exact ⟨_, out, rfl, HXN.out.1, HXN.out.2.1, by have := HXN.out.2.2; have := HOL.out; omega, ⟨by rw [HXN.out.2.2]; exact HJ2.out⟩, ⟨SB.out.s⟩⟩
       case measure => have := HXN.out.2.2; have := HLT.out; simp only [iix]; omega
      | true =>
       have hJ2 : nall (ab.drop (x.toNat + 1)) (out.take y.toNat ++ ([t.f0] ++ out.drop y.toNat)) = r := by
        have hJ := HJ.out
        have hn := HNB.out
        symm at hn
        simp only [Bool.or_eq_true, decide_eq_true_eq, Bool.not_eq_true', beq_eq_false_iff_ne] at hn
        have e : insN t.f0 out = out.take y.toNat ++ ([t.f0] ++ out.drop y.toNat) := by
         unfold insN
         rw [HIX.out]
         refine if_neg (fun hh => ?_)
         rw [Int.toNat_of_nonneg y0] at hh
         rcases hn with hn | hn
         ·
          omega
         ·
          exact hn hh.2
        rw [e] at hJ
        exact hJ
       obtain ⟨no, hno⟩ : ∃ z, z = out.take y.toNat ++ ([t.f0] ++ out.drop y.toNat) := ⟨_, rfl⟩
       rw [← hno] at hJ2
       have HNO := Fa.mk hno
       have HJ2 := Fa.mk hJ2
       clear hJ2 hno HJ HNB
       obtain ⟨ii, hii, _, hsz, _⟩ := info_parts info9
       have hcc := cut_cap (P := Tryz.prog) 86 9 .i64 .i64 Tryz.underlying86 hii Ao out.length co y y0 HY0.out.2 HCO.out
       have hcu := cut_from (P := Tryz.prog) 86 9 .i64 Tryz.underlying86 hii 1 hsz Ao out.length co y y0 HY0.out.2
       have hdr := Kd.C_drop (m := y.toNat) (c := co) (Kd.R_reads' SB.out.s.ro).2.2 (by have := HY0.out; omega) HCO.out
       have htk := (Kd.R_reads' (Kd.R_take (m := y.toNat) SB.out.s.ro (by have := HY0.out; omega))).2.2
       obtain ⟨c56, hc56⟩ : ∃ c : Nat, c = co - y.toNat := ⟨_, rfl⟩
       obtain ⟨n56, hn56⟩ : ∃ n : Nat, n = out.length - y.toNat := ⟨_, rfl⟩
       rw [← hn56, ← hc56] at hcu
       generalize hA : (if co = y.toNat then Ao else (Ao : Option Addr).map (·.add (y.toNat * 1))) = A56 at hcu
       replace hdr : Kd.string.C wc A56 n56 (out.drop y.toNat) := by rw [hn56, ← List.length_drop, ← hA]; exact hdr
       replace htk : Kd.string.C wc Ao y.toNat (out.take y.toNat) := by have e : (out.take y.toNat).length = y.toNat := by { rw [List.length_take]; have := HY0.out; omega }; rw [e] at htk; exact htk
       have HDR := Fa.mk hdr
       have HTK := Fa.mk htk
       have HN56 := Fa.mk hn56
       clear hdr htk hA hc56 hn56 hii hsz
       go_upto_region 9 with (fail)
       refine startU 13 (S := fun w' => NB w gt (.slice (some ad) ab.length cb) ab (.slice Ao out.length co) out t w' ∧ Below wc.heap.size wc w') (ds := []) ⟨SB.out.drew, below_drew (Below.refl _ _)⟩ (fun hHeld => ?_)
       generalize World.drew _ = wd at hHeld ⊢
       have py := eq_true y0
       have qy : (y ≤ (out.length : Int)) = True := eq_true HY0.out.2
       refine pureV 0 (some 47) (upto 13 1) ?_
       refine pureV 1 (some 48) (upto 13 2) ?_
       refine pureV 2 (some 49) (upto 13 3) ?_
       refine pureV 3 (some 50) (upto 13 4) ?_
       refine pureV 4 (some 51) (upto 13 5) ?_
       refine pureV 7 (some 54) #[true, true, true, true, true, false, false, true, false, false, false, false, false] ?_
       refine pureV 8 (some 55) #[true, true, true, true, true, false, false, true, true, false, false, false, false] ?_
       refine pureV 9 (some 56) #[true, true, true, true, true, false, false, true, true, true, false, false, false] ?_
       refine takeV 5 (some 52) #[true, true, true, true, true, true, false, true, true, true, false, false, false] hHeld rfl (by intro w' s_; have c0 := jcell s_.1.bt (i := 0) rfl; clear s_; go_simp; with_reducible rfl) ?_
       refine oneV 6 (some 53) (upto 13 10) (fun K hK => ?_)
       refine Kd.R_lit_step Kd.string _ 9 ?hg (N := 53) ?hd (xs := [t.f0]) (inner := [.string t.f0]) (ok := fun _ => True) (okp := fun _ => True) ?hr ?hp (fun _ hk => hk) trivial (Below.refl _ _) (Nat.le_refl _) (by simp) ?_; (case hd => rfl); (case hg => rfl); (case hr => first | (go_simp; done) | (go_simp; rfl)); (case hp => exact Reps.snoc (Reps.none _ _) rfl rfl)
       intro v53 wl ho hb hg_ hnew_
       have HO := Fa.mk (Kd.R_lower ho hHeld.1.s.hb.size)
       have HB5 := Fa.mk hb
       have HN5 := Fa.mk hnew_
       have H5 := Fa.mk hHeld
       refine hK.out _ _ ⟨hHeld.1.call hb, below_step hHeld.2 hb⟩ (fun hHeld1 => ?_)
       clear hK K ho hb hg_ hnew_ hHeld
       have hHeld := hHeld1
       clear hHeld1
       refine normU (some 53) ?_
       refine oneV 10 (some 57) (upto 13 11) (fun K hK => ?_)
       refine Kd.R_append_rows_step Kd.string (w0 := w) w.heap.size (by rfl) (.tmp 53) (.tmp 56) 86 9 (.string ⟨#[]⟩) 16 rfl Tryz.underlying86 info9 rfl (by decide) (by omega) v53 [t.f0] (out.drop y.toNat) A56 n56 c56 (fun _ => True) (fun _ => False) rfl rfl ?aO ?aR (fun _ _ h => h) (fun _ h => h.elim) ?aF ?aB ?aS ?aL ?_
       (case aR => exact Kd.C_below HDR.out hHeld.2)
       (case aB => exact hHeld.1.s.hb)
       (case aF => exact fun _ _ => trivial)
       (case aO => exact HO.out)
       (case aS => exact hHeld.1.s.hb.size)
       (case aL => have := HOL.out; have := HLT.out; have := HLA.out; have := HN56.out; simp only [List.length_cons, List.length_nil]; omega)
       intro v57 wr2 ho hb hg hat
       have hB7 := pw_below_grown HB5.out _ HB5.out.size hg (by obtain ⟨b, e1, e2⟩ := HN5.out; intro k hk; rw [e1] at hk; cases hk; exact e2)
       have HO7 := Fa.mk ho
       refine hK.out _ _ ⟨H5.out.1.call hB7, below_step H5.out.2 hB7⟩ (fun hHeld1 => ?_)
       clear hK K ho hb hg hat hHeld HO HB5 HN5 H5 hB7
       have hHeld := hHeld1
       clear hHeld1
       refine normU (some 57) ?_
       obtain ⟨A57, c57, hv57⟩ := Kd.R_slice HO7.out
       subst hv57
       refine oneV 11 (some 58) (upto 13 12) (fun K hK => ?_)
       refine names_app (by rfl) (.tmp 50) (.tmp 57) 86 9 (.string ⟨#[]⟩) rfl Tryz.underlying86 info9 rfl Ao A57 y.toNat _ c57 (out.take y.toNat) ([t.f0] ++ out.drop y.toNat) rfl rfl (Kd.C_below HTK.out hHeld.2) (Kd.R_reads' HO7.out).2.2 (by simp) (by have := HOL.out; have := HLT.out; have := HLA.out; have := HY0.out; simp only [List.length_append, List.length_cons, List.length_nil, List.length_drop]; omega) ?_
       intro v58 wn ho hb
       rw [← HNO.out] at ho
       have SN := Fa.mk ((hHeld.1.s.call hb).row (Kd.R_lower ho hHeld.1.s.hb.size))
       refine hK.out _ _ ⟨hHeld.1.call hb, below_step hHeld.2 hb⟩ (fun hHeld1 => ?_)
       clear hK K ho hb hHeld hHeld1 HO7
       refine normU (some 58) ?_
       refine pureV 12 (some 5) (upto 13 13) ?_
       refine done_ (by kernel_rfl) ?_
       clear SB py qy hcc hcu
       go_wp2
       go_roundw
       case rel => exact ⟨_, no, rfl, HXN.out.1, HXN.out.2.1, by have := HXN.out.2.2; have := HOL.out; have := HY0.out; rw [HNO.out]; simp only [List.length_append, List.length_cons, List.length_nil, List.length_drop, List.length_take]; omega, ⟨by rw [HXN.out.2.2]; exact HJ2.out⟩, SN⟩
       case measure => have := HXN.out.2.2; have := HLT.out; simp only [iix]; omega
def bgo (k : Nat) (op : ByteArray) (a b : List S47) : List ByteArray → List S47 → Option (List S47 × Int)
  | [], out => some (out, 0)
  | n :: ns, out => (fleuronref08_coef.f k a n).bind fun x => (fleuronref08_coef.f k b n).bind fun y => (fleuronref01_Near.f k op x.1 x.2 y.1 y.2).bind fun c => if c.2.2 = 0 then bgo k op a b ns (if c.1 = 0 then out else out ++ [⟨n, ⟨c.1, c.2.1⟩⟩]) else some ([], c.2.2)
def fleuronref08_both.f (k : Nat) (a0 : ByteArray) (a1_0 a1_1 : Int) (l1_2 : List S47) (a2_0 a2_1 : Int) (l2_2 : List S47) : Option (Int × Int × List S47 × Int) :=
  if ¬ l1_2.length + l2_2.length < 4398046511104 then none else (fleuronref08_Valid.f k a1_0 a1_1 l1_2).bind fun v1 => if v1 = true then (fleuronref08_Valid.f k a2_0 a2_1 l2_2).bind fun v2 => if v2 = true then
    (fleuronref01_Near.f k a0 a1_0 a1_1 a2_0 a2_1).bind fun c => if c.2.2 = 0 then (fleuronref08_names.f l1_2 l2_2).bind fun ns => if ns.length < 4398046511104 then (bgo k a0 l1_2 l2_2 ns []).bind fun o => some (jend c.1 c.2.1 o) else none else some (0, 0, [], c.2.2)
    else some (0, 0, [], 2) else some (0, 0, [], 2)
structure US (w : World) (gf gg gr gc go : Nat) (fcs gcs cc : Array Value) (c0 c1 : Int) (nv : Value) (ns : List ByteArray) (ov : Value) (out : List S47) (W : World) : Prop where
  s : JS w gr gc go cc c0 c1 ov out W
  bf : W.heap[gf]? = some (.cells fcs 26 (0, 0))
  bg : W.heap[gg]? = some (.cells gcs 26 (0, 0))
  rn : Kd.R Kd.string 9 W w.heap.size (fun _ => True) nv ns
  nf : gf ≠ go
  ng : gg ≠ go
structure UV (w : World) (gf gg gr gc go gv : Nat) (fcs gcs cc : Array Value) (c0 c1 : Int) (nv : Value) (ns : List ByteArray) (ov : Value) (out : List S47) (p q : Int) (W : World) : Prop where
  s : US w gf gg gr gc go fcs gcs cc c0 c1 nv ns ov out W
  bv : W.heap[gv]? = some (.cells #[.int .i64 p, .int .i64 q] 23 (0, 0))
  lv : w.heap.size ≤ gv
  nv : gc ≠ gv
section
variable {w W W' W1 : World} {gf gg gr gc go gv g : Nat} {fcs gcs cc cs : Array Value} {c0 c1 p q : Int} {nv ov ov' : Value} {ns : List ByteArray} {out out' : List S47}
theorem R_putU {t : TypeId} (h : Kd.R Kd.string 9 W w.heap.size (fun _ => True) nv ns) (hb : W.heap[g]? = some (.cells cs t (0, 0))) (ht : ∀ q : Nat, q ∈ 9 :: Kd.string.E → q ≠ t) (i : Nat) (u : Value) : Kd.R Kd.string 9 (W.setCell ⟨g, i, none⟩ u) w.heap.size (fun _ => True) nv ns :=
  Kd.R_mono (Kd.R_far (p := ⟨g, i, none⟩) (Kd.R_types h hb ht) (fun _ hk => hk.2) u) (fun _ _ => trivial)
theorem US.call (s : US w gf gg gr gc go fcs gcs cc c0 c1 nv ns ov out W) (hb : Below W.heap.size W W') : US w gf gg gr gc go fcs gcs cc c0 c1 nv ns ov out W' := ⟨s.s.call hb, blk_below s.bf hb, blk_below s.bg hb, Kd.R_below s.rn hb, s.nf, s.ng⟩
theorem US.drew (s : US w gf gg gr gc go fcs gcs cc c0 c1 nv ns ov out W) : US w gf gg gr gc go fcs gcs cc c0 c1 nv ns ov out W.drew := ⟨s.s.drew, blk_drew s.bf, blk_drew s.bg, Kd.R_drew s.rn, s.nf, s.ng⟩
theorem US.far (s : US w gf gg gr gc go fcs gcs cc c0 c1 nv ns ov out W) (h : W.heap[g]? = some (.cells cs 23 (0, 0))) (hn : gc ≠ g) (hl : w.heap.size ≤ g) (i : Nat) (u : Value) : US w gf gg gr gc go fcs gcs cc c0 c1 nv ns ov out (W.setCell ⟨g, i, none⟩ u) :=
  ⟨s.s.far h hn hl i u, blk_far s.bf (p := ⟨g, i, none⟩) (blk_ne s.bf h (by decide)) u, blk_far s.bg (p := ⟨g, i, none⟩) (blk_ne s.bg h (by decide)) u, R_putU s.rn h (by decide) i u, s.nf, s.ng⟩
theorem US.app (s : US w gf gg gr gc go fcs gcs cc c0 c1 nv ns ov out W) (ro' : Kd.R k47 47 W' w.heap.size (fun _ => True) ov' out') (hb : Below w.heap.size w W') (hg : W.grownBy W' ov.ownBlock) : US w gf gg gr gc go fcs gcs cc c0 c1 nv ns ov' out' (W'.setCell ⟨go, 2, none⟩ ov') := by
  have b3 := blk_grown s.s.bo hg (Kd.R_ne s.s.ro s.s.bo (by decide))
  have hr : Kd.R Kd.string 9 W' w.heap.size (fun _ => True) nv ns := by
    refine Kd.R_grown2 s.rn rfl hg (fun k hk => ?_)
    obtain ⟨inner, ⟨_, ho⟩, _⟩ := s.s.ro.2
    rcases ho with ⟨rfl, _⟩ | ⟨g, cap, cur, rfl, _, hgb, _⟩
    · cases hk
    · cases hk
      exact Kd.R_ne s.rn hgb (by decide)
  exact ⟨s.s.app ro' hb hg, blk_far (blk_grown s.bf hg (Kd.R_ne s.s.ro s.bf (by decide))) (p := ⟨go, 2, none⟩) s.nf _, blk_far (blk_grown s.bg hg (Kd.R_ne s.s.ro s.bg (by decide))) (p := ⟨go, 2, none⟩) s.ng _, R_putU hr b3 (by decide) 2 _, s.nf, s.ng⟩
theorem UV.call (s : UV w gf gg gr gc go gv fcs gcs cc c0 c1 nv ns ov out p q W) (hb : Below W.heap.size W W') : UV w gf gg gr gc go gv fcs gcs cc c0 c1 nv ns ov out p q W' := ⟨s.s.call hb, blk_below s.bv hb, s.lv, s.nv⟩
theorem UV.new (s : US w gf gg gr gc go fcs gcs cc c0 c1 nv ns ov out W) (hg : gv = W.heap.size) (hb : Below W.heap.size W W1) (h : W1.heap[gv]? = some (.cells #[.int .i64 p, .int .i64 q] 23 (0, 0))) : UV w gf gg gr gc go gv fcs gcs cc c0 c1 nv ns ov out p q W1 := ⟨s.call hb, h, by rw [hg]; exact s.s.hb.size, by rw [hg]; exact Nat.ne_of_lt (blk_lt s.s.bc)⟩
theorem UV.set (s : UV w gf gg gr gc go gv fcs gcs cc c0 c1 nv ns ov out 0 0 W) (p q : Int) : UV w gf gg gr gc go gv fcs gcs cc c0 c1 nv ns ov out p q ((W.setCell ⟨gv, 0, none⟩ (.int .i64 p)).setCell ⟨gv, 1, none⟩ (.int .i64 q)) :=
  have b1 := blk_put s.bv 0 (.int .i64 p) rfl
  ⟨(s.s.far s.bv s.nv s.lv 0 _).far b1 s.nv s.lv 1 _, blk_put b1 1 _ rfl, s.lv, s.nv⟩
end
def fleuronref08_both.T10 : Bool × List (List Nat × List Nat) := (true, [([], []), ([], []), ([1], [1]), ([], []), ([2, 3], [2, 3]), ([], []), ([5], [5]), ([], []), ([6, 7, 4], [6, 7]), ([0, 4, 8, 8], [0, 4, 8]), ([9], [9]), ([10], [10]), ([10], [10]), ([], []), ([13, 11, 9, 0, 1, 2, 3, 4, 5, 6, 7, 8, 9, 10, 11, 13], [11, 13]), ([12, 14, 0, 1, 2, 3, 4, 5, 6, 7, 8, 9, 10, 11, 12, 13, 14], [12])])
def fleuronref08_both.B10 : List Nat := [0, 0, 2, 0, 14, 0, 32, 0, 254, 511, 1023, 2047, 2047, 0, 12287, 32767]
theorem fleuronref08_both.tab10 : rtab .any (opsOf Tryz.f43 10) = fleuronref08_both.T10 := by kernel_rfl
theorem fleuronref08_both.bits10 : waitsOk fleuronref08_both.T10.2 fleuronref08_both.B10 = true := by kernel_rfl
set_option maxHeartbeats 8000000 in
set_option maxRecDepth 100000 in
theorem fleuronref08_both.calls (k : Nat) (a0 : ByteArray) (a1_0 a1_1 : Int) (A1_2 : Option Addr) (c1_2 : Nat) (l1_2 : List S47) (a2_0 a2_1 : Int) (A2_2 : Option Addr) (c2_2 : Nat) (l2_2 : List S47) (r1 r2 : Int) (r3 : List S47) (r4 : Int) (w : World) (hr1_2 : Kd.C k47 w A1_2 l1_2.length l1_2) (hc1_2 : l1_2.length ≤ c1_2) (hr2_2 : Kd.C k47 w A2_2 l2_2.length l2_2) (hc2_2 : l2_2.length ≤ c2_2) (h : fleuronref08_both.f k a0 a1_0 a1_1 l1_2 a2_0 a2_1 l2_2 = some (r1, r2, r3, r4)) :
  Calls Tryz.prog 43 #[.string a0, .agg #[.int .i64 a1_0, .int .i64 a1_1, .slice A1_2 l1_2.length c1_2], .agg #[.int .i64 a2_0, .int .i64 a2_1, .slice A2_2 l2_2.length c2_2]] w fun e w' => ∃ v2_ : Value, e = .returned (.tuple #[.agg #[.int .i64 r1, .int .i64 r2, v2_], .int .i64 r4]) ∧ Kd.R k47 47 w' w.heap.size (fun _ => True) v2_ r3 ∧ Below w.heap.size w w' := by
 have hu26 := Tryz.underlying26
 have hu23 := Tryz.underlying23
 have hu47 := Tryz.underlying47
 have hBs : Base w := Base.mk
 have HR1 := Fa.mk hr1_2
 have HC1 := Fa.mk hc1_2
 have HR2 := Fa.mk hr2_2
 have HC2 := Fa.mk hc2_2
 clear hr1_2 hc1_2 hr2_2 hc2_2
 have HB := Fa.mk (Below.refl w.heap.size w)
 have tok1 : True := trivial
 unfold fleuronref08_both.f at h
 split at h
 ·
  cases h
 rename_i hbig
 have HBG : Fa (l1_2.length + l2_2.length < 4398046511104) := ⟨by omega⟩
 clear hbig
 obtain ⟨v1, hv, h⟩ := Option.bind_eq_some_iff.mp h
 have HV1 := Fa.mk hv
 clear hv
 by_cases hvt : v1 = true
 rotate_left
 ·
  rw [if_neg hvt] at h
  obtain rfl : v1 = false := by simpa using hvt
  simp only [Option.some.injEq, Prod.mk.injEq] at h
  obtain ⟨rfl, rfl, rfl, rfl⟩ := h
  clear hvt
  go_enter Tryz.func43, Tryz.ntmps43
  go_wp2_with (first | ((with_reducible refine gate_dst (N := 4) rfl ?_); refine boxF (N := 4) (cs := #[.int .i64 a1_0, .int .i64 a1_1, .slice A1_2 l1_2.length c1_2]) (t := 26) ?_; intro gf hg_gf w1 hx_gf hb_gf; have BF := Fa.mk hx_gf; have HB1 := Fa.mk (bst w hb_gf); clear hg_gf hx_gf hb_gf HB; have HB := HB1; clear HB1) | ((with_reducible refine gate_dst (N := 5) rfl ?_); refine boxF (N := 5) (cs := #[.int .i64 a2_0, .int .i64 a2_1, .slice A2_2 l2_2.length c2_2]) (t := 26) ?_; intro gg hg_gg w2 hx_gg hb_gg; have BG := Fa.mk hx_gg; have BF1 := Fa.mk (blk_below BF.out hb_gg); have HB1 := Fa.mk (bst w hb_gg); clear hg_gg hx_gg hb_gg HB BF; have HB := HB1; have BF := BF1; clear HB1 BF1) | ((with_reducible refine gate_dst (N := 6) rfl ?_); refine boxF (N := 6) (cs := #[.int .i64 0, .int .i64 0, .slice none 0 0]) (t := 26) ?_; intro gr hg_gr w3 hx_gr hb_gr; have SF := Fa.mk (JF.mk (blk_below BF.out hb_gr) (blk_below BG.out hb_gr) hx_gr (below_step HB.out hb_gr) (Nat.le_trans HB.out.size (Nat.le_of_eq hg_gr.symm))); clear hg_gr hx_gr hb_gr HB BF BG; have cf0 := jcell SF.out.bf (i := 0) rfl; have cf1 := jcell SF.out.bf (i := 1) rfl; have cf2 := jcell SF.out.bf (i := 2) rfl) | (go_at_call 18; (with_reducible refine (fleuronref08_Valid.calls k a1_0 a1_1 _ _ l1_2 false _ (Kd.C_below HR1.out SF.out.hb) HC1.out HV1.out).mono ?_); rintro e w4 ⟨rfl, hb⟩; have SF1 := Fa.mk (SF.out.call hb); clear hb SF cf0 cf1 cf2; have SF := SF1; clear SF1; have cf0 := jcell SF.out.bf (i := 0) rfl; have cf1 := jcell SF.out.bf (i := 1) rfl; have cf2 := jcell SF.out.bf (i := 2) rfl; have cg0 := jcell SF.out.bg (i := 0) rfl; have cg1 := jcell SF.out.bg (i := 1) rfl; have cg2 := jcell SF.out.bg (i := 2) rfl; have cr0 := jcell SF.out.br (i := 0) rfl; have cr1 := jcell SF.out.br (i := 1) rfl; have cr2 := jcell SF.out.br (i := 2) rfl; have fr0 := blk_frozen SF.out.br 0; have fr1 := blk_frozen SF.out.br 1; have fr2 := blk_frozen SF.out.br 2))
  refine bodyPost_ret (results_ct rfl _ _ gr 26 #[.int .i64 0, .int .i64 0, .slice none 0 0] (0, 0) _ rfl (SF.out.out (.int .i64 0) (.int .i64 0) (.slice none 0 0)).1 Tryz.underlying26 rfl (by kernel_rfl)) rfl ?_
  exact ⟨_, rfl, Kd.R_nil _ _ _ _ _, (SF.out.out _ _ _).2⟩
 subst hvt
 rw [if_pos rfl] at h
 obtain ⟨v2, hv, h⟩ := Option.bind_eq_some_iff.mp h
 have HV2 := Fa.mk hv
 clear hv
 by_cases hvt : v2 = true
 rotate_left
 ·
  rw [if_neg hvt] at h
  obtain rfl : v2 = false := by simpa using hvt
  simp only [Option.some.injEq, Prod.mk.injEq] at h
  obtain ⟨rfl, rfl, rfl, rfl⟩ := h
  clear hvt
  go_enter Tryz.func43, Tryz.ntmps43
  go_wp2_with (first | ((with_reducible refine gate_dst (N := 4) rfl ?_); refine boxF (N := 4) (cs := #[.int .i64 a1_0, .int .i64 a1_1, .slice A1_2 l1_2.length c1_2]) (t := 26) ?_; intro gf hg_gf w1 hx_gf hb_gf; have BF := Fa.mk hx_gf; have HB1 := Fa.mk (bst w hb_gf); clear hg_gf hx_gf hb_gf HB; have HB := HB1; clear HB1) | ((with_reducible refine gate_dst (N := 5) rfl ?_); refine boxF (N := 5) (cs := #[.int .i64 a2_0, .int .i64 a2_1, .slice A2_2 l2_2.length c2_2]) (t := 26) ?_; intro gg hg_gg w2 hx_gg hb_gg; have BG := Fa.mk hx_gg; have BF1 := Fa.mk (blk_below BF.out hb_gg); have HB1 := Fa.mk (bst w hb_gg); clear hg_gg hx_gg hb_gg HB BF; have HB := HB1; have BF := BF1; clear HB1 BF1) | ((with_reducible refine gate_dst (N := 6) rfl ?_); refine boxF (N := 6) (cs := #[.int .i64 0, .int .i64 0, .slice none 0 0]) (t := 26) ?_; intro gr hg_gr w3 hx_gr hb_gr; have SF := Fa.mk (JF.mk (blk_below BF.out hb_gr) (blk_below BG.out hb_gr) hx_gr (below_step HB.out hb_gr) (Nat.le_trans HB.out.size (Nat.le_of_eq hg_gr.symm))); clear hg_gr hx_gr hb_gr HB BF BG; have cf0 := jcell SF.out.bf (i := 0) rfl; have cf1 := jcell SF.out.bf (i := 1) rfl; have cf2 := jcell SF.out.bf (i := 2) rfl) | (have _t := tok1; go_at_call 18; (with_reducible refine (fleuronref08_Valid.calls k a1_0 a1_1 _ _ l1_2 true _ (Kd.C_below HR1.out SF.out.hb) HC1.out HV1.out).mono ?_); rintro e w4 ⟨rfl, hb⟩; have SF1 := Fa.mk (SF.out.call hb); clear hb SF cf0 cf1 cf2 tok1; have SF := SF1; clear SF1; have cf0 := jcell SF.out.bf (i := 0) rfl; have cf1 := jcell SF.out.bf (i := 1) rfl; have cf2 := jcell SF.out.bf (i := 2) rfl; have cg0 := jcell SF.out.bg (i := 0) rfl; have cg1 := jcell SF.out.bg (i := 1) rfl; have cg2 := jcell SF.out.bg (i := 2) rfl; have cr0 := jcell SF.out.br (i := 0) rfl; have cr1 := jcell SF.out.br (i := 1) rfl; have cr2 := jcell SF.out.br (i := 2) rfl; have fr0 := blk_frozen SF.out.br 0; have fr1 := blk_frozen SF.out.br 1; have fr2 := blk_frozen SF.out.br 2) | (go_at_call 18; (with_reducible refine (fleuronref08_Valid.calls k a2_0 a2_1 _ _ l2_2 false _ (Kd.C_below HR2.out SF.out.hb) HC2.out HV2.out).mono ?_); rintro e w5 ⟨rfl, hb⟩; have SF1 := Fa.mk (SF.out.call hb); clear hb SF cf0 cf1 cf2 cg0 cg1 cg2 cr0 cr1 cr2 fr0 fr1 fr2; have SF := SF1; clear SF1; have cf0 := jcell SF.out.bf (i := 0) rfl; have cf1 := jcell SF.out.bf (i := 1) rfl; have cf2 := jcell SF.out.bf (i := 2) rfl; have cg0 := jcell SF.out.bg (i := 0) rfl; have cg1 := jcell SF.out.bg (i := 1) rfl; have cg2 := jcell SF.out.bg (i := 2) rfl; have cr0 := jcell SF.out.br (i := 0) rfl; have cr1 := jcell SF.out.br (i := 1) rfl; have cr2 := jcell SF.out.br (i := 2) rfl; have fr0 := blk_frozen SF.out.br 0; have fr1 := blk_frozen SF.out.br 1; have fr2 := blk_frozen SF.out.br 2))
  refine bodyPost_ret (results_ct rfl _ _ gr 26 #[.int .i64 0, .int .i64 0, .slice none 0 0] (0, 0) _ rfl (SF.out.out (.int .i64 0) (.int .i64 0) (.slice none 0 0)).1 Tryz.underlying26 rfl (by kernel_rfl)) rfl ?_
  exact ⟨_, rfl, Kd.R_nil _ _ _ _ _, (SF.out.out _ _ _).2⟩
 subst hvt
 rw [if_pos rfl] at h
 obtain ⟨⟨n1, n2, n3⟩, hn, h⟩ := Option.bind_eq_some_iff.mp h
 have HN := Fa.mk hn
 clear hn
 dsimp only at h
 by_cases hn3 : n3 = 0
 rotate_left
 ·
  rw [if_neg hn3] at h
  simp only [Option.some.injEq, Prod.mk.injEq] at h
  obtain ⟨rfl, rfl, rfl, rfl⟩ := h
  have d0 : (n3 != 0) = true := bne_iff_ne.mpr hn3
  have d1 : (n3 == 0) = false := beq_eq_false_iff_ne.mpr hn3
  clear hn3
  go_enter Tryz.func43, Tryz.ntmps43
  go_wp2_with (first | ((with_reducible refine gate_dst (N := 4) rfl ?_); refine boxF (N := 4) (cs := #[.int .i64 a1_0, .int .i64 a1_1, .slice A1_2 l1_2.length c1_2]) (t := 26) ?_; intro gf hg_gf w1 hx_gf hb_gf; have BF := Fa.mk hx_gf; have HB1 := Fa.mk (bst w hb_gf); clear hg_gf hx_gf hb_gf HB; have HB := HB1; clear HB1) | ((with_reducible refine gate_dst (N := 5) rfl ?_); refine boxF (N := 5) (cs := #[.int .i64 a2_0, .int .i64 a2_1, .slice A2_2 l2_2.length c2_2]) (t := 26) ?_; intro gg hg_gg w2 hx_gg hb_gg; have BG := Fa.mk hx_gg; have BF1 := Fa.mk (blk_below BF.out hb_gg); have HB1 := Fa.mk (bst w hb_gg); clear hg_gg hx_gg hb_gg HB BF; have HB := HB1; have BF := BF1; clear HB1 BF1) | ((with_reducible refine gate_dst (N := 6) rfl ?_); refine boxF (N := 6) (cs := #[.int .i64 0, .int .i64 0, .slice none 0 0]) (t := 26) ?_; intro gr hg_gr w3 hx_gr hb_gr; have SF := Fa.mk (JF.mk (blk_below BF.out hb_gr) (blk_below BG.out hb_gr) hx_gr (below_step HB.out hb_gr) (Nat.le_trans HB.out.size (Nat.le_of_eq hg_gr.symm))); clear hg_gr hx_gr hb_gr HB BF BG; have cf0 := jcell SF.out.bf (i := 0) rfl; have cf1 := jcell SF.out.bf (i := 1) rfl; have cf2 := jcell SF.out.bf (i := 2) rfl) | (have _t := tok1; go_at_call 18; (with_reducible refine (fleuronref08_Valid.calls k a1_0 a1_1 _ _ l1_2 true _ (Kd.C_below HR1.out SF.out.hb) HC1.out HV1.out).mono ?_); rintro e w4 ⟨rfl, hb⟩; have SF1 := Fa.mk (SF.out.call hb); clear hb SF cf0 cf1 cf2 tok1; have SF := SF1; clear SF1; have cf0 := jcell SF.out.bf (i := 0) rfl; have cf1 := jcell SF.out.bf (i := 1) rfl; have cf2 := jcell SF.out.bf (i := 2) rfl; have cg0 := jcell SF.out.bg (i := 0) rfl; have cg1 := jcell SF.out.bg (i := 1) rfl; have cg2 := jcell SF.out.bg (i := 2) rfl; have cr0 := jcell SF.out.br (i := 0) rfl; have cr1 := jcell SF.out.br (i := 1) rfl; have cr2 := jcell SF.out.br (i := 2) rfl; have fr0 := blk_frozen SF.out.br 0; have fr1 := blk_frozen SF.out.br 1; have fr2 := blk_frozen SF.out.br 2) | (go_at_call 18; (with_reducible refine (fleuronref08_Valid.calls k a2_0 a2_1 _ _ l2_2 true _ (Kd.C_below HR2.out SF.out.hb) HC2.out HV2.out).mono ?_); rintro e w5 ⟨rfl, hb⟩; have SF1 := Fa.mk (SF.out.call hb); clear hb SF cf0 cf1 cf2 cg0 cg1 cg2 cr0 cr1 cr2 fr0 fr1 fr2; have SF := SF1; clear SF1; have cf0 := jcell SF.out.bf (i := 0) rfl; have cf1 := jcell SF.out.bf (i := 1) rfl; have cf2 := jcell SF.out.bf (i := 2) rfl; have cg0 := jcell SF.out.bg (i := 0) rfl; have cg1 := jcell SF.out.bg (i := 1) rfl; have cg2 := jcell SF.out.bg (i := 2) rfl; have cr0 := jcell SF.out.br (i := 0) rfl; have cr1 := jcell SF.out.br (i := 1) rfl; have cr2 := jcell SF.out.br (i := 2) rfl; have fr0 := blk_frozen SF.out.br 0; have fr1 := blk_frozen SF.out.br 1; have fr2 := blk_frozen SF.out.br 2) | (go_at_call 57; (with_reducible refine (fleuronref01_Near.calls k a0 a1_0 a1_1 a2_0 a2_1 n1 n2 n3 _ HN.out).mono ?_); rintro e w6 ⟨rfl, hb⟩; have SF1 := Fa.mk (SF.out.call hb); clear hb SF cf0 cf1 cf2 cg0 cg1 cg2 cr0 cr1 cr2 fr0 fr1 fr2; have SF := SF1; clear SF1; have cf0 := jcell SF.out.bf (i := 0) rfl; have cf1 := jcell SF.out.bf (i := 1) rfl; have cf2 := jcell SF.out.bf (i := 2) rfl; have cg0 := jcell SF.out.bg (i := 0) rfl; have cg1 := jcell SF.out.bg (i := 1) rfl; have cg2 := jcell SF.out.bg (i := 2) rfl; have cr0 := jcell SF.out.br (i := 0) rfl; have cr1 := jcell SF.out.br (i := 1) rfl; have cr2 := jcell SF.out.br (i := 2) rfl; have fr0 := blk_frozen SF.out.br 0; have fr1 := blk_frozen SF.out.br 1; have fr2 := blk_frozen SF.out.br 2) | ((with_reducible refine gate_dst (N := 8) rfl ?_); refine boxF (N := 8) (cs := #[.int .i64 0, .int .i64 0]) (t := 23) ?_; intro gc hg_gc w7 hx_gc hb_gc; have KC := Fa.mk hg_gc; have KB := Fa.mk hb_gc; have BC := Fa.mk hx_gc; have SFc := Fa.mk (SF.out.call hb_gc); clear hg_gc hx_gc hb_gc cf0 cf1 cf2 cg0 cg1 cg2 cr0 cr1 cr2 fr0 fr1 fr2; have cc0 := jcell BC.out (i := 0) rfl; have cc1 := jcell BC.out (i := 1) rfl; have fc0 := blk_frozen BC.out 0; have fc1 := blk_frozen BC.out 1; have hn1 := blk_ne SFc.out.br BC.out (by decide); have hn2 := hn1.symm; have cr0 := jcell SFc.out.br (i := 0) rfl; have cr1 := jcell SFc.out.br (i := 1) rfl; have cr2 := jcell SFc.out.br (i := 2) rfl; have fr0 := blk_frozen SFc.out.br 0; have fr1 := blk_frozen SFc.out.br 1; have fr2 := blk_frozen SFc.out.br 2))
  have SZ : JF w gf gg gr _ _ ((w7.setCell ⟨gc, 0, none⟩ (.int .i64 n1)).setCell ⟨gc, 1, none⟩ (.int .i64 n2)) := ⟨blk_far (blk_far SFc.out.bf (p := ⟨gc, 0, none⟩) (blk_ne SFc.out.bf BC.out (by decide)) _) (p := ⟨gc, 1, none⟩) (blk_ne SFc.out.bf BC.out (by decide)) _, blk_far (blk_far SFc.out.bg (p := ⟨gc, 0, none⟩) (blk_ne SFc.out.bg BC.out (by decide)) _) (p := ⟨gc, 1, none⟩) (blk_ne SFc.out.bg BC.out (by decide)) _, blk_far (blk_far SFc.out.br (p := ⟨gc, 0, none⟩) hn1 _) (p := ⟨gc, 1, none⟩) hn1 _, below_set (below_set SFc.out.hb (by rw [KC.out]; exact SF.out.hb.size)) (by rw [KC.out]; exact SF.out.hb.size), SFc.out.lr⟩
  refine bodyPost_ret (results_ct rfl _ _ gr 26 #[.int .i64 0, .int .i64 0, .slice none 0 0] (0, 0) _ rfl (SZ.out (.int .i64 0) (.int .i64 0) (.slice none 0 0)).1 Tryz.underlying26 rfl (by kernel_rfl)) rfl ?_
  exact ⟨_, rfl, Kd.R_nil _ _ _ _ _, (SZ.out _ _ _).2⟩
 subst hn3
 rw [if_pos rfl] at h
 obtain ⟨ns, hns, h⟩ := Option.bind_eq_some_iff.mp h
 have HNS := Fa.mk hns
 clear hns
 split at h
 rotate_left
 ·
  cases h
 rename_i hnl
 have HNL : Fa (ns.length < 4398046511104) := ⟨hnl⟩
 clear hnl
 obtain ⟨res, hj, h⟩ := Option.bind_eq_some_iff.mp h
 have HJ := Fa.mk hj
 have HF := Fa.mk (Option.some.inj h)
 clear hj h
 go_enter Tryz.func43, Tryz.ntmps43
 go_upto_region 7 with (first | ((with_reducible refine gate_dst (N := 4) rfl ?_); refine boxF (N := 4) (cs := #[.int .i64 a1_0, .int .i64 a1_1, .slice A1_2 l1_2.length c1_2]) (t := 26) ?_; intro gf hg_gf w1 hx_gf hb_gf; have BF := Fa.mk hx_gf; have HB1 := Fa.mk (bst w hb_gf); clear hg_gf hx_gf hb_gf HB; have HB := HB1; clear HB1) | ((with_reducible refine gate_dst (N := 5) rfl ?_); refine boxF (N := 5) (cs := #[.int .i64 a2_0, .int .i64 a2_1, .slice A2_2 l2_2.length c2_2]) (t := 26) ?_; intro gg hg_gg w2 hx_gg hb_gg; have BG := Fa.mk hx_gg; have BF1 := Fa.mk (blk_below BF.out hb_gg); have HB1 := Fa.mk (bst w hb_gg); clear hg_gg hx_gg hb_gg HB BF; have HB := HB1; have BF := BF1; clear HB1 BF1) | ((with_reducible refine gate_dst (N := 6) rfl ?_); refine boxF (N := 6) (cs := #[.int .i64 0, .int .i64 0, .slice none 0 0]) (t := 26) ?_; intro gr hg_gr w3 hx_gr hb_gr; have SF := Fa.mk (JF.mk (blk_below BF.out hb_gr) (blk_below BG.out hb_gr) hx_gr (below_step HB.out hb_gr) (Nat.le_trans HB.out.size (Nat.le_of_eq hg_gr.symm))); clear hg_gr hx_gr hb_gr HB BF BG; have cf0 := jcell SF.out.bf (i := 0) rfl; have cf1 := jcell SF.out.bf (i := 1) rfl; have cf2 := jcell SF.out.bf (i := 2) rfl) | (have _t := tok1; go_at_call 18; (with_reducible refine (fleuronref08_Valid.calls k a1_0 a1_1 _ _ l1_2 true _ (Kd.C_below HR1.out SF.out.hb) HC1.out HV1.out).mono ?_); rintro e w4 ⟨rfl, hb⟩; have SF1 := Fa.mk (SF.out.call hb); clear hb SF cf0 cf1 cf2 tok1; have SF := SF1; clear SF1; have cf0 := jcell SF.out.bf (i := 0) rfl; have cf1 := jcell SF.out.bf (i := 1) rfl; have cf2 := jcell SF.out.bf (i := 2) rfl; have cg0 := jcell SF.out.bg (i := 0) rfl; have cg1 := jcell SF.out.bg (i := 1) rfl; have cg2 := jcell SF.out.bg (i := 2) rfl; have cr0 := jcell SF.out.br (i := 0) rfl; have cr1 := jcell SF.out.br (i := 1) rfl; have cr2 := jcell SF.out.br (i := 2) rfl; have fr0 := blk_frozen SF.out.br 0; have fr1 := blk_frozen SF.out.br 1; have fr2 := blk_frozen SF.out.br 2) | (go_at_call 18; (with_reducible refine (fleuronref08_Valid.calls k a2_0 a2_1 _ _ l2_2 true _ (Kd.C_below HR2.out SF.out.hb) HC2.out HV2.out).mono ?_); rintro e w5 ⟨rfl, hb⟩; have SF1 := Fa.mk (SF.out.call hb); clear hb SF cf0 cf1 cf2 cg0 cg1 cg2 cr0 cr1 cr2 fr0 fr1 fr2; have SF := SF1; clear SF1; have cf0 := jcell SF.out.bf (i := 0) rfl; have cf1 := jcell SF.out.bf (i := 1) rfl; have cf2 := jcell SF.out.bf (i := 2) rfl; have cg0 := jcell SF.out.bg (i := 0) rfl; have cg1 := jcell SF.out.bg (i := 1) rfl; have cg2 := jcell SF.out.bg (i := 2) rfl; have cr0 := jcell SF.out.br (i := 0) rfl; have cr1 := jcell SF.out.br (i := 1) rfl; have cr2 := jcell SF.out.br (i := 2) rfl; have fr0 := blk_frozen SF.out.br 0; have fr1 := blk_frozen SF.out.br 1; have fr2 := blk_frozen SF.out.br 2) | (go_at_call 57; (with_reducible refine (fleuronref01_Near.calls k a0 a1_0 a1_1 a2_0 a2_1 n1 n2 0 _ HN.out).mono ?_); rintro e w6 ⟨rfl, hb⟩; have SF1 := Fa.mk (SF.out.call hb); clear hb SF cf0 cf1 cf2 cg0 cg1 cg2 cr0 cr1 cr2 fr0 fr1 fr2; have SF := SF1; clear SF1; have cf0 := jcell SF.out.bf (i := 0) rfl; have cf1 := jcell SF.out.bf (i := 1) rfl; have cf2 := jcell SF.out.bf (i := 2) rfl; have cg0 := jcell SF.out.bg (i := 0) rfl; have cg1 := jcell SF.out.bg (i := 1) rfl; have cg2 := jcell SF.out.bg (i := 2) rfl; have cr0 := jcell SF.out.br (i := 0) rfl; have cr1 := jcell SF.out.br (i := 1) rfl; have cr2 := jcell SF.out.br (i := 2) rfl; have fr0 := blk_frozen SF.out.br 0; have fr1 := blk_frozen SF.out.br 1; have fr2 := blk_frozen SF.out.br 2) | ((with_reducible refine gate_dst (N := 8) rfl ?_); refine boxF (N := 8) (cs := #[.int .i64 0, .int .i64 0]) (t := 23) ?_; intro gc hg_gc w7 hx_gc hb_gc; have KC := Fa.mk hg_gc; have KB := Fa.mk hb_gc; have BC := Fa.mk hx_gc; have SFc := Fa.mk (SF.out.call hb_gc); clear hg_gc hx_gc hb_gc cf0 cf1 cf2 cg0 cg1 cg2 cr0 cr1 cr2 fr0 fr1 fr2; have cc0 := jcell BC.out (i := 0) rfl; have cc1 := jcell BC.out (i := 1) rfl; have fc0 := blk_frozen BC.out 0; have fc1 := blk_frozen BC.out 1; have hn1 := blk_ne SFc.out.br BC.out (by decide); have hn2 := hn1.symm; have cr0 := jcell SFc.out.br (i := 0) rfl; have cr1 := jcell SFc.out.br (i := 1) rfl; have cr2 := jcell SFc.out.br (i := 2) rfl; have fr0 := blk_frozen SFc.out.br 0; have fr1 := blk_frozen SFc.out.br 1; have fr2 := blk_frozen SFc.out.br 2) | ((with_reducible refine gate_dst (N := 10) rfl ?_); refine boxF (N := 10) (cs := #[.int .i64 0, .int .i64 0, .slice none 0 0]) (t := 26) ?_; intro go hg_go w8 hx_go hb_go; have NF : Fa (gf ≠ go) := ⟨by rw [hg_go]; exact Nat.ne_of_lt (blk_lt (blk_far (blk_far SFc.out.bf (p := ⟨gc, 0, none⟩) (blk_ne SFc.out.bf BC.out (by decide)) _) (p := ⟨gc, 1, none⟩) (blk_ne SFc.out.bf BC.out (by decide)) _))⟩; have NG : Fa (gg ≠ go) := ⟨by rw [hg_go]; exact Nat.ne_of_lt (blk_lt (blk_far (blk_far SFc.out.bg (p := ⟨gc, 0, none⟩) (blk_ne SFc.out.bg BC.out (by decide)) _) (p := ⟨gc, 1, none⟩) (blk_ne SFc.out.bg BC.out (by decide)) _))⟩; have SS := Fa.mk (JS.start (p := n1) (q := n2) SF.out KC.out KB.out BC.out hg_go hb_go hx_go); have co0 := jcell hx_go (i := 0) rfl; have co1 := jcell hx_go (i := 1) rfl; have co2 := jcell hx_go (i := 2) rfl; have fo0 := blk_frozen hx_go 0; have fo1 := blk_frozen hx_go 1; have fo2 := blk_frozen hx_go 2; clear hg_go hb_go hx_go cc0 cc1 fc0 fc1 hn1 hn2 cr0 cr1 cr2 fr0 fr1 fr2 SFc))
 obtain ⟨S0, hf0, hg0⟩ := SS.out
 generalize hW_ : (((w8.setCell ⟨go, 0, none⟩ (.int .i64 n1)).setCell ⟨go, 1, none⟩ (.int .i64 n2)).setCell ⟨go, 2, none⟩ (.slice none 0 0)) = w9 at S0 hf0 hg0 ⊢
 have S1 := Fa.mk S0
 have BF1 := Fa.mk hf0
 have BG1 := Fa.mk hg0
 have hx0 := jcell hf0 (i := 2) rfl
 have hx1 := jcell hg0 (i := 2) rfl
 clear hW_ S0 hf0 hg0 SS co0 co1 co2 fo0 fo1 fo2 SF KC KB BC
 have HRA := Fa.mk (Kd.C_below HR1.out S1.out.hb)
 have HRB := Fa.mk (Kd.C_below HR2.out S1.out.hb)
 go_wp2_with ((go_at_call 78; (with_reducible refine (fleuronref08_names.calls A1_2 c1_2 l1_2 A2_2 c2_2 l2_2 ns _ HRA.out HC1.out HRB.out HC2.out HNS.out).mono ?_); rintro e w10 ⟨vn, rfl, ho, hb⟩; obtain ⟨An, cn, hvn⟩ := Kd.R_slice ho; subst hvn; have S := Fa.mk (show US w gf gg gr gc go #[.int .i64 a1_0, .int .i64 a1_1, .slice A1_2 l1_2.length c1_2] #[.int .i64 a2_0, .int .i64 a2_1, .slice A2_2 l2_2.length c2_2] #[.int .i64 n1, .int .i64 n2] n1 n2 (.slice An ns.length cn) ns (.slice none 0 0) [] w10 from ⟨S1.out.call hb, blk_below BF1.out hb, blk_below BG1.out hb, Kd.R_lower ho S1.out.hb.size, NF.out, NG.out⟩); clear ho hb hx0 hx1 S1 BF1 BG1 NF NG HRA HRB))
 go_loopw [45] (fun v45 W => ∃ (x : Int) (ov : Value) (out : List S47), v45 = .int .i64 x ∧ 0 ≤ x ∧ x ≤ (ns.length : Int) ∧ out.length ≤ x.toNat ∧ Fa (bgo k a0 l1_2 l2_2 (ns.drop x.toNat) out = some res) ∧ Fa (US w gf gg gr gc go #[.int .i64 a1_0, .int .i64 a1_1, .slice A1_2 l1_2.length c1_2] #[.int .i64 a2_0, .int .i64 a2_1, .slice A2_2 l2_2.length c2_2] #[.int .i64 n1, .int .i64 n2] n1 n2 (.slice An ns.length cn) ns ov out W)) (fun v45 _ => ns.length - iix v45)
 case atStart => exact ⟨0, _, [], rfl, by omega, by omega, Nat.le_refl _, HJ, S⟩
 case round =>
  clear S HJ
  obtain ⟨x, ov, out, rfl, h0, hle, hol, HJ, S⟩ := hrel
  by_cases hlt : x < (ns.length : Int)
  rotate_left
  ·
   have dw : decide (x < (ns.length : Int)) = false := decide_eq_false hlt
   have hres : res = (out, 0) := by
    have hJ := HJ.out
    rw [List.drop_eq_nil_of_le (by omega)] at hJ
    unfold bgo at hJ
    exact (Option.some.inj hJ).symm
   subst hres
   clear HJ hlt hle h0
   have hF := HF.out
   unfold jend at hF
   rw [if_pos rfl] at hF
   dsimp only at hF
   clear HF
   obtain ⟨Ao, co, hvo⟩ := Kd.R_slice S.out.s.ro
   subst hvo
   have co0 := jcell S.out.s.bo (i := 0) rfl
   have co1 := jcell S.out.s.bo (i := 1) rfl
   have co2 := jcell S.out.s.bo (i := 2) rfl
   have cr0 := jcell S.out.s.br (i := 0) rfl
   have cr1 := jcell S.out.s.br (i := 1) rfl
   have cr2 := jcell S.out.s.br (i := 2) rfl
   have fr0 := blk_frozen S.out.s.br 0
   have fr1 := blk_frozen S.out.s.br 1
   have fr2 := blk_frozen S.out.s.br 2
   have hn1 := S.out.s.nro
   have hn2 := hn1.symm
   by_cases h60 : (out.length : Int) > 60
   ·
    rw [if_pos h60] at hF
    simp only [Prod.mk.injEq] at hF
    obtain ⟨rfl, rfl, rfl, rfl⟩ := hF
    have d0 : decide (60 < (out.length : Int)) = true := decide_eq_true (by omega)
    have d1 : decide (60 < out.length) = true := decide_eq_true (by omega)
    go_wp2
    refine bodyPost_ret (results_ct rfl _ _ gr 26 #[.int .i64 0, .int .i64 0, .slice none 0 0] (0, 0) _ rfl (S.out.s.outs (.int .i64 0) (.int .i64 0) (.slice none 0 0)).1 Tryz.underlying26 rfl (by kernel_rfl)) rfl ?_
    exact ⟨_, rfl, Kd.R_nil _ _ _ _ _, (S.out.s.outs _ _ _).2.1⟩
   ·
    rw [if_neg h60] at hF
    simp only [Prod.mk.injEq] at hF
    obtain ⟨rfl, rfl, rfl, rfl⟩ := hF
    have d0 : decide (60 < (out.length : Int)) = false := decide_eq_false (by omega)
    have d1 : decide (60 < out.length) = false := decide_eq_false (by omega)
    go_wp2
    refine bodyPost_ret (results_ct rfl _ _ gr 26 #[.int .i64 n1, .int .i64 n2, .slice Ao out.length co] (0, 0) _ rfl (S.out.s.outs (.int .i64 n1) (.int .i64 n2) (.slice Ao out.length co)).1 Tryz.underlying26 rfl (by kernel_rfl)) rfl ?_
    exact ⟨_, rfl, (S.out.s.outs _ _ _).2.2, (S.out.s.outs _ _ _).2.1⟩
  have dw : decide (x < (ns.length : Int)) = true := decide_eq_true hlt
  obtain ⟨ad, rfl, hX⟩ := bati (Kd.R_reads' S.out.rn).2.2 x h0 hlt
  have cx0 := hX _ (Below.refl _ _)
  clear hX
  have hJ := HJ.out
  clear HJ
  rw [drop_rdB h0 hlt] at hJ
  unfold bgo at hJ
  have HXN : Fa (0 ≤ wrap64 (x + 1) ∧ wrap64 (x + 1) ≤ (ns.length : Int) ∧ (wrap64 (x + 1)).toNat = x.toNat + 1) := ⟨by have := HNL.out; unfold wrap64; omega⟩
  have HOL : Fa (out.length ≤ x.toNat) := ⟨hol⟩
  have HLT : Fa (x.toNat < ns.length) := ⟨by omega⟩
  obtain ⟨nm, hnm⟩ : ∃ t, t = rdB ns x := ⟨_, rfl⟩
  rw [← hnm] at hJ cx0
  obtain ⟨⟨u1, u2⟩, hu, hJ⟩ := Option.bind_eq_some_iff.mp hJ
  dsimp only at hJ
  obtain ⟨⟨t1, t2⟩, ht, hJ⟩ := Option.bind_eq_some_iff.mp hJ
  dsimp only at hJ
  obtain ⟨⟨v1, v2, v3⟩, hv, hJ⟩ := Option.bind_eq_some_iff.mp hJ
  dsimp only at hv hJ
  have HU := Fa.mk hu
  have HT := Fa.mk ht
  have HV := Fa.mk hv
  have HJ := Fa.mk hJ
  clear hu ht hv hJ hnm hol hle
  have p0 := eq_true h0
  have q0 := eq_true hlt
  go_upto_region 10 with (fail)
  clear cx0 p0 q0 h0 hlt
  refine startU 16 (S := US w gf gg gr gc go #[.int .i64 a1_0, .int .i64 a1_1, .slice A1_2 l1_2.length c1_2] #[.int .i64 a2_0, .int .i64 a2_1, .slice A2_2 l2_2.length c2_2] #[.int .i64 n1, .int .i64 n2] n1 n2 (.slice (some ad) ns.length cn) ns ov out) (ds := []) S.out.drew (fun hHeld => ?_); refine with_tabW fleuronref08_both.tab10 fleuronref08_both.bits10 (fun HT_ HW_ => ?_)
  clear S
  generalize World.drew _ = wd at hHeld ⊢
  refine pureU 0 (some 50) (upto 16 1) HT_ ?_
  refine pureU 1 (some 51) (upto 16 2) HT_ ?_
  refine pureU 3 (some 53) #[true, true, false, true, false, false, false, false, false, false, false, false, false, false, false, false] HT_ ?_
  refine pureU 5 (some 55) #[true, true, false, true, false, true, false, false, false, false, false, false, false, false, false, false] HT_ ?_
  refine pureU 7 (some 57) #[true, true, false, true, false, true, false, true, false, false, false, false, false, false, false, false] HT_ ?_
  refine takeU 2 (some 52) #[true, true, true, true, false, true, false, true, false, false, false, false, false, false, false, false] HT_ HW_ hHeld rfl (by intro w' s_; have c2 := jcell s_.bf (i := 2) rfl; clear s_; go_simp; with_reducible rfl) ?_
  refine takeU 6 (some 56) #[true, true, true, true, false, true, true, true, false, false, false, false, false, false, false, false] HT_ HW_ hHeld rfl (by intro w' s_; have c2 := jcell s_.bg (i := 2) rfl; clear s_; go_simp; with_reducible rfl) ?_
  refine join_ (σ := Nat) 2 (upto 16 14) (fun s_ => [(54, .agg #[.int .i64 u1, .int .i64 u2]), (58, .agg #[.int .i64 t1, .int .i64 t2]), (59, .tuple #[.agg #[.int .i64 v1, .int .i64 v2], .int .i64 v3]), (49, .tuple #[.agg #[.int .i64 v1, .int .i64 v2], .int .i64 v3]), (60, .agg #[.int .i64 v1, .int .i64 v2]), (61, .int .i64 v3), (13, .pointer (some ⟨s_, 0, none⟩))]) (fun s_ w' => UV w gf gg gr gc go s_ #[.int .i64 a1_0, .int .i64 a1_1, .slice A1_2 l1_2.length c1_2] #[.int .i64 a2_0, .int .i64 a2_1, .slice A2_2 l2_2.length c2_2] #[.int .i64 n1, .int .i64 n2] n1 n2 (.slice (some ad) ns.length cn) ns ov out 0 0 w') ?_ ?_
  rotate_left
  ·
   intro hCont
   refine two_ (i := 4) (j := 13) (Ni := some 54) (Nj := some 13) (upto 16 8) #[true, true, true, true, false, true, true, true, false, false, false, false, false, true, false, false] rfl rfl rfl rfl (two_of HT_.out (by kernel_rfl)) (by decide) (by decide) (fun K hK => ?_) (fun K hK => ?_)
   ·
    refine goes_ Tryz.func58 (by kernel_rfl) rfl #[.slice A1_2 l1_2.length c1_2, .string nm] (by rfl) rfl rfl (by (try simp only [List.map_toArray, List.map_cons, List.map_nil]); first | done | rfl) ?_
    refine (fleuronref08_coef.calls k A1_2 c1_2 l1_2 nm u1 u2 _ (Kd.C_below HR1.out hHeld.s.hb) HC1.out HU.out).mono ?_
    rintro e wc ⟨rfl, hb⟩
    refine ⟨_, rfl, ?_⟩
    have H1 := hHeld.call hb
    refine hK.out _ _ H1 (fun hHeld1 => ?_)
    clear hK K hb hHeld H1
    have hHeld := hHeld1
    clear hHeld1
    refine normU (some 54) ?_
    refine two_ (i := 8) (j := 13) (Ni := some 58) (Nj := some 13) (upto 16 9) #[true, true, true, true, true, true, true, true, false, false, false, false, false, true, false, false] rfl rfl rfl rfl (two_of HT_.out (by kernel_rfl)) (by decide) (by decide) (fun K hK => ?_) (fun K hK => ?_)
    ·
     refine goes_ Tryz.func58 (by kernel_rfl) rfl #[.slice A2_2 l2_2.length c2_2, .string nm] (by rfl) rfl rfl (by (try simp only [List.map_toArray, List.map_cons, List.map_nil]); first | done | rfl) ?_
     refine (fleuronref08_coef.calls k A2_2 c2_2 l2_2 nm t1 t2 _ (Kd.C_below HR2.out hHeld.s.hb) HC2.out HT.out).mono ?_
     rintro e wc ⟨rfl, hb⟩
     refine ⟨_, rfl, ?_⟩
     have H1 := hHeld.call hb
     refine hK.out _ _ H1 (fun hHeld1 => ?_)
     clear hK K hb hHeld H1
     have hHeld := hHeld1
     clear hHeld1
     refine normU (some 58) ?_
     refine two_ (i := 9) (j := 13) (Ni := some 59) (Nj := some 13) (upto 16 10) #[true, true, true, true, true, true, true, true, true, false, false, false, false, true, false, false] rfl rfl rfl rfl (two_of HT_.out (by kernel_rfl)) (by decide) (by decide) (fun K hK => ?_) (fun K hK => ?_)
     ·
      refine goes_ Tryz.func57 (by kernel_rfl) rfl #[.string a0, .agg #[.int .i64 u1, .int .i64 u2], .agg #[.int .i64 t1, .int .i64 t2]] (by rfl) rfl rfl (by (try simp only [List.map_toArray, List.map_cons, List.map_nil]); first | done | rfl) ?_
      refine (fleuronref01_Near.calls k a0 u1 u2 t1 t2 v1 v2 v3 _ HV.out).mono ?_
      rintro e wn ⟨rfl, hb⟩
      refine ⟨_, rfl, ?_⟩
      have H1 := hHeld.call hb
      refine hK.out _ _ H1 (fun hHeld1 => ?_)
      clear hK K hb hHeld H1
      have hHeld := hHeld1
      clear hHeld1
      refine normU (some 59) ?_
      refine pureU 10 (some 49) (upto 16 11) HT_ ?_
      refine pureU 11 (some 60) (upto 16 12) HT_ ?_
      refine pureU 12 (some 61) (upto 16 13) HT_ ?_
      refine oneU 13 (some 13) (upto 16 14) HT_ (fun K hK => ?_)
      refine box_step ?hg (N := 13) ?hd (cs := #[.int .i64 0, .int .i64 0]) (t := 23) ?hr ?_; (case hd => rfl); (case hg => rfl); (case hr => first | (go_simp; done) | (go_simp; rfl))
      intro gv hg wv hx hb
      have Q := UV.new hHeld hg hb hx
      refine hK.out _ _ Q.s (fun hHeld1 => ?_)
      clear hK K hg hx hb hHeld hHeld1
      refine normU (some 13) ?_
      exact norm_ (by simp only [putAll, Act.put, List.setIfInBounds_toArray, List.set_cons_zero, List.set_cons_succ]) (hCont gv _ Q)
     ·
      refine box_step ?hg (N := 13) ?hd (cs := #[.int .i64 0, .int .i64 0]) (t := 23) ?hr ?_; (case hd => rfl); (case hg => rfl); (case hr => first | (go_simp; done) | (go_simp; rfl))
      intro gv hg wv hx hb
      have Q := UV.new hHeld hg hb hx
      refine hK.out _ _ Q.s (fun hHeld1 => ?_)
      clear hK K hg hx hb hHeld hHeld1
      refine normU (some 13) ?_
      refine oneU 9 (some 59) #[true, true, true, true, true, true, true, true, true, true, false, false, false, true, false, false] HT_ (fun K hK => ?_)
      refine goes_ Tryz.func57 (by kernel_rfl) rfl #[.string a0, .agg #[.int .i64 u1, .int .i64 u2], .agg #[.int .i64 t1, .int .i64 t2]] (by rfl) rfl rfl (by (try simp only [List.map_toArray, List.map_cons, List.map_nil]); first | done | rfl) ?_
      refine (fleuronref01_Near.calls k a0 u1 u2 t1 t2 v1 v2 v3 _ HV.out).mono ?_
      rintro e wn ⟨rfl, hb⟩
      refine ⟨_, rfl, ?_⟩
      have Q1 := Q.call hb
      refine hK.out _ _ Q1.s (fun hHeld1 => ?_)
      clear hK K hb Q hHeld1
      have Q := Q1
      clear Q1
      refine normU (some 59) ?_
      refine pureU 10 (some 49) #[true, true, true, true, true, true, true, true, true, true, true, false, false, true, false, false] HT_ ?_
      refine pureU 11 (some 60) #[true, true, true, true, true, true, true, true, true, true, true, true, false, true, false, false] HT_ ?_
      refine pureU 12 (some 61) (upto 16 14) HT_ ?_
      exact norm_ (by simp only [putAll, Act.put, List.setIfInBounds_toArray, List.set_cons_zero, List.set_cons_succ]) (hCont gv _ Q)
    ·
     refine box_step ?hg (N := 13) ?hd (cs := #[.int .i64 0, .int .i64 0]) (t := 23) ?hr ?_; (case hd => rfl); (case hg => rfl); (case hr => first | (go_simp; done) | (go_simp; rfl))
     intro gv hg wv hx hb
     have Q := UV.new hHeld hg hb hx
     refine hK.out _ _ Q.s (fun hHeld1 => ?_)
     clear hK K hg hx hb hHeld hHeld1
     refine normU (some 13) ?_
     refine oneU 8 (some 58) #[true, true, true, true, true, true, true, true, true, false, false, false, false, true, false, false] HT_ (fun K hK => ?_)
     refine goes_ Tryz.func58 (by kernel_rfl) rfl #[.slice A2_2 l2_2.length c2_2, .string nm] (by rfl) rfl rfl (by (try simp only [List.map_toArray, List.map_cons, List.map_nil]); first | done | rfl) ?_
     refine (fleuronref08_coef.calls k A2_2 c2_2 l2_2 nm t1 t2 _ (Kd.C_below HR2.out Q.s.s.hb) HC2.out HT.out).mono ?_
     rintro e wc ⟨rfl, hb⟩
     refine ⟨_, rfl, ?_⟩
     have Q1 := Q.call hb
     refine hK.out _ _ Q1.s (fun hHeld1 => ?_)
     clear hK K hb Q hHeld1
     have Q := Q1
     clear Q1
     refine normU (some 58) ?_
     refine oneU 9 (some 59) #[true, true, true, true, true, true, true, true, true, true, false, false, false, true, false, false] HT_ (fun K hK => ?_)
     refine goes_ Tryz.func57 (by kernel_rfl) rfl #[.string a0, .agg #[.int .i64 u1, .int .i64 u2], .agg #[.int .i64 t1, .int .i64 t2]] (by rfl) rfl rfl (by (try simp only [List.map_toArray, List.map_cons, List.map_nil]); first | done | rfl) ?_
     refine (fleuronref01_Near.calls k a0 u1 u2 t1 t2 v1 v2 v3 _ HV.out).mono ?_
     rintro e wn ⟨rfl, hb⟩
     refine ⟨_, rfl, ?_⟩
     have Q1 := Q.call hb
     refine hK.out _ _ Q1.s (fun hHeld1 => ?_)
     clear hK K hb Q hHeld1
     have Q := Q1
     clear Q1
     refine normU (some 59) ?_
     refine pureU 10 (some 49) #[true, true, true, true, true, true, true, true, true, true, true, false, false, true, false, false] HT_ ?_
     refine pureU 11 (some 60) #[true, true, true, true, true, true, true, true, true, true, true, true, false, true, false, false] HT_ ?_
     refine pureU 12 (some 61) (upto 16 14) HT_ ?_
     exact norm_ (by simp only [putAll, Act.put, List.setIfInBounds_toArray, List.set_cons_zero, List.set_cons_succ]) (hCont gv _ Q)
   ·
    refine box_step ?hg (N := 13) ?hd (cs := #[.int .i64 0, .int .i64 0]) (t := 23) ?hr ?_; (case hd => rfl); (case hg => rfl); (case hr => first | (go_simp; done) | (go_simp; rfl))
    intro gv hg wv hx hb
    have Q := UV.new hHeld hg hb hx
    refine hK.out _ _ Q.s (fun hHeld1 => ?_)
    clear hK K hg hx hb hHeld hHeld1
    refine normU (some 13) ?_
    refine oneU 4 (some 54) #[true, true, true, true, true, true, true, true, false, false, false, false, false, true, false, false] HT_ (fun K hK => ?_)
    refine goes_ Tryz.func58 (by kernel_rfl) rfl #[.slice A1_2 l1_2.length c1_2, .string nm] (by rfl) rfl rfl (by (try simp only [List.map_toArray, List.map_cons, List.map_nil]); first | done | rfl) ?_
    refine (fleuronref08_coef.calls k A1_2 c1_2 l1_2 nm u1 u2 _ (Kd.C_below HR1.out Q.s.s.hb) HC1.out HU.out).mono ?_
    rintro e wc ⟨rfl, hb⟩
    refine ⟨_, rfl, ?_⟩
    have Q1 := Q.call hb
    refine hK.out _ _ Q1.s (fun hHeld1 => ?_)
    clear hK K hb Q hHeld1
    have Q := Q1
    clear Q1
    refine normU (some 54) ?_
    refine oneU 8 (some 58) #[true, true, true, true, true, true, true, true, true, false, false, false, false, true, false, false] HT_ (fun K hK => ?_)
    refine goes_ Tryz.func58 (by kernel_rfl) rfl #[.slice A2_2 l2_2.length c2_2, .string nm] (by rfl) rfl rfl (by (try simp only [List.map_toArray, List.map_cons, List.map_nil]); first | done | rfl) ?_
    refine (fleuronref08_coef.calls k A2_2 c2_2 l2_2 nm t1 t2 _ (Kd.C_below HR2.out Q.s.s.hb) HC2.out HT.out).mono ?_
    rintro e wc ⟨rfl, hb⟩
    refine ⟨_, rfl, ?_⟩
    have Q1 := Q.call hb
    refine hK.out _ _ Q1.s (fun hHeld1 => ?_)
    clear hK K hb Q hHeld1
    have Q := Q1
    clear Q1
    refine normU (some 58) ?_
    refine oneU 9 (some 59) #[true, true, true, true, true, true, true, true, true, true, false, false, false, true, false, false] HT_ (fun K hK => ?_)
    refine goes_ Tryz.func57 (by kernel_rfl) rfl #[.string a0, .agg #[.int .i64 u1, .int .i64 u2], .agg #[.int .i64 t1, .int .i64 t2]] (by rfl) rfl rfl (by (try simp only [List.map_toArray, List.map_cons, List.map_nil]); first | done | rfl) ?_
    refine (fleuronref01_Near.calls k a0 u1 u2 t1 t2 v1 v2 v3 _ HV.out).mono ?_
    rintro e wn ⟨rfl, hb⟩
    refine ⟨_, rfl, ?_⟩
    have Q1 := Q.call hb
    refine hK.out _ _ Q1.s (fun hHeld1 => ?_)
    clear hK K hb Q hHeld1
    have Q := Q1
    clear Q1
    refine normU (some 59) ?_
    refine pureU 10 (some 49) #[true, true, true, true, true, true, true, true, true, true, true, false, false, true, false, false] HT_ ?_
    refine pureU 11 (some 60) #[true, true, true, true, true, true, true, true, true, true, true, true, false, true, false, false] HT_ ?_
    refine pureU 12 (some 61) (upto 16 14) HT_ ?_
    exact norm_ (by simp only [putAll, Act.put, List.setIfInBounds_toArray, List.set_cons_zero, List.set_cons_succ]) (hCont gv _ Q)
  clear hHeld
  rintro gv wj Q
  have hHeld := Q.s
  refine norm_ (a' := ?_) ?_ ?_
  rotate_left
  ·
   simp only [putAll, Act.put, List.setIfInBounds_toArray, List.set_cons_zero, List.set_cons_succ]
   rfl
  have cv0 := jcell Q.bv (i := 0) rfl
  have cv1 := jcell Q.bv (i := 1) rfl
  have fv0 := blk_frozen Q.bv 0
  have fv1 := blk_frozen Q.bv 1
  have SV := Fa.mk (Q.set v1 v2)
  clear Q
  refine oneU 14 none (upto 16 15) HT_ (fun K hK => ?_)
  refine skip_ (w1 := ?_) (by rfl) rfl ?_ ?_
  rotate_left
  ·
   go_simp
   rfl
  have hS := SV.out.s
  refine hK.out _ _ hS (fun hHeld => ?_)
  clear hK K hS cv0 cv1 fv0 fv1
  generalize hW_ : ((wj.setCell ⟨gv, 0, none⟩ (.int .i64 v1)).setCell ⟨gv, 1, none⟩ (.int .i64 v2)) = wk at SV hHeld ⊢
  clear hW_ hHeld
  refine pureU 15 (some 14) (upto 16 16) HT_ ?_
  refine done_ (done_of HT_.out (by kernel_rfl)) ?_
  have cv0 := jcell SV.out.bv (i := 0) rfl
  have cv1 := jcell SV.out.bv (i := 1) rfl
  have hJ := HJ.out
  clear HJ
  by_cases h3 : v3 = 0
  rotate_left
  ·
   rw [if_neg h3] at hJ
   obtain rfl := (Option.some.inj hJ).symm
   have hF := HF.out
   unfold jend at hF
   rw [if_neg h3] at hF
   simp only [Prod.mk.injEq] at hF
   obtain ⟨rfl, rfl, rfl, rfl⟩ := hF
   have d0 : (v3 == 0) = false := beq_eq_false_iff_ne.mpr h3
   have d1 : (v3 != 0) = true := bne_iff_ne.mpr h3
   clear h3 HF hJ
   have cr0 := jcell SV.out.s.s.br (i := 0) rfl
   have cr1 := jcell SV.out.s.s.br (i := 1) rfl
   have cr2 := jcell SV.out.s.s.br (i := 2) rfl
   have fr0 := blk_frozen SV.out.s.s.br 0
   have fr1 := blk_frozen SV.out.s.s.br 1
   have fr2 := blk_frozen SV.out.s.s.br 2
   go_wp2
   refine bodyPost_ret (results_ct rfl _ _ gr 26 #[.int .i64 0, .int .i64 0, .slice none 0 0] (0, 0) _ rfl (SV.out.s.s.outs (.int .i64 0) (.int .i64 0) (.slice none 0 0)).1 Tryz.underlying26 rfl (by kernel_rfl)) rfl ?_
   exact ⟨_, rfl, Kd.R_nil _ _ _ _ _, (SV.out.s.s.outs _ _ _).2.1⟩
  subst h3
  rw [if_pos rfl] at hJ
  by_cases hv1 : v1 = 0
  ·
   subst hv1
   rw [if_pos rfl] at hJ
   have HJ2 := Fa.mk hJ
   clear hJ
   have d0 : ((0 : Int) != 0) = false := rfl
   go_wp2
   go_roundw
   case rel => exact ⟨_, ov, out, rfl, HXN.out.1, HXN.out.2.1, by have := HXN.out.2.2; have := HOL.out; omega, ⟨by rw [HXN.out.2.2]; exact HJ2.out⟩, ⟨SV.out.s⟩⟩
   case measure => have := HXN.out.2.2; have := HLT.out; simp only [iix]; omega
  rw [if_neg hv1] at hJ
  obtain ⟨yo, hyo⟩ : ∃ y : List S47, y = out ++ [(⟨nm, (⟨v1, v2⟩ : S23)⟩ : S47)] := ⟨_, rfl⟩
  rw [← hyo] at hJ
  have HYO := Fa.mk hyo
  have HJ2 := Fa.mk hJ
  clear hJ hyo
  have d0 : (v1 != 0) = true := bne_iff_ne.mpr hv1
  have d1 : (v1 == 0) = false := beq_eq_false_iff_ne.mpr hv1
  clear hv1
  have co2 := jcell SV.out.s.s.bo (i := 2) rfl
  have fo2 := blk_frozen SV.out.s.s.bo 2
  go_wp2_with (((with_reducible refine gate_builtin (b := .append) (xs := #[.tmp 70, .tmp 74]) rfl ?_); (try (refine gate_guard (by rfl) ?_; dsimp only)); at_builtin; refine Kd.R_append k47 (w0 := w) w.heap.size rfl (.tmp 70) (.tmp 74) 24 47 (.agg #[(.string ⟨#[]⟩), (.int .i64 0), (.int .i64 0)]) 32 rfl Tryz.underlying24 info47 rfl (by decide) (by omega) ov out (⟨nm, (⟨v1, v2⟩ : S23)⟩ : S47) [.string nm, .int .i64 v1, .int .i64 v2] (fun _ => True) (fun _ => False) rfl (by first | (go_simp; done) | (go_simp; rfl)) ?aP (fun _ hk => hk.elim) ?aF ?aO ?aB ?aS ?aL ?_; (case aP => exact k47_mkM _ _ _ (⟨nm, (⟨v1, v2⟩ : S23)⟩ : S47)); (case aB => exact SV.out.s.s.hb); (case aF => exact fun _ _ => trivial); (case aO => exact SV.out.s.s.ro); (case aS => exact SV.out.s.s.hb.size); (case aL => have := HNL.out; have := HOL.out; have := HLT.out; omega); intro vo wo ho hb hg hat; rw [← HYO.out] at ho; have bo1 := blk_grown SV.out.s.s.bo hg (Kd.R_ne SV.out.s.s.ro SV.out.s.s.bo (by decide)); have SA := Fa.mk (SV.out.s.app ho hb hg); obtain ⟨Ao, co, hvo⟩ := Kd.R_slice ho; subst hvo; clear cv0 cv1 co2 fo2; have co2 := jcell bo1 (i := 2) rfl; have fo2 := blk_frozen bo1 2; clear ho hb hg hat bo1))
  go_roundw
  case rel => exact ⟨_, _, _, rfl, HXN.out.1, HXN.out.2.1, by have := HXN.out.2.2; have := HOL.out; rw [HYO.out]; simp only [List.length_append, List.length_cons, List.length_nil]; omega, ⟨by rw [HXN.out.2.2]; exact HJ2.out⟩, SA⟩
  case measure => have := HXN.out.2.2; have := HLT.out; simp only [iix]; omega
def fleuronref08_Add.f (k : Nat) (a0_0 : Int) (a0_1 : Int) (l0_2 : List (S47)) (a1_0 : Int) (a1_1 : Int) (l1_2 : List (S47)) : Option (Int × Int × (List (S47)) × Int) := (fleuronref08_both.f k (⟨#[43]⟩ : ByteArray) a0_0 a0_1 l0_2 a1_0 a1_1 l1_2).bind fun bt324 => (some (bt324.1, bt324.2.1, bt324.2.2.1, bt324.2.2.2))
set_option maxHeartbeats 8000000 in
set_option maxRecDepth 100000 in
theorem fleuronref08_Add.calls (k : Nat) (a0_0 : Int) (a0_1 : Int) (A0_2 : Option Addr) (c0_2 : Nat) (l0_2 : List (S47)) (a1_0 : Int) (a1_1 : Int) (A1_2 : Option Addr) (c1_2 : Nat) (l1_2 : List (S47)) (r1 : Int) (r2 : Int) (r3 : List (S47)) (r4 : Int) (w : World) (hr0_2 : Kd.C k47 w A0_2 l0_2.length l0_2) (hc0_2 : l0_2.length ≤ c0_2) (hr1_2 : Kd.C k47 w A1_2 l1_2.length l1_2) (hc1_2 : l1_2.length ≤ c1_2) (h : fleuronref08_Add.f k a0_0 a0_1 l0_2 a1_0 a1_1 l1_2 = some (r1, r2, r3, r4)) :
  Calls Tryz.prog 14 #[.agg #[.int .i64 a0_0, .int .i64 a0_1, .slice A0_2 l0_2.length c0_2], .agg #[.int .i64 a1_0, .int .i64 a1_1, .slice A1_2 l1_2.length c1_2]] w fun e w' => ∃ v2_ : Value, e = .returned (.tuple #[.agg #[.int .i64 r1, .int .i64 r2, v2_], .int .i64 r4]) ∧ Kd.R k47 47 w' w.heap.size (fun _ => True) v2_ r3 ∧ Below w.heap.size w w' := by
 have hu26 := Tryz.underlying26
 have HR0_2 := Fa.mk hr0_2
 have HC0_2 := Fa.mk hc0_2
 clear hr0_2 hc0_2
 have HR1_2 := Fa.mk hr1_2
 have HC1_2 := Fa.mk hc1_2
 clear hr1_2 hc1_2
 have HB := Fa.mk (Below.refl w.heap.size w)
 have H : ((fleuronref08_both.f k (⟨#[43]⟩ : ByteArray) a0_0 a0_1 l0_2 a1_0 a1_1 l1_2).bind fun bt324 => (some (bt324.1, bt324.2.1, bt324.2.2.1, bt324.2.2.2))) = some (r1, r2, r3, r4) := h
 clear h
 replace H := Option.bind_eq_some_iff.mp H
 obtain ⟨⟨t324, t325, t326, t329⟩, A30, H⟩ := H
 (try dsimp only at H)
 have A3 := Fa.mk A30
 clear A30
 simp only [Option.some.injEq, Prod.mk.injEq] at H
 obtain ⟨rfl, rfl, rfl, rfl⟩ := H
 go_enter Tryz.func14, Tryz.ntmps14
 go_wp2_with (first | ((with_reducible refine gate_dst (N := 2) rfl ?_); refine boxF (N := 2) (cs := #[.int .i64 a0_0, .int .i64 a0_1, .slice A0_2 l0_2.length c0_2]) (t := 26) ?_; intro gb321 hg w4 hbox hb; have hS := Stp.mk hb; have BK321 := Fa.mk (hbox); have GW321 := Fa.mk (gle hg : w.heap.size ≤ gb321); have GE321 := GW321; clear hb hbox hg) | ((with_reducible refine gate_dst (N := 3) rfl ?_); refine boxF (N := 3) (cs := #[.int .i64 a1_0, .int .i64 a1_1, .slice A1_2 l1_2.length c1_2]) (t := 26) ?_; intro gb322 hg w5 hbox hb; have hS := Stp.mk hb; have BK322 := Fa.mk (hbox); have GW322 := Fa.mk (gle hg : w.heap.size ≤ gb322); have GE322 := GW322; have NB321_322 := Fa.mk (gne (o := .cells #[.int .i64 a0_0, .int .i64 a0_1, .slice A0_2 l0_2.length c0_2] 26 (0, 0)) hg : gb321 ≠ gb322); have NB322_321 := Fa.mk NB321_322.out.symm; clear hb hbox hg) | ((with_reducible refine gate_dst (N := 4) rfl ?_); refine boxF (N := 4) (cs := #[.int .i64 0, .int .i64 0, .slice none 0 0]) (t := 26) ?_; intro gb323 hg w6 hbox hb; have hS := Stp.mk hb; have BK321 := (⟨fa⟩ : Fa (w6.heap[gb321]? = some (.cells #[.int .i64 a0_0, .int .i64 a0_1, .slice A0_2 l0_2.length c0_2] 26 (0, 0)))); have BK322 := (⟨fa⟩ : Fa (w6.heap[gb322]? = some (.cells #[.int .i64 a1_0, .int .i64 a1_1, .slice A1_2 l1_2.length c1_2] 26 (0, 0)))); have BK323 := Fa.mk (hbox); have GW323 := Fa.mk (gle hg : w.heap.size ≤ gb323); have GE323 := GW323; have NB321_323 := Fa.mk (gne (o := .cells #[.int .i64 a0_0, .int .i64 a0_1, .slice A0_2 l0_2.length c0_2] 26 (0, 0)) hg : gb321 ≠ gb323); have NB323_321 := Fa.mk NB321_323.out.symm; have NB322_323 := Fa.mk (gne (o := .cells #[.int .i64 a1_0, .int .i64 a1_1, .slice A1_2 l1_2.length c1_2] 26 (0, 0)) hg : gb322 ≠ gb323); have NB323_322 := Fa.mk NB322_323.out.symm; clear hb hbox hg; have hnb7 := NB321_322.out; have hnc7 := NB322_321.out; have hnb8 := NB321_323.out; have hnc8 := NB323_321.out; have hcz9_0 := jcell BK321.out (i := 0) rfl; have hcz9_1 := jcell BK321.out (i := 1) rfl; have hcz9_2 := jcell BK321.out (i := 2) rfl; have hfz9_0 := blk_frozen BK321.out 0; have hfz9_1 := blk_frozen BK321.out 1; have hfz9_2 := blk_frozen BK321.out 2; have hnb10 := NB322_323.out; have hnc10 := NB323_322.out; have hcz11_0 := jcell BK322.out (i := 0) rfl; have hcz11_1 := jcell BK322.out (i := 1) rfl; have hcz11_2 := jcell BK322.out (i := 2) rfl; have hfz11_0 := blk_frozen BK322.out 0; have hfz11_1 := blk_frozen BK322.out 1; have hfz11_2 := blk_frozen BK322.out 2) | ((with_reducible refine gate_callee (f := 43) rfl ?_); refine goesA (some 8) rfl rfl Tryz.func43 (by kernel_rfl) rfl #[.string (⟨#[43]⟩ : ByteArray), .agg #[.int .i64 a0_0, .int .i64 a0_1, .slice A0_2 l0_2.length c0_2], .agg #[.int .i64 a1_0, .int .i64 a1_1, .slice A1_2 l1_2.length c1_2]] rfl ?_; (with_reducible refine (fleuronref08_both.calls k (⟨#[43]⟩ : ByteArray) a0_0 a0_1 _ _ l0_2 a1_0 a1_1 _ _ l1_2 t324 t325 t326 t329 _ ?side1 ?side2 ?side3 ?side4 A3.out).mono ?_); (case side1 => repeat (first | exact (Kd.C_below HR0_2.out fa) | (with_reducible refine Kd.C_alloc ?_ _) | (with_reducible refine Kd.C_drewN ?_ _) | (with_reducible refine Kd.C_drew ?_))); (case side2 => exact HC0_2.out); (case side3 => repeat (first | exact (Kd.C_below HR1_2.out fa) | (with_reducible refine Kd.C_alloc ?_ _) | (with_reducible refine Kd.C_drewN ?_ _) | (with_reducible refine Kd.C_drew ?_))); (case side4 => exact HC1_2.out); rintro e w12 ⟨v327, rfl, ho0, hb⟩; refine ⟨_, rfl, ?_⟩; have n0_ := Fa.mk (Kd.R_lower ho0 (bsz w)); have n1_ := Fa.mk (blk_below (g := gb321) (o := .cells #[.int .i64 a0_0, .int .i64 a0_1, .slice A0_2 l0_2.length c0_2] 26 (0, 0)) fa hb); have n2_ := Fa.mk (blk_below (g := gb322) (o := .cells #[.int .i64 a1_0, .int .i64 a1_1, .slice A1_2 l1_2.length c1_2] 26 (0, 0)) fa hb); have n3_ := Fa.mk (blk_below (g := gb323) (o := .cells #[.int .i64 0, .int .i64 0, .slice none 0 0] 26 (0, 0)) fa hb); have n4_ := Fa.mk (bst w hb); clear BK321; clear BK322; clear BK323; clear HB; have HO328 := n0_; have BK321 := n1_; have BK322 := n2_; have BK323 := n3_; have HB := n4_; clear n0_ n1_ n2_ n3_ n4_; (try clear hb); (try clear hb2); (try clear hk); (try clear hi); (try clear ho0); have hcz13_0 := jcell BK323.out (i := 0) rfl; have hcz13_1 := jcell BK323.out (i := 1) rfl; have hcz13_2 := jcell BK323.out (i := 2) rfl; have hfz13_0 := blk_frozen BK323.out 0; have hfz13_1 := blk_frozen BK323.out 1; have hfz13_2 := blk_frozen BK323.out 2; obtain ⟨Ao14, co14, eo14⟩ := Kd.R_slice HO328.out; subst eo14))
 refine bodyPost_ret (results_ct rfl _ _ gb323 26 #[.int .i64 t324, .int .i64 t325, .slice Ao14 t326.length co14] (0, 0) _ rfl (by (with_reducible repeat (first | refine blk_drewN ?_ _ | refine blk_drew ?_ | refine blk_alloc ?_ _)); refine blk_put (cs := #[.int .i64 t324, .int .i64 t325, .slice none 0 0]) ?_ 2 _ rfl; (with_reducible repeat (first | refine blk_drewN ?_ _ | refine blk_drew ?_ | refine blk_alloc ?_ _)); refine blk_put (cs := #[.int .i64 t324, .int .i64 0, .slice none 0 0]) ?_ 1 _ rfl; (with_reducible repeat (first | refine blk_drewN ?_ _ | refine blk_drew ?_ | refine blk_alloc ?_ _)); refine blk_put (cs := #[.int .i64 0, .int .i64 0, .slice none 0 0]) ?_ 0 _ rfl; (with_reducible repeat (first | refine blk_drewN ?_ _ | refine blk_drew ?_ | refine blk_alloc ?_ _)); exact fa) Tryz.underlying26 rfl (by kernel_rfl)) rfl ?_
 exact ⟨_, rfl, by (with_reducible repeat (first | apply Kd.R_alloc | apply Kd.R_drewN | apply Kd.R_drew)); exact Kd.R_mono (Kd.R_far (p := ⟨gb323, 2, none⟩) (Kd.R_far (p := ⟨gb323, 1, none⟩) (Kd.R_far (p := ⟨gb323, 0, none⟩) (Kd.R_types HO328.out BK323.out (by decide)) (fun _ hk => hk.2) (.int .i64 t324)) (fun _ hk => hk.2) (.int .i64 t325)) (fun _ hk => hk.2) (.slice Ao14 t326.length co14)) (fun _ hk => trivial), fa⟩
def fleuronref08_Sub.f (k : Nat) (a0_0 : Int) (a0_1 : Int) (l0_2 : List (S47)) (a1_0 : Int) (a1_1 : Int) (l1_2 : List (S47)) : Option (Int × Int × (List (S47)) × Int) := (fleuronref08_both.f k (⟨#[45]⟩ : ByteArray) a0_0 a0_1 l0_2 a1_0 a1_1 l1_2).bind fun bt333 => (some (bt333.1, bt333.2.1, bt333.2.2.1, bt333.2.2.2))
set_option maxHeartbeats 8000000 in
set_option maxRecDepth 100000 in
theorem fleuronref08_Sub.calls (k : Nat) (a0_0 : Int) (a0_1 : Int) (A0_2 : Option Addr) (c0_2 : Nat) (l0_2 : List (S47)) (a1_0 : Int) (a1_1 : Int) (A1_2 : Option Addr) (c1_2 : Nat) (l1_2 : List (S47)) (r1 : Int) (r2 : Int) (r3 : List (S47)) (r4 : Int) (w : World) (hr0_2 : Kd.C k47 w A0_2 l0_2.length l0_2) (hc0_2 : l0_2.length ≤ c0_2) (hr1_2 : Kd.C k47 w A1_2 l1_2.length l1_2) (hc1_2 : l1_2.length ≤ c1_2) (h : fleuronref08_Sub.f k a0_0 a0_1 l0_2 a1_0 a1_1 l1_2 = some (r1, r2, r3, r4)) :
  Calls Tryz.prog 16 #[.agg #[.int .i64 a0_0, .int .i64 a0_1, .slice A0_2 l0_2.length c0_2], .agg #[.int .i64 a1_0, .int .i64 a1_1, .slice A1_2 l1_2.length c1_2]] w fun e w' => ∃ v2_ : Value, e = .returned (.tuple #[.agg #[.int .i64 r1, .int .i64 r2, v2_], .int .i64 r4]) ∧ Kd.R k47 47 w' w.heap.size (fun _ => True) v2_ r3 ∧ Below w.heap.size w w' := by
 have hu26 := Tryz.underlying26
 have HR0_2 := Fa.mk hr0_2
 have HC0_2 := Fa.mk hc0_2
 clear hr0_2 hc0_2
 have HR1_2 := Fa.mk hr1_2
 have HC1_2 := Fa.mk hc1_2
 clear hr1_2 hc1_2
 have HB := Fa.mk (Below.refl w.heap.size w)
 have H : ((fleuronref08_both.f k (⟨#[45]⟩ : ByteArray) a0_0 a0_1 l0_2 a1_0 a1_1 l1_2).bind fun bt333 => (some (bt333.1, bt333.2.1, bt333.2.2.1, bt333.2.2.2))) = some (r1, r2, r3, r4) := h
 clear h
 replace H := Option.bind_eq_some_iff.mp H
 obtain ⟨⟨t333, t334, t335, t338⟩, A30, H⟩ := H
 (try dsimp only at H)
 have A3 := Fa.mk A30
 clear A30
 simp only [Option.some.injEq, Prod.mk.injEq] at H
 obtain ⟨rfl, rfl, rfl, rfl⟩ := H
 go_enter Tryz.func16, Tryz.ntmps16
 go_wp2_with (first | ((with_reducible refine gate_dst (N := 2) rfl ?_); refine boxF (N := 2) (cs := #[.int .i64 a0_0, .int .i64 a0_1, .slice A0_2 l0_2.length c0_2]) (t := 26) ?_; intro gb330 hg w4 hbox hb; have hS := Stp.mk hb; have BK330 := Fa.mk (hbox); have GW330 := Fa.mk (gle hg : w.heap.size ≤ gb330); have GE330 := GW330; clear hb hbox hg) | ((with_reducible refine gate_dst (N := 3) rfl ?_); refine boxF (N := 3) (cs := #[.int .i64 a1_0, .int .i64 a1_1, .slice A1_2 l1_2.length c1_2]) (t := 26) ?_; intro gb331 hg w5 hbox hb; have hS := Stp.mk hb; have BK331 := Fa.mk (hbox); have GW331 := Fa.mk (gle hg : w.heap.size ≤ gb331); have GE331 := GW331; have NB330_331 := Fa.mk (gne (o := .cells #[.int .i64 a0_0, .int .i64 a0_1, .slice A0_2 l0_2.length c0_2] 26 (0, 0)) hg : gb330 ≠ gb331); have NB331_330 := Fa.mk NB330_331.out.symm; clear hb hbox hg) | ((with_reducible refine gate_dst (N := 4) rfl ?_); refine boxF (N := 4) (cs := #[.int .i64 0, .int .i64 0, .slice none 0 0]) (t := 26) ?_; intro gb332 hg w6 hbox hb; have hS := Stp.mk hb; have BK330 := (⟨fa⟩ : Fa (w6.heap[gb330]? = some (.cells #[.int .i64 a0_0, .int .i64 a0_1, .slice A0_2 l0_2.length c0_2] 26 (0, 0)))); have BK331 := (⟨fa⟩ : Fa (w6.heap[gb331]? = some (.cells #[.int .i64 a1_0, .int .i64 a1_1, .slice A1_2 l1_2.length c1_2] 26 (0, 0)))); have BK332 := Fa.mk (hbox); have GW332 := Fa.mk (gle hg : w.heap.size ≤ gb332); have GE332 := GW332; have NB330_332 := Fa.mk (gne (o := .cells #[.int .i64 a0_0, .int .i64 a0_1, .slice A0_2 l0_2.length c0_2] 26 (0, 0)) hg : gb330 ≠ gb332); have NB332_330 := Fa.mk NB330_332.out.symm; have NB331_332 := Fa.mk (gne (o := .cells #[.int .i64 a1_0, .int .i64 a1_1, .slice A1_2 l1_2.length c1_2] 26 (0, 0)) hg : gb331 ≠ gb332); have NB332_331 := Fa.mk NB331_332.out.symm; clear hb hbox hg; have hnb7 := NB330_331.out; have hnc7 := NB331_330.out; have hnb8 := NB330_332.out; have hnc8 := NB332_330.out; have hcz9_0 := jcell BK330.out (i := 0) rfl; have hcz9_1 := jcell BK330.out (i := 1) rfl; have hcz9_2 := jcell BK330.out (i := 2) rfl; have hfz9_0 := blk_frozen BK330.out 0; have hfz9_1 := blk_frozen BK330.out 1; have hfz9_2 := blk_frozen BK330.out 2; have hnb10 := NB331_332.out; have hnc10 := NB332_331.out; have hcz11_0 := jcell BK331.out (i := 0) rfl; have hcz11_1 := jcell BK331.out (i := 1) rfl; have hcz11_2 := jcell BK331.out (i := 2) rfl; have hfz11_0 := blk_frozen BK331.out 0; have hfz11_1 := blk_frozen BK331.out 1; have hfz11_2 := blk_frozen BK331.out 2) | ((with_reducible refine gate_callee (f := 43) rfl ?_); refine goesA (some 8) rfl rfl Tryz.func43 (by kernel_rfl) rfl #[.string (⟨#[45]⟩ : ByteArray), .agg #[.int .i64 a0_0, .int .i64 a0_1, .slice A0_2 l0_2.length c0_2], .agg #[.int .i64 a1_0, .int .i64 a1_1, .slice A1_2 l1_2.length c1_2]] rfl ?_; (with_reducible refine (fleuronref08_both.calls k (⟨#[45]⟩ : ByteArray) a0_0 a0_1 _ _ l0_2 a1_0 a1_1 _ _ l1_2 t333 t334 t335 t338 _ ?side1 ?side2 ?side3 ?side4 A3.out).mono ?_); (case side1 => repeat (first | exact (Kd.C_below HR0_2.out fa) | (with_reducible refine Kd.C_alloc ?_ _) | (with_reducible refine Kd.C_drewN ?_ _) | (with_reducible refine Kd.C_drew ?_))); (case side2 => exact HC0_2.out); (case side3 => repeat (first | exact (Kd.C_below HR1_2.out fa) | (with_reducible refine Kd.C_alloc ?_ _) | (with_reducible refine Kd.C_drewN ?_ _) | (with_reducible refine Kd.C_drew ?_))); (case side4 => exact HC1_2.out); rintro e w12 ⟨v336, rfl, ho0, hb⟩; refine ⟨_, rfl, ?_⟩; have n0_ := Fa.mk (Kd.R_lower ho0 (bsz w)); have n1_ := Fa.mk (blk_below (g := gb330) (o := .cells #[.int .i64 a0_0, .int .i64 a0_1, .slice A0_2 l0_2.length c0_2] 26 (0, 0)) fa hb); have n2_ := Fa.mk (blk_below (g := gb331) (o := .cells #[.int .i64 a1_0, .int .i64 a1_1, .slice A1_2 l1_2.length c1_2] 26 (0, 0)) fa hb); have n3_ := Fa.mk (blk_below (g := gb332) (o := .cells #[.int .i64 0, .int .i64 0, .slice none 0 0] 26 (0, 0)) fa hb); have n4_ := Fa.mk (bst w hb); clear BK330; clear BK331; clear BK332; clear HB; have HO337 := n0_; have BK330 := n1_; have BK331 := n2_; have BK332 := n3_; have HB := n4_; clear n0_ n1_ n2_ n3_ n4_; (try clear hb); (try clear hb2); (try clear hk); (try clear hi); (try clear ho0); have hcz13_0 := jcell BK332.out (i := 0) rfl; have hcz13_1 := jcell BK332.out (i := 1) rfl; have hcz13_2 := jcell BK332.out (i := 2) rfl; have hfz13_0 := blk_frozen BK332.out 0; have hfz13_1 := blk_frozen BK332.out 1; have hfz13_2 := blk_frozen BK332.out 2; obtain ⟨Ao14, co14, eo14⟩ := Kd.R_slice HO337.out; subst eo14))
 refine bodyPost_ret (results_ct rfl _ _ gb332 26 #[.int .i64 t333, .int .i64 t334, .slice Ao14 t335.length co14] (0, 0) _ rfl (by (with_reducible repeat (first | refine blk_drewN ?_ _ | refine blk_drew ?_ | refine blk_alloc ?_ _)); refine blk_put (cs := #[.int .i64 t333, .int .i64 t334, .slice none 0 0]) ?_ 2 _ rfl; (with_reducible repeat (first | refine blk_drewN ?_ _ | refine blk_drew ?_ | refine blk_alloc ?_ _)); refine blk_put (cs := #[.int .i64 t333, .int .i64 0, .slice none 0 0]) ?_ 1 _ rfl; (with_reducible repeat (first | refine blk_drewN ?_ _ | refine blk_drew ?_ | refine blk_alloc ?_ _)); refine blk_put (cs := #[.int .i64 0, .int .i64 0, .slice none 0 0]) ?_ 0 _ rfl; (with_reducible repeat (first | refine blk_drewN ?_ _ | refine blk_drew ?_ | refine blk_alloc ?_ _)); exact fa) Tryz.underlying26 rfl (by kernel_rfl)) rfl ?_
 exact ⟨_, rfl, by (with_reducible repeat (first | apply Kd.R_alloc | apply Kd.R_drewN | apply Kd.R_drew)); exact Kd.R_mono (Kd.R_far (p := ⟨gb332, 2, none⟩) (Kd.R_far (p := ⟨gb332, 1, none⟩) (Kd.R_far (p := ⟨gb332, 0, none⟩) (Kd.R_types HO337.out BK332.out (by decide)) (fun _ hk => hk.2) (.int .i64 t333)) (fun _ hk => hk.2) (.int .i64 t334)) (fun _ hk => hk.2) (.slice Ao14 t335.length co14)) (fun _ hk => trivial), fa⟩
end Go.Proofs.YtilamkcpbibnmaaGreatDoor.P
