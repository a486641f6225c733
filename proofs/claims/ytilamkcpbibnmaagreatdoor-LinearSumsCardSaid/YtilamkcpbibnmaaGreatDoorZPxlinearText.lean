import Derived.Test.YtilamkcpbibnmaaGreatDoorZPx0
import Derived.Test.YtilamkcpbibnmaaGreatDoorZPxEq1
import Derived.Test.YtilamkcpbibnmaaGreatDoorZPxlinearrising
import Derived.Test.YtilamkcpbibnmaaGreatDoorZPxlinearOver
namespace Go.Proofs.YtilamkcpbibnmaaGreatDoor.P
open Go.RowKit Go.Proofs.YtilamkcpbibnmaaGreatDoorW.PrintWords Go.Proofs.YtilamkcpbibnmaaGreatDoorW.PrintLast Go.Proofs.YtilamkcpbibnmaaGreatDoorW.PrintMore
attribute [local go_sem] max2_int min2_int max_two min_two max_three min_three max_four min_four
set_option linter.unusedVariables false
set_option linter.unusedSimpArgs false
def tsgn (first : Bool) (p : Int) : List UInt8 := if p < 0 then [45] else if first = true then [] else [43]
def tabs (p : Int) : Int := if p < 0 then wrap64 (-p) else p
def tbody (k : Nat) (p q : Int) : Option (List UInt8) := if p = 1 ∧ q = 1 then some [] else (num_Text.f k p q).bind fun s => if s.1.size + 1 ≤ 9223372036854775807 then some (s.1 ++ (⟨#[42]⟩ : ByteArray)).data.toList else none
def tone (k : Nat) (first : Bool) (t : S47) : Option (List UInt8) := (tbody k (tabs t.f1.f0) t.f1.f1).bind fun b => some (tsgn first t.f1.f0 ++ b ++ t.f0.data.toList)
def tgo (k : Nat) : Bool → List S47 → Option (List UInt8)
  | _, [] => some []
  | first, t :: ts => (tone k first t).bind fun a => (tgo k false ts).bind fun b => some (a ++ b)
def tlast (k : Nat) (c0 c1 : Int) (l : List S47) : Option (List UInt8) := if (l.length : Int) = 0 ∨ ¬ c0 = 0 then (num_Text.f k c0 c1).bind fun s => some ((if (l.length : Int) > 0 ∧ c0 > 0 then [43] else []) ++ s.1.data.toList) else some []
def linear_Text.f (k : Nat) (a0_0 a0_1 : Int) (l0_2 : List S47) : Option (ByteArray × Int) :=
  if ¬ (l0_2.length : Int) < 9223372036854775807 then none else (linear_Valid.f k a0_0 a0_1 l0_2).bind fun v => if v = true then (tgo k true l0_2).bind fun s => (tlast k a0_0 a0_1 l0_2).bind fun e => if s.length + e.length ≤ 140737488355328 then some ((⟨(s ++ e).toArray⟩ : ByteArray), 0) else none
    else some ((⟨#[]⟩ : ByteArray), 2)
theorem tbody_mono (k : Nat) (p q : Int) : LeO (tbody k p q) (tbody (k + 1) p q) := by
  unfold tbody
  exact LeO.ite (LeO.refl _) (LeO.bind (num_Text.mono _ _ _) (fun _ => LeO.refl _))
theorem tgo_mono (k : Nat) : ∀ (l : List S47) (first : Bool), LeO (tgo k first l) (tgo (k + 1) first l)
  | [], _ => LeO.refl _
  | t :: ts, first => by
    unfold tgo tone
    exact LeO.bind (LeO.bind (tbody_mono _ _ _) (fun _ => LeO.refl _)) (fun _ => LeO.bind (tgo_mono k ts false) (fun _ => LeO.refl _))
theorem linear_Text.mono : ∀ a0 a1 a2 k, LeO (linear_Text.f k a0 a1 a2) (linear_Text.f (k + 1) a0 a1 a2) := by
  intro a0 a1 a2 k
  unfold linear_Text.f tlast
  refine LeO.ite (LeO.refl _) ?_
  refine LeO.bind (linear_Valid.mono _ _ _ _) (fun _ => LeO.ite ?_ (LeO.refl _))
  refine LeO.bind (tgo_mono k _ _) (fun _ => LeO.bind ?_ (fun _ => LeO.refl _))
  exact LeO.ite (LeO.bind (num_Text.mono _ _ _) (fun _ => LeO.refl _)) (LeO.refl _)
theorem ok5_blk {b g : Nat} {W W' : World} {cs : Array Value} {t : TypeId} (h : OK5 b W W') (hg : W.heap[g]? = some (.cells cs t (0, 0))) (hb : g ≠ b) (ht : t ≠ 5) : W'.heap[g]? = some (.cells cs t (0, 0)) :=
  h g _ hg (fun e => hb (by injection e)) (fun c fz e => by injection e with _ e2; exact ht e2)
theorem cell0 {W : World} {g : Nat} {cs : Array Value} {t : TypeId} (h : W.heap[g]? = some (.cells cs t (0, 0))) {i : Nat} {v : Value} (hv : cs[i]? = some v) : W.cell? ⟨g, i, none⟩ = some v := (blk_cell h i).trans hv
theorem tgo_drop {k : Nat} {l : List S47} {j : Nat} {first : Bool} {r : List UInt8} (hj : j < l.length) (h : tgo k first (l.drop j) = some r) :
    ∃ a b, tone k first (rd_T47 l (j : Int)) = some a ∧ tgo k false (l.drop (j + 1)) = some b ∧ r = a ++ b := by
  rw [List.drop_eq_getElem_cons hj] at h
  unfold tgo at h
  obtain ⟨a, ha, h⟩ := Option.bind_eq_some_iff.mp h
  obtain ⟨b, hb, h⟩ := Option.bind_eq_some_iff.mp h
  refine ⟨a, b, ?_, hb, (Option.some.inj h).symm⟩
  unfold rd_T47
  rw [Int.toNat_natCast, List.getD_eq_getElem?_getD, List.getElem?_eq_getElem hj]
  exact ha
theorem Bs.mk0 {b : Nat} {W : World} (h : W.heap[b]? = some (.cells #[.pointer none, .slice none 0 0] 73 (0, 0))) : Bs b b [] W :=
  ⟨Nat.le_of_lt (blk_lt h), .inl ⟨Nat.le_refl _, _, h, World.ownsRowF_nil _ _ _ _, by simp [Value.ownBlock]⟩⟩
structure LtS (w : World) (gf gb gt gc : Nat) (fcs tcs ccs : Array Value) (acc : List UInt8) (W : World) : Prop where
  bf : W.heap[gf]? = some (.cells fcs 26 (0, 0))
  bt : W.heap[gt]? = some (.cells tcs 47 (0, 0))
  bc : W.heap[gc]? = some (.cells ccs 23 (0, 0))
  bs : Bs gb gb acc W
  hb : Below w.heap.size w W
  lb : w.heap.size ≤ gb
  lc : w.heap.size ≤ gc
theorem Bs.blk {B b : Nat} {s : List UInt8} {W : World} (h : Bs B b s W) : ∃ cs, W.heap[b]? = some (.cells cs 73 (0, 0)) := by
  rcases h.2 with ⟨_, v, hb, _⟩ | ⟨_, v, hb, _⟩
  · exact ⟨_, hb⟩
  · exact ⟨_, hb⟩
section
variable {w W W' : World} {gf gb gt gc : Nat} {fcs tcs ccs ccs' : Array Value} {acc acc' : List UInt8}
theorem LtS.call (s : LtS w gf gb gt gc fcs tcs ccs acc W) (hb : Below W.heap.size W W') : LtS w gf gb gt gc fcs tcs ccs acc W' :=
  ⟨blk_below s.bf hb, blk_below s.bt hb, blk_below s.bc hb, s.bs.below hb, below_step s.hb hb, s.lb, s.lc⟩
theorem LtS.write (s : LtS w gf gb gt gc fcs tcs ccs acc W) (h : Bs gb gb acc' W') (hb : Below gb W W') (hk : OK5 gb W W') : LtS w gf gb gt gc fcs tcs ccs acc' W' := by
  obtain ⟨cs, hbk⟩ := s.bs.blk
  exact ⟨ok5_blk hk s.bf (blk_ne s.bf hbk (by decide)) (by decide), ok5_blk hk s.bt (blk_ne s.bt hbk (by decide)) (by decide), ok5_blk hk s.bc (blk_ne s.bc hbk (by decide)) (by decide), h, s.hb.trans (hb.mono s.lb), s.lb, s.lc⟩
theorem LtS.setc (s : LtS w gf gb gt gc fcs tcs ccs acc W) (i : Nat) (u : Value) (e : ccs.setIfInBounds i u = ccs') : LtS w gf gb gt gc fcs tcs ccs' acc (W.setCell ⟨gc, i, none⟩ u) := by
  obtain ⟨cs, hbk⟩ := s.bs.blk
  exact ⟨blk_far s.bf (p := ⟨gc, i, none⟩) (blk_ne s.bf s.bc (by decide)) u, blk_far s.bt (p := ⟨gc, i, none⟩) (blk_ne s.bt s.bc (by decide)) u, blk_put s.bc i u e, s.bs.set s.bc (blk_ne s.bc hbk (by decide)) (by decide) u, below_set s.hb s.lc, s.lb, s.lc⟩
structure LtL (w : World) (gf gb : Nat) (fcs : Array Value) (acc : List UInt8) (W : World) : Prop where
  bf : W.heap[gf]? = some (.cells fcs 26 (0, 0))
  bs : Bs gb gb acc W
  hb : Below w.heap.size w W
  lb : w.heap.size ≤ gb
theorem LtS.out (s : LtS w gf gb gt gc fcs tcs ccs acc W) : LtL w gf gb fcs acc W := ⟨s.bf, s.bs, s.hb, s.lb⟩
theorem LtL.write (s : LtL w gf gb fcs acc W) (h : Bs gb gb acc' W') (hb : Below gb W W') (hk : OK5 gb W W') : LtL w gf gb fcs acc' W' := by
  obtain ⟨cs, hbk⟩ := s.bs.blk
  exact ⟨ok5_blk hk s.bf (blk_ne s.bf hbk (by decide)) (by decide), h, s.hb.trans (hb.mono s.lb), s.lb⟩
theorem LtL.call (s : LtL w gf gb fcs acc W) (hb : Below W.heap.size W W') : LtL w gf gb fcs acc W' := ⟨blk_below s.bf hb, s.bs.below hb, below_step s.hb hb, s.lb⟩
theorem LtS.start {wt wc : World} {t0 t1 t2 t3 : Array Value} {c0 c1 c2 : Array Value} {x0 x1 x2 y0 y1 : Value} (s : LtL w gf gb fcs acc W) (hgt : gt = W.heap.size) (hbt : Below W.heap.size W wt) (ht : wt.heap[gt]? = some (.cells t0 47 (0, 0)))
    (e0 : t0.setIfInBounds 0 x0 = t1) (e1 : t1.setIfInBounds 1 x1 = t2) (e2 : t2.setIfInBounds 2 x2 = t3)
    (hgc : gc = (((wt.setCell ⟨gt, 0, none⟩ x0).setCell ⟨gt, 1, none⟩ x1).setCell ⟨gt, 2, none⟩ x2).heap.size) (hbc : Below (((wt.setCell ⟨gt, 0, none⟩ x0).setCell ⟨gt, 1, none⟩ x1).setCell ⟨gt, 2, none⟩ x2).heap.size (((wt.setCell ⟨gt, 0, none⟩ x0).setCell ⟨gt, 1, none⟩ x1).setCell ⟨gt, 2, none⟩ x2) wc) (hc : wc.heap[gc]? = some (.cells c0 23 (0, 0)))
    (f0 : c0.setIfInBounds 0 y0 = c1) (f1 : c1.setIfInBounds 1 y1 = c2) : LtS w gf gb gt gc fcs t3 c2 acc ((wc.setCell ⟨gc, 0, none⟩ y0).setCell ⟨gc, 1, none⟩ y1) := by
  have lt : w.heap.size ≤ gt := by rw [hgt]; exact s.hb.size
  have b1 := s.bs.below hbt
  obtain ⟨cs, hbk⟩ := b1.blk
  have hnb := blk_ne ht hbk (by decide)
  have f1' := blk_below s.bf hbt
  have hnf := blk_ne f1' ht (by decide)
  have b2 := ((b1.set (j := 0) ht hnb (by decide) x0).set (j := 1) (blk_put ht 0 x0 e0) hnb (by decide) x1).set (j := 2) (blk_put (blk_put ht 0 x0 e0) 1 x1 e1) hnb (by decide) x2
  have t3' := blk_put (blk_put (blk_put ht 0 x0 e0) 1 x1 e1) 2 x2 e2
  have f2' := blk_far (blk_far (blk_far f1' (p := ⟨gt, 0, none⟩) hnf x0) (p := ⟨gt, 1, none⟩) hnf x1) (p := ⟨gt, 2, none⟩) hnf x2
  have h1 : Below w.heap.size w wt := below_step s.hb hbt
  have h2 := below_set (j := 2) (v := x2) (below_set (j := 1) (v := x1) (below_set (j := 0) (v := x0) h1 lt) lt) lt
  have lc : w.heap.size ≤ gc := by rw [hgc]; exact h2.size
  have s0 : LtS w gf gb gt gc fcs t3 c0 acc wc := ⟨blk_below f2' hbc, blk_below t3' hbc, hc, b2.below hbc, below_step h2 hbc, s.lb, lc⟩
  exact (s0.setc 0 y0 f0).setc 1 y1 f1
end
attribute [local go_sem high] eqA23
attribute [local go_sem] gl_one0 gl_one1
set_option maxHeartbeats 8000000 in
set_option maxRecDepth 100000 in
theorem linear_Text.calls (k : Nat) (a0_0 a0_1 : Int) (A0_2 : Option Addr) (c0_2 : Nat) (l0_2 : List S47) (r1 : ByteArray) (r2 : Int) (w : World) (hr0_2 : Kd.C k47 w A0_2 l0_2.length l0_2) (hc0_2 : l0_2.length ≤ c0_2) (h : linear_Text.f k a0_0 a0_1 l0_2 = some (r1, r2)) (hG : Glob w) :
  Calls Tryz.prog 30 #[.agg #[.int .i64 a0_0, .int .i64 a0_1, .slice A0_2 l0_2.length c0_2]] w fun e w' => e = .returned (.tuple #[.string r1, .int .i64 r2]) ∧ Below w.heap.size w w' := by
 have hBs : Base w := Base.mk
 have HG := Fa.mk hG
 have HR := Fa.mk hr0_2
 have HC := Fa.mk hc0_2
 clear hG hr0_2 hc0_2
 have HB := Fa.mk (Below.refl w.heap.size w)
 unfold linear_Text.f at h
 split at h
 ·
  cases h
 rename_i hbig
 have HBG : Fa ((l0_2.length : Int) < 9223372036854775807) := ⟨by omega⟩
 clear hbig
 obtain ⟨vd, hv, h⟩ := Option.bind_eq_some_iff.mp h
 have HV := Fa.mk hv
 clear hv
 by_cases hvt : vd = true
 rotate_left
 ·
  rw [if_neg hvt] at h
  obtain rfl : vd = false := by simpa using hvt
  simp only [Option.some.injEq, Prod.mk.injEq] at h
  obtain ⟨rfl, rfl⟩ := h
  clear hvt
  go_enter Tryz.func30, Tryz.ntmps30
  go_wp2_with (first | ((with_reducible refine gate_dst (N := 1) rfl ?_); refine boxF (N := 1) (cs := #[.int .i64 a0_0, .int .i64 a0_1, .slice A0_2 l0_2.length c0_2]) (t := 26) ?_; intro gf hgf w0' hboxf hbf; have HB1 := Fa.mk (bst w hbf); have BF := Fa.mk hboxf; clear hboxf hgf hbf HB; have HB := HB1; clear HB1; have cf0 := cell0 BF.out (i := 0) rfl; have cf1 := cell0 BF.out (i := 1) rfl; have cf2 := cell0 BF.out (i := 2) rfl) | (go_at_call 17; (with_reducible refine (linear_Valid.calls k a0_0 a0_1 _ _ l0_2 false _ (Kd.C_below HR.out fa) HC.out HV.out).mono ?_); rintro e w1 ⟨rfl, hb⟩; have HB1 := Fa.mk (bst w hb); have BF1 := Fa.mk (blk_below BF.out hb); clear HB BF hb cf0 cf1 cf2; have HB := HB1; have BF := BF1; clear HB1 BF1; have cf0 := cell0 BF.out (i := 0) rfl; have cf1 := cell0 BF.out (i := 1) rfl; have cf2 := cell0 BF.out (i := 2) rfl))
  go_ret2
  exact ⟨rfl, fa⟩
 subst hvt
 rw [if_pos rfl] at h
 obtain ⟨S, hS, h⟩ := Option.bind_eq_some_iff.mp h
 obtain ⟨E, hE, h⟩ := Option.bind_eq_some_iff.mp h
 split at h
 rotate_left
 ·
  cases h
 rename_i hlen
 simp only [Option.some.injEq, Prod.mk.injEq] at h
 obtain ⟨rfl, rfl⟩ := h
 have HS := Fa.mk hS
 have HE := Fa.mk hE
 have HL := Fa.mk hlen
 clear hS hE hlen
 go_enter Tryz.func30, Tryz.ntmps30
 go_wp2_with (first | ((with_reducible refine gate_dst (N := 1) rfl ?_); refine boxF (N := 1) (cs := #[.int .i64 a0_0, .int .i64 a0_1, .slice A0_2 l0_2.length c0_2]) (t := 26) ?_; intro gf hgf w0' hboxf hbf; have HB1 := Fa.mk (bst w hbf); have BF := Fa.mk hboxf; clear hboxf hgf hbf HB; have HB := HB1; clear HB1; have cf0 := cell0 BF.out (i := 0) rfl; have cf1 := cell0 BF.out (i := 1) rfl; have cf2 := cell0 BF.out (i := 2) rfl) | (go_at_call 17; (with_reducible refine (linear_Valid.calls k a0_0 a0_1 _ _ l0_2 true _ (Kd.C_below HR.out fa) HC.out HV.out).mono ?_); rintro e w1 ⟨rfl, hb⟩; have HB1 := Fa.mk (bst w hb); have BF1 := Fa.mk (blk_below BF.out hb); clear HB BF hb cf0 cf1 cf2; have HB := HB1; have BF := BF1; clear HB1 BF1; have cf0 := cell0 BF.out (i := 0) rfl; have cf1 := cell0 BF.out (i := 1) rfl; have cf2 := cell0 BF.out (i := 2) rfl) | ((with_reducible refine gate_dst (N := 4) rfl ?_); refine boxF (N := 4) (cs := #[.pointer none, .slice none 0 0]) (t := 73) ?_; intro gb hgb w2 hboxb hbb; have HL0 := Fa.mk (LtL.mk (blk_below BF.out hbb) (Bs.mk0 hboxb) (bst w hbb) (gle hgb : w.heap.size ≤ gb)); clear hboxb hgb hbb; have cf0 := cell0 HL0.out.bf (i := 0) rfl; have cf1 := cell0 HL0.out.bf (i := 1) rfl; have cf2 := cell0 HL0.out.bf (i := 2) rfl))
 go_loopw [18] (fun i W => ∃ (j : Nat) (sj rj : List UInt8), j ≤ l0_2.length ∧ i = .int .i64 j ∧ Fa (tgo k (decide (j = 0)) (l0_2.drop j) = some rj) ∧ Fa (sj ++ rj = S) ∧ Fa (LtL w gf gb #[.int .i64 a0_0, .int .i64 a0_1, .slice A0_2 l0_2.length c0_2] sj W)) (fun i _ => l0_2.length - (intOf i).toNat)
 case atStart => exact ⟨0, [], S, Nat.zero_le _, rfl, by simpa using HS, ⟨by simp⟩, HL0⟩
 case round =>
  clear HL0 cf0 cf1 cf2
  obtain ⟨j, sj, rj, hj, rfl, HT, HJ, HLj⟩ := hrel
  have HBj : Fa (Below w.heap.size w wr) := ⟨HLj.out.hb⟩
  by_cases hlt : j < l0_2.length
  ·
   have hj1 : (j : Int) < 9223372036854775806 := by have := HBG.out; omega
   have hj2 : (0 : Int) ≤ j := by omega
   obtain ⟨ta, tb, h1, h2, h3⟩ := tgo_drop hlt HT.out
   clear HT
   have HT2 : Fa (tgo k (decide (j + 1 = 0)) (l0_2.drop (j + 1)) = some tb) := ⟨by rw [decide_eq_false (by omega)]; exact h2⟩
   have HJ2 : Fa ((sj ++ ta) ++ tb = S) := ⟨by rw [List.append_assoc, ← h3]; exact HJ.out⟩
   clear h2 h3 HJ
   have hll : sj.length + ta.length + tb.length + E.length ≤ 140737488355328 := by have := HL.out; have e := congrArg List.length HJ2.out; simp only [List.length_append] at e; omega
   have HLL := Fa.mk hll
   clear hll
   obtain ⟨ad, ead, hx0, hx1, hx2⟩ := at_T47 HR.out (j : Int) (by omega) (by omega)
   cases ead
   replace hx0 := (HBj.out.cell (World.block_lt_of_cell? w _ hx0)).trans hx0
   replace hx1 := (HBj.out.cell (World.block_lt_of_cell? w _ hx1)).trans hx1
   replace hx2 := (HBj.out.cell (World.block_lt_of_cell? w _ hx2)).trans hx2
   obtain ⟨tt, htt⟩ : ∃ tt, rd_T47 l0_2 (j : Int) = tt := ⟨_, rfl⟩
   rw [htt] at h1 hx0 hx1 hx2
   clear htt
   obtain ⟨v, ⟨p, q⟩⟩ := tt
   dsimp only at h1 hx0 hx1 hx2
   unfold tone at h1
   obtain ⟨tc, hc, h1⟩ := Option.bind_eq_some_iff.mp h1
   dsimp only at hc h1
   have h1 := Option.some.inj h1
   unfold tbody at hc
   rw [Int.toNat_natCast] at hx0 hx1 hx2
   by_cases hp : p < 0
   ·
    rw [show tabs p = wrap64 (-p) from if_pos hp] at hc
    rw [show tsgn (decide (j = 0)) p = [45] from if_pos hp] at h1
    have d0 : decide (p < 0) = true := decide_eq_true hp
    clear hp
    by_cases hone : (wrap64 (-p)) = 1 ∧ q = 1
    ·
     rw [if_pos hone] at hc
     have HN : Fa ((!((wrap64 (-p)) == 1) || (!(q == 1))) = false) := ⟨by rw [hone.1, hone.2]; rfl⟩
     clear hone
     obtain rfl := (Option.some.inj hc)
     clear hc
     have HA : Fa (ta.length = 1 + v.size) := ⟨by rw [← h1]; simp [Array.length_toList, ← ByteArray.size_data] <;> omega⟩
     have HQ : Fa (sj ++ ta = (sj ++ [45]) ++ v.data.toList) := ⟨by rw [← h1]; simp only [List.append_assoc, List.nil_append, List.append_nil]⟩
     clear h1
     have e0 : (!((wrap64 (-p)) == 1) || (!(q == 1))) = false := HN.out
     clear HN
     have HL0 : Fa (sj.length + 1 ≤ 140737488355328) := ⟨by have := HLL.out; have := HA.out; simp only [List.length_append, List.length_cons, List.length_nil, Array.length_toList, ByteArray.size_append, ByteArray.size_data] at *; omega⟩
     have HL2 : Fa ((sj ++ [45]).length + v.size ≤ 140737488355328) := ⟨by have := HLL.out; have := HA.out; simp only [List.length_append, List.length_cons, List.length_nil] at *; omega⟩
     go_wp2_with (first | ((with_reducible refine gate_dst (N := 6) rfl ?_); refine boxF (N := 6) (cs := #[.string (⟨#[]⟩ : ByteArray), .int .i64 0, .int .i64 0]) (t := 47) ?_; intro gt hgt wt hboxt hbt; have HGT := Fa.mk hgt; have HBT := Fa.mk hbt; have BT0 := Fa.mk hboxt; clear hgt hbt hboxt; have ct0 := cell0 BT0.out (i := 0) rfl; have ct1 := cell0 BT0.out (i := 1) rfl; have ct2 := cell0 BT0.out (i := 2) rfl; have ft0 := blk_frozen BT0.out 0; have ft1 := blk_frozen BT0.out 1; have ft2 := blk_frozen BT0.out 2) | ((with_reducible refine gate_dst (N := 7) rfl ?_); refine boxF (N := 7) (cs := #[.int .i64 0, .int .i64 0]) (t := 23) ?_; intro gc hgc wc hboxc hbc; have s1 := Fa.mk (LtS.start (x0 := .string v) (x1 := .int .i64 p) (x2 := .int .i64 q) (y0 := .int .i64 p) (y1 := .int .i64 q) (t3 := #[.string v, .int .i64 p, .int .i64 q]) (c2 := #[.int .i64 p, .int .i64 q]) HLj.out HGT.out HBT.out BT0.out rfl rfl rfl hgc hbc hboxc rfl rfl); have cc0 := cell0 hboxc (i := 0) rfl; have cc1 := cell0 hboxc (i := 1) rfl; have fc0 := blk_frozen hboxc 0; have fc1 := blk_frozen hboxc 1; clear hgc hbc hboxc ct0 ct1 ct2 ft0 ft1 ft2 HGT HBT BT0) | (go_at_call 59; (with_reducible refine (bs_writeByte 45 45 rfl s1.out.bs HL0.out).mono ?_); rintro e wa ⟨rfl, hbs, hbb, hok⟩; have s2 := Fa.mk (s1.out.write hbs hbb hok); clear hbs hbb hok cc0 cc1 fc0 fc1 s1; have ca0 := cell0 s2.out.bc (i := 0) rfl; have ca1 := cell0 s2.out.bc (i := 1) rfl; have cz0 := blk_frozen s2.out.bc 0; have cz1 := blk_frozen s2.out.bc 1; have cb0 := cell0 s2.out.bt (i := 0) rfl; have HBa := Fa.mk s2.out.hb; have hn1 := blk_ne s2.out.bt s2.out.bc (by decide); have hn2 := hn1.symm; have GEc := Fa.mk s2.out.lc) | (go_at_call 61; have s6 := Fa.mk (s2.out.setc 0 (.int .i64 (wrap64 (-p))) (ccs' := #[.int .i64 (wrap64 (-p)), .int .i64 q]) rfl); (with_reducible refine (bs_writeString v s6.out.bs HL2.out).mono ?_); rintro e we ⟨rfl, hbs, hbb, hok⟩; have s7 := Fa.mk (s6.out.write hbs hbb hok).out; clear hbs hbb hok s6))
     go_roundw
     case rel => exact ⟨j + 1, sj ++ ta, tb, by omega, by go_num, HT2, HJ2, by rw [HQ.out]; exact s7⟩
     case measure => simp [intOf]; omega
    ·
     rw [if_neg hone] at hc
     have HN : Fa ((!((wrap64 (-p)) == 1) || (!(q == 1))) = true) := ⟨by rw [Bool.eq_iff_iff]; simp only [Bool.or_eq_true, Bool.not_eq_true', beq_eq_false_iff_ne, iff_true]; by_cases h9 : (wrap64 (-p)) = 1 <;> simp_all⟩
     clear hone
     obtain ⟨⟨tx, te⟩, hx, hc⟩ := Option.bind_eq_some_iff.mp hc
     have HX := Fa.mk hx
     clear hx
     dsimp only at hc
     split at hc
     rotate_left
     ·
      cases hc
     rename_i hsz
     have hc := Option.some.inj hc
     have c0 := eq_true hsz
     have c1 : decide (tx.size + 1 ≤ 9223372036854775807) = true := decide_eq_true hsz
     have c2 : (9223372036854775807 < tx.size + 1) = False := eq_false (Nat.not_lt.2 hsz)
     clear hsz
     have tok1 : True := trivial
     have HA : Fa (ta.length = 1 + (tx.size + 1) + v.size) := ⟨by rw [← h1, ← hc]; simp [Array.length_toList, ByteArray.size_append, ← ByteArray.size_data] <;> omega⟩
     have HQ : Fa (sj ++ ta = ((sj ++ [45]) ++ (tx ++ (⟨#[42]⟩ : ByteArray)).data.toList) ++ v.data.toList) := ⟨by rw [← h1, ← hc]; simp only [List.append_assoc]⟩
     clear hc h1
     have e0 : (!((wrap64 (-p)) == 1) || (!(q == 1))) = true := HN.out
     clear HN
     have HL0 : Fa (sj.length + 1 ≤ 140737488355328) := ⟨by have := HLL.out; have := HA.out; simp only [List.length_append, List.length_cons, List.length_nil, Array.length_toList, ByteArray.size_append, ByteArray.size_data] at *; omega⟩
     have hs1 : (tx ++ (⟨#[42]⟩ : ByteArray)).size = tx.size + 1 := by rw [ByteArray.size_append]; rfl
     have hs2 : (tx ++ (⟨#[42]⟩ : ByteArray)).data.toList.length = tx.size + 1 := (Array.length_toList).trans hs1
     have HL1 : Fa ((sj ++ [45]).length + (tx ++ (⟨#[42]⟩ : ByteArray)).size ≤ 140737488355328) := ⟨by rw [hs1]; have := HLL.out; have := HA.out; simp only [List.length_append, List.length_cons, List.length_nil] at *; omega⟩
     have HL2 : Fa (((sj ++ [45]) ++ (tx ++ (⟨#[42]⟩ : ByteArray)).data.toList).length + v.size ≤ 140737488355328) := ⟨by rw [List.length_append, hs2]; have := HLL.out; have := HA.out; simp only [List.length_append, List.length_cons, List.length_nil] at *; omega⟩
     clear hs1 hs2
     go_wp2_with (first | ((with_reducible refine gate_dst (N := 6) rfl ?_); refine boxF (N := 6) (cs := #[.string (⟨#[]⟩ : ByteArray), .int .i64 0, .int .i64 0]) (t := 47) ?_; intro gt hgt wt hboxt hbt; have HGT := Fa.mk hgt; have HBT := Fa.mk hbt; have BT0 := Fa.mk hboxt; clear hgt hbt hboxt; have ct0 := cell0 BT0.out (i := 0) rfl; have ct1 := cell0 BT0.out (i := 1) rfl; have ct2 := cell0 BT0.out (i := 2) rfl; have ft0 := blk_frozen BT0.out 0; have ft1 := blk_frozen BT0.out 1; have ft2 := blk_frozen BT0.out 2) | ((with_reducible refine gate_dst (N := 7) rfl ?_); refine boxF (N := 7) (cs := #[.int .i64 0, .int .i64 0]) (t := 23) ?_; intro gc hgc wc hboxc hbc; have s1 := Fa.mk (LtS.start (x0 := .string v) (x1 := .int .i64 p) (x2 := .int .i64 q) (y0 := .int .i64 p) (y1 := .int .i64 q) (t3 := #[.string v, .int .i64 p, .int .i64 q]) (c2 := #[.int .i64 p, .int .i64 q]) HLj.out HGT.out HBT.out BT0.out rfl rfl rfl hgc hbc hboxc rfl rfl); have cc0 := cell0 hboxc (i := 0) rfl; have cc1 := cell0 hboxc (i := 1) rfl; have fc0 := blk_frozen hboxc 0; have fc1 := blk_frozen hboxc 1; clear hgc hbc hboxc ct0 ct1 ct2 ft0 ft1 ft2 HGT HBT BT0) | (go_at_call 59; (with_reducible refine (bs_writeByte 45 45 rfl s1.out.bs HL0.out).mono ?_); rintro e wa ⟨rfl, hbs, hbb, hok⟩; have s2 := Fa.mk (s1.out.write hbs hbb hok); clear hbs hbb hok cc0 cc1 fc0 fc1 s1; have ca0 := cell0 s2.out.bc (i := 0) rfl; have ca1 := cell0 s2.out.bc (i := 1) rfl; have cz0 := blk_frozen s2.out.bc 0; have cz1 := blk_frozen s2.out.bc 1; have cb0 := cell0 s2.out.bt (i := 0) rfl; have HBa := Fa.mk s2.out.hb; have hn1 := blk_ne s2.out.bt s2.out.bc (by decide); have hn2 := hn1.symm; have GEc := Fa.mk s2.out.lc) | (go_at_call 60; have s3 := Fa.mk (s2.out.setc 0 (.int .i64 (wrap64 (-p))) (ccs' := #[.int .i64 (wrap64 (-p)), .int .i64 q]) rfl); clear s2; (with_reducible refine (num_Text.calls k (wrap64 (-p)) q tx te _ HX.out (HG.out.below s3.out.hb)).mono ?_); rintro e wb ⟨rfl, hb⟩; have s4 := Fa.mk (s3.out.call hb); clear hb s3 ca0 ca1 cz0 cz1 cb0 HBa hn1 hn2; have ca0 := cell0 s4.out.bc (i := 0) rfl; have ca1 := cell0 s4.out.bc (i := 1) rfl; have cz0 := blk_frozen s4.out.bc 0; have cz1 := blk_frozen s4.out.bc 1; have cb0 := cell0 s4.out.bt (i := 0) rfl; have HBa := Fa.mk s4.out.hb; have hn1 := blk_ne s4.out.bt s4.out.bc (by decide); have hn2 := hn1.symm) | (have _t := tok1; go_at_call 61; (with_reducible refine (bs_writeString (tx ++ (⟨#[42]⟩ : ByteArray)) s4.out.bs HL1.out).mono ?_); clear tok1; rintro e wd ⟨rfl, hbs, hbb, hok⟩; have s5 := Fa.mk (s4.out.write hbs hbb hok); clear hbs hbb hok s4 ca0 ca1 cz0 cz1 cb0 HBa hn1 hn2; have ca0 := cell0 s5.out.bc (i := 0) rfl; have ca1 := cell0 s5.out.bc (i := 1) rfl; have cz0 := blk_frozen s5.out.bc 0; have cz1 := blk_frozen s5.out.bc 1; have cb0 := cell0 s5.out.bt (i := 0) rfl; have HBa := Fa.mk s5.out.hb; have hn1 := blk_ne s5.out.bt s5.out.bc (by decide); have hn2 := hn1.symm) | (go_at_call 61; have s6 := Fa.mk s5.out; (with_reducible refine (bs_writeString v s6.out.bs HL2.out).mono ?_); rintro e we ⟨rfl, hbs, hbb, hok⟩; have s7 := Fa.mk (s6.out.write hbs hbb hok).out; clear hbs hbb hok s6))
     go_roundw
     case rel => exact ⟨j + 1, sj ++ ta, tb, by omega, by go_num, HT2, HJ2, by rw [HQ.out]; exact s7⟩
     case measure => simp [intOf]; omega
   ·
    by_cases hj0 : j = 0
    ·
     rw [show tabs p = p from if_neg hp] at hc
     rw [show tsgn (decide (j = 0)) p = [] from by unfold tsgn; rw [if_neg hp, decide_eq_true hj0]; rfl] at h1
     have d0 : decide (p < 0) = false := decide_eq_false hp
     have d1 : decide (0 < (j : Int)) = false := decide_eq_false (by omega)
     have d2 : ¬ 0 < j := by omega
     clear hp hj0
     by_cases hone : p = 1 ∧ q = 1
     ·
      rw [if_pos hone] at hc
      have HN : Fa ((!(p == 1) || (!(q == 1))) = false) := ⟨by rw [hone.1, hone.2]; rfl⟩
      clear hone
      obtain rfl := (Option.some.inj hc)
      clear hc
      have HA : Fa (ta.length = 0 + v.size) := ⟨by rw [← h1]; simp [Array.length_toList, ← ByteArray.size_data] <;> omega⟩
      have HQ : Fa (sj ++ ta = (sj ++ []) ++ v.data.toList) := ⟨by rw [← h1]; simp only [List.append_assoc, List.nil_append, List.append_nil]⟩
      clear h1
      have e0 : (!(p == 1) || (!(q == 1))) = false := HN.out
      clear HN
      have HL2 : Fa (sj.length + v.size ≤ 140737488355328) := ⟨by have := HLL.out; have := HA.out; simp only [List.length_append, List.length_cons, List.length_nil] at *; omega⟩
      go_wp2_with (first | ((with_reducible refine gate_dst (N := 6) rfl ?_); refine boxF (N := 6) (cs := #[.string (⟨#[]⟩ : ByteArray), .int .i64 0, .int .i64 0]) (t := 47) ?_; intro gt hgt wt hboxt hbt; have HGT := Fa.mk hgt; have HBT := Fa.mk hbt; have BT0 := Fa.mk hboxt; clear hgt hbt hboxt; have ct0 := cell0 BT0.out (i := 0) rfl; have ct1 := cell0 BT0.out (i := 1) rfl; have ct2 := cell0 BT0.out (i := 2) rfl; have ft0 := blk_frozen BT0.out 0; have ft1 := blk_frozen BT0.out 1; have ft2 := blk_frozen BT0.out 2) | ((with_reducible refine gate_dst (N := 7) rfl ?_); refine boxF (N := 7) (cs := #[.int .i64 0, .int .i64 0]) (t := 23) ?_; intro gc hgc wc hboxc hbc; have s1 := Fa.mk (LtS.start (x0 := .string v) (x1 := .int .i64 p) (x2 := .int .i64 q) (y0 := .int .i64 p) (y1 := .int .i64 q) (t3 := #[.string v, .int .i64 p, .int .i64 q]) (c2 := #[.int .i64 p, .int .i64 q]) HLj.out HGT.out HBT.out BT0.out rfl rfl rfl hgc hbc hboxc rfl rfl); have cc0 := cell0 hboxc (i := 0) rfl; have cc1 := cell0 hboxc (i := 1) rfl; have fc0 := blk_frozen hboxc 0; have fc1 := blk_frozen hboxc 1; clear hgc hbc hboxc ct0 ct1 ct2 ft0 ft1 ft2 HGT HBT BT0; have hn1 := blk_ne s1.out.bt s1.out.bc (by decide); have hn2 := hn1.symm; have cb0 := cell0 s1.out.bt (i := 0) rfl; have HBa : Fa (Below w.heap.size w _) := ⟨s1.out.hb⟩) | (go_at_call 61; have s6 := Fa.mk s1.out; (with_reducible refine (bs_writeString v s6.out.bs HL2.out).mono ?_); rintro e we ⟨rfl, hbs, hbb, hok⟩; have s7 := Fa.mk (s6.out.write hbs hbb hok).out; clear hbs hbb hok s6))
      go_roundw
      case rel => exact ⟨j + 1, sj ++ ta, tb, by omega, by go_num, HT2, HJ2, by rw [HQ.out]; rw [List.append_nil]; exact s7⟩
      case measure => simp [intOf]; omega
     ·
      rw [if_neg hone] at hc
      have HN : Fa ((!(p == 1) || (!(q == 1))) = true) := ⟨by rw [Bool.eq_iff_iff]; simp only [Bool.or_eq_true, Bool.not_eq_true', beq_eq_false_iff_ne, iff_true]; by_cases h9 : p = 1 <;> simp_all⟩
      clear hone
      obtain ⟨⟨tx, te⟩, hx, hc⟩ := Option.bind_eq_some_iff.mp hc
      have HX := Fa.mk hx
      clear hx
      dsimp only at hc
      split at hc
      rotate_left
      ·
       cases hc
      rename_i hsz
      have hc := Option.some.inj hc
      have c0 := eq_true hsz
      have c1 : decide (tx.size + 1 ≤ 9223372036854775807) = true := decide_eq_true hsz
      have c2 : (9223372036854775807 < tx.size + 1) = False := eq_false (Nat.not_lt.2 hsz)
      clear hsz
      have tok1 : True := trivial
      have HA : Fa (ta.length = 0 + (tx.size + 1) + v.size) := ⟨by rw [← h1, ← hc]; simp [Array.length_toList, ByteArray.size_append, ← ByteArray.size_data] <;> omega⟩
      have HQ : Fa (sj ++ ta = ((sj ++ []) ++ (tx ++ (⟨#[42]⟩ : ByteArray)).data.toList) ++ v.data.toList) := ⟨by rw [← h1, ← hc]; simp only [List.append_assoc]⟩
      clear hc h1
      have e0 : (!(p == 1) || (!(q == 1))) = true := HN.out
      clear HN
      have hs1 : (tx ++ (⟨#[42]⟩ : ByteArray)).size = tx.size + 1 := by rw [ByteArray.size_append]; rfl
      have hs2 : (tx ++ (⟨#[42]⟩ : ByteArray)).data.toList.length = tx.size + 1 := (Array.length_toList).trans hs1
      have HL1 : Fa (sj.length + (tx ++ (⟨#[42]⟩ : ByteArray)).size ≤ 140737488355328) := ⟨by rw [hs1]; have := HLL.out; have := HA.out; simp only [List.length_append, List.length_cons, List.length_nil] at *; omega⟩
      have HL2 : Fa ((sj ++ (tx ++ (⟨#[42]⟩ : ByteArray)).data.toList).length + v.size ≤ 140737488355328) := ⟨by rw [List.length_append, hs2]; have := HLL.out; have := HA.out; simp only [List.length_append, List.length_cons, List.length_nil] at *; omega⟩
      clear hs1 hs2
      go_wp2_with (first | ((with_reducible refine gate_dst (N := 6) rfl ?_); refine boxF (N := 6) (cs := #[.string (⟨#[]⟩ : ByteArray), .int .i64 0, .int .i64 0]) (t := 47) ?_; intro gt hgt wt hboxt hbt; have HGT := Fa.mk hgt; have HBT := Fa.mk hbt; have BT0 := Fa.mk hboxt; clear hgt hbt hboxt; have ct0 := cell0 BT0.out (i := 0) rfl; have ct1 := cell0 BT0.out (i := 1) rfl; have ct2 := cell0 BT0.out (i := 2) rfl; have ft0 := blk_frozen BT0.out 0; have ft1 := blk_frozen BT0.out 1; have ft2 := blk_frozen BT0.out 2) | ((with_reducible refine gate_dst (N := 7) rfl ?_); refine boxF (N := 7) (cs := #[.int .i64 0, .int .i64 0]) (t := 23) ?_; intro gc hgc wc hboxc hbc; have s1 := Fa.mk (LtS.start (x0 := .string v) (x1 := .int .i64 p) (x2 := .int .i64 q) (y0 := .int .i64 p) (y1 := .int .i64 q) (t3 := #[.string v, .int .i64 p, .int .i64 q]) (c2 := #[.int .i64 p, .int .i64 q]) HLj.out HGT.out HBT.out BT0.out rfl rfl rfl hgc hbc hboxc rfl rfl); have cc0 := cell0 hboxc (i := 0) rfl; have cc1 := cell0 hboxc (i := 1) rfl; have fc0 := blk_frozen hboxc 0; have fc1 := blk_frozen hboxc 1; clear hgc hbc hboxc ct0 ct1 ct2 ft0 ft1 ft2 HGT HBT BT0; have hn1 := blk_ne s1.out.bt s1.out.bc (by decide); have hn2 := hn1.symm; have cb0 := cell0 s1.out.bt (i := 0) rfl; have HBa : Fa (Below w.heap.size w _) := ⟨s1.out.hb⟩) | (go_at_call 60; have s3 := Fa.mk s1.out; clear s1; (with_reducible refine (num_Text.calls k p q tx te _ HX.out (HG.out.below s3.out.hb)).mono ?_); rintro e wb ⟨rfl, hb⟩; have s4 := Fa.mk (s3.out.call hb); clear hb s3 cc0 cc1 fc0 fc1 HBa hn1 hn2 cb0; have ca0 := cell0 s4.out.bc (i := 0) rfl; have ca1 := cell0 s4.out.bc (i := 1) rfl; have cz0 := blk_frozen s4.out.bc 0; have cz1 := blk_frozen s4.out.bc 1; have cb0 := cell0 s4.out.bt (i := 0) rfl; have HBa := Fa.mk s4.out.hb; have hn1 := blk_ne s4.out.bt s4.out.bc (by decide); have hn2 := hn1.symm) | (have _t := tok1; go_at_call 61; (with_reducible refine (bs_writeString (tx ++ (⟨#[42]⟩ : ByteArray)) s4.out.bs HL1.out).mono ?_); clear tok1; rintro e wd ⟨rfl, hbs, hbb, hok⟩; have s5 := Fa.mk (s4.out.write hbs hbb hok); clear hbs hbb hok s4 ca0 ca1 cz0 cz1 cb0 HBa hn1 hn2; have ca0 := cell0 s5.out.bc (i := 0) rfl; have ca1 := cell0 s5.out.bc (i := 1) rfl; have cz0 := blk_frozen s5.out.bc 0; have cz1 := blk_frozen s5.out.bc 1; have cb0 := cell0 s5.out.bt (i := 0) rfl; have HBa := Fa.mk s5.out.hb; have hn1 := blk_ne s5.out.bt s5.out.bc (by decide); have hn2 := hn1.symm) | (go_at_call 61; have s6 := Fa.mk s5.out; (with_reducible refine (bs_writeString v s6.out.bs HL2.out).mono ?_); rintro e we ⟨rfl, hbs, hbb, hok⟩; have s7 := Fa.mk (s6.out.write hbs hbb hok).out; clear hbs hbb hok s6))
      go_roundw
      case rel => exact ⟨j + 1, sj ++ ta, tb, by omega, by go_num, HT2, HJ2, by rw [HQ.out]; rw [List.append_nil]; exact s7⟩
      case measure => simp [intOf]; omega
    ·
     rw [show tabs p = p from if_neg hp] at hc
     rw [show tsgn (decide (j = 0)) p = [43] from by unfold tsgn; rw [if_neg hp, decide_eq_false (by omega)]; rfl] at h1
     have d0 : decide (p < 0) = false := decide_eq_false hp
     have d1 : decide (0 < (j : Int)) = true := decide_eq_true (by omega)
     have d2 : 0 < j := by omega
     clear hp hj0
     by_cases hone : p = 1 ∧ q = 1
     ·
      rw [if_pos hone] at hc
      have HN : Fa ((!(p == 1) || (!(q == 1))) = false) := ⟨by rw [hone.1, hone.2]; rfl⟩
      clear hone
      obtain rfl := (Option.some.inj hc)
      clear hc
      have HA : Fa (ta.length = 1 + v.size) := ⟨by rw [← h1]; simp [Array.length_toList, ← ByteArray.size_data] <;> omega⟩
      have HQ : Fa (sj ++ ta = (sj ++ [43]) ++ v.data.toList) := ⟨by rw [← h1]; simp only [List.append_assoc, List.nil_append, List.append_nil]⟩
      clear h1
      have e0 : (!(p == 1) || (!(q == 1))) = false := HN.out
      clear HN
      have HL0 : Fa (sj.length + 1 ≤ 140737488355328) := ⟨by have := HLL.out; have := HA.out; simp only [List.length_append, List.length_cons, List.length_nil, Array.length_toList, ByteArray.size_append, ByteArray.size_data] at *; omega⟩
      have HL2 : Fa ((sj ++ [43]).length + v.size ≤ 140737488355328) := ⟨by have := HLL.out; have := HA.out; simp only [List.length_append, List.length_cons, List.length_nil] at *; omega⟩
      go_wp2_with (first | ((with_reducible refine gate_dst (N := 6) rfl ?_); refine boxF (N := 6) (cs := #[.string (⟨#[]⟩ : ByteArray), .int .i64 0, .int .i64 0]) (t := 47) ?_; intro gt hgt wt hboxt hbt; have HGT := Fa.mk hgt; have HBT := Fa.mk hbt; have BT0 := Fa.mk hboxt; clear hgt hbt hboxt; have ct0 := cell0 BT0.out (i := 0) rfl; have ct1 := cell0 BT0.out (i := 1) rfl; have ct2 := cell0 BT0.out (i := 2) rfl; have ft0 := blk_frozen BT0.out 0; have ft1 := blk_frozen BT0.out 1; have ft2 := blk_frozen BT0.out 2) | ((with_reducible refine gate_dst (N := 7) rfl ?_); refine boxF (N := 7) (cs := #[.int .i64 0, .int .i64 0]) (t := 23) ?_; intro gc hgc wc hboxc hbc; have s1 := Fa.mk (LtS.start (x0 := .string v) (x1 := .int .i64 p) (x2 := .int .i64 q) (y0 := .int .i64 p) (y1 := .int .i64 q) (t3 := #[.string v, .int .i64 p, .int .i64 q]) (c2 := #[.int .i64 p, .int .i64 q]) HLj.out HGT.out HBT.out BT0.out rfl rfl rfl hgc hbc hboxc rfl rfl); have cc0 := cell0 hboxc (i := 0) rfl; have cc1 := cell0 hboxc (i := 1) rfl; have fc0 := blk_frozen hboxc 0; have fc1 := blk_frozen hboxc 1; clear hgc hbc hboxc ct0 ct1 ct2 ft0 ft1 ft2 HGT HBT BT0) | (go_at_call 59; (with_reducible refine (bs_writeByte 43 43 rfl s1.out.bs HL0.out).mono ?_); rintro e wa ⟨rfl, hbs, hbb, hok⟩; have s2 := Fa.mk (s1.out.write hbs hbb hok); clear hbs hbb hok cc0 cc1 fc0 fc1 s1; have ca0 := cell0 s2.out.bc (i := 0) rfl; have ca1 := cell0 s2.out.bc (i := 1) rfl; have cz0 := blk_frozen s2.out.bc 0; have cz1 := blk_frozen s2.out.bc 1; have cb0 := cell0 s2.out.bt (i := 0) rfl; have HBa := Fa.mk s2.out.hb; have hn1 := blk_ne s2.out.bt s2.out.bc (by decide); have hn2 := hn1.symm; have GEc := Fa.mk s2.out.lc) | (go_at_call 61; have s6 := Fa.mk s2.out; (with_reducible refine (bs_writeString v s6.out.bs HL2.out).mono ?_); rintro e we ⟨rfl, hbs, hbb, hok⟩; have s7 := Fa.mk (s6.out.write hbs hbb hok).out; clear hbs hbb hok s6))
      go_roundw
      case rel => exact ⟨j + 1, sj ++ ta, tb, by omega, by go_num, HT2, HJ2, by rw [HQ.out]; exact s7⟩
      case measure => simp [intOf]; omega
     ·
      rw [if_neg hone] at hc
      have HN : Fa ((!(p == 1) || (!(q == 1))) = true) := ⟨by rw [Bool.eq_iff_iff]; simp only [Bool.or_eq_true, Bool.not_eq_true', beq_eq_false_iff_ne, iff_true]; by_cases h9 : p = 1 <;> simp_all⟩
      clear hone
      obtain ⟨⟨tx, te⟩, hx, hc⟩ := Option.bind_eq_some_iff.mp hc
      have HX := Fa.mk hx
      clear hx
      dsimp only at hc
      split at hc
      rotate_left
      ·
       cases hc
      rename_i hsz
      have hc := Option.some.inj hc
      have c0 := eq_true hsz
      have c1 : decide (tx.size + 1 ≤ 9223372036854775807) = true := decide_eq_true hsz
      have c2 : (9223372036854775807 < tx.size + 1) = False := eq_false (Nat.not_lt.2 hsz)
      clear hsz
      have tok1 : True := trivial
      have HA : Fa (ta.length = 1 + (tx.size + 1) + v.size) := ⟨by rw [← h1, ← hc]; simp [Array.length_toList, ByteArray.size_append, ← ByteArray.size_data] <;> omega⟩
      have HQ : Fa (sj ++ ta = ((sj ++ [43]) ++ (tx ++ (⟨#[42]⟩ : ByteArray)).data.toList) ++ v.data.toList) := ⟨by rw [← h1, ← hc]; simp only [List.append_assoc]⟩
      clear hc h1
      have e0 : (!(p == 1) || (!(q == 1))) = true := HN.out
      clear HN
      have HL0 : Fa (sj.length + 1 ≤ 140737488355328) := ⟨by have := HLL.out; have := HA.out; simp only [List.length_append, List.length_cons, List.length_nil, Array.length_toList, ByteArray.size_append, ByteArray.size_data] at *; omega⟩
      have hs1 : (tx ++ (⟨#[42]⟩ : ByteArray)).size = tx.size + 1 := by rw [ByteArray.size_append]; rfl
      have hs2 : (tx ++ (⟨#[42]⟩ : ByteArray)).data.toList.length = tx.size + 1 := (Array.length_toList).trans hs1
      have HL1 : Fa ((sj ++ [43]).length + (tx ++ (⟨#[42]⟩ : ByteArray)).size ≤ 140737488355328) := ⟨by rw [hs1]; have := HLL.out; have := HA.out; simp only [List.length_append, List.length_cons, List.length_nil] at *; omega⟩
      have HL2 : Fa (((sj ++ [43]) ++ (tx ++ (⟨#[42]⟩ : ByteArray)).data.toList).length + v.size ≤ 140737488355328) := ⟨by rw [List.length_append, hs2]; have := HLL.out; have := HA.out; simp only [List.length_append, List.length_cons, List.length_nil] at *; omega⟩
      clear hs1 hs2
      go_wp2_with (first | ((with_reducible refine gate_dst (N := 6) rfl ?_); refine boxF (N := 6) (cs := #[.string (⟨#[]⟩ : ByteArray), .int .i64 0, .int .i64 0]) (t := 47) ?_; intro gt hgt wt hboxt hbt; have HGT := Fa.mk hgt; have HBT := Fa.mk hbt; have BT0 := Fa.mk hboxt; clear hgt hbt hboxt; have ct0 := cell0 BT0.out (i := 0) rfl; have ct1 := cell0 BT0.out (i := 1) rfl; have ct2 := cell0 BT0.out (i := 2) rfl; have ft0 := blk_frozen BT0.out 0; have ft1 := blk_frozen BT0.out 1; have ft2 := blk_frozen BT0.out 2) | ((with_reducible refine gate_dst (N := 7) rfl ?_); refine boxF (N := 7) (cs := #[.int .i64 0, .int .i64 0]) (t := 23) ?_; intro gc hgc wc hboxc hbc; have s1 := Fa.mk (LtS.start (x0 := .string v) (x1 := .int .i64 p) (x2 := .int .i64 q) (y0 := .int .i64 p) (y1 := .int .i64 q) (t3 := #[.string v, .int .i64 p, .int .i64 q]) (c2 := #[.int .i64 p, .int .i64 q]) HLj.out HGT.out HBT.out BT0.out rfl rfl rfl hgc hbc hboxc rfl rfl); have cc0 := cell0 hboxc (i := 0) rfl; have cc1 := cell0 hboxc (i := 1) rfl; have fc0 := blk_frozen hboxc 0; have fc1 := blk_frozen hboxc 1; clear hgc hbc hboxc ct0 ct1 ct2 ft0 ft1 ft2 HGT HBT BT0) | (go_at_call 59; (with_reducible refine (bs_writeByte 43 43 rfl s1.out.bs HL0.out).mono ?_); rintro e wa ⟨rfl, hbs, hbb, hok⟩; have s2 := Fa.mk (s1.out.write hbs hbb hok); clear hbs hbb hok cc0 cc1 fc0 fc1 s1; have ca0 := cell0 s2.out.bc (i := 0) rfl; have ca1 := cell0 s2.out.bc (i := 1) rfl; have cz0 := blk_frozen s2.out.bc 0; have cz1 := blk_frozen s2.out.bc 1; have cb0 := cell0 s2.out.bt (i := 0) rfl; have HBa := Fa.mk s2.out.hb; have hn1 := blk_ne s2.out.bt s2.out.bc (by decide); have hn2 := hn1.symm; have GEc := Fa.mk s2.out.lc) | (go_at_call 60; have s3 := Fa.mk s2.out; clear s2; (with_reducible refine (num_Text.calls k p q tx te _ HX.out (HG.out.below s3.out.hb)).mono ?_); rintro e wb ⟨rfl, hb⟩; have s4 := Fa.mk (s3.out.call hb); clear hb s3 ca0 ca1 cz0 cz1 cb0 HBa hn1 hn2; have ca0 := cell0 s4.out.bc (i := 0) rfl; have ca1 := cell0 s4.out.bc (i := 1) rfl; have cz0 := blk_frozen s4.out.bc 0; have cz1 := blk_frozen s4.out.bc 1; have cb0 := cell0 s4.out.bt (i := 0) rfl; have HBa := Fa.mk s4.out.hb; have hn1 := blk_ne s4.out.bt s4.out.bc (by decide); have hn2 := hn1.symm) | (have _t := tok1; go_at_call 61; (with_reducible refine (bs_writeString (tx ++ (⟨#[42]⟩ : ByteArray)) s4.out.bs HL1.out).mono ?_); clear tok1; rintro e wd ⟨rfl, hbs, hbb, hok⟩; have s5 := Fa.mk (s4.out.write hbs hbb hok); clear hbs hbb hok s4 ca0 ca1 cz0 cz1 cb0 HBa hn1 hn2; have ca0 := cell0 s5.out.bc (i := 0) rfl; have ca1 := cell0 s5.out.bc (i := 1) rfl; have cz0 := blk_frozen s5.out.bc 0; have cz1 := blk_frozen s5.out.bc 1; have cb0 := cell0 s5.out.bt (i := 0) rfl; have HBa := Fa.mk s5.out.hb; have hn1 := blk_ne s5.out.bt s5.out.bc (by decide); have hn2 := hn1.symm) | (go_at_call 61; have s6 := Fa.mk s5.out; (with_reducible refine (bs_writeString v s6.out.bs HL2.out).mono ?_); rintro e we ⟨rfl, hbs, hbb, hok⟩; have s7 := Fa.mk (s6.out.write hbs hbb hok).out; clear hbs hbb hok s6))
      go_roundw
      case rel => exact ⟨j + 1, sj ++ ta, tb, by omega, by go_num, HT2, HJ2, by rw [HQ.out]; exact s7⟩
      case measure => simp [intOf]; omega
  ·
   obtain rfl : j = l0_2.length := by omega
   have HT2 := HT.out
   rw [List.drop_length] at HT2
   unfold tgo at HT2
   obtain rfl := (Option.some.inj HT2).symm
   have hS := HJ.out
   rw [List.append_nil] at hS
   subst hS
   clear HT HT2 HJ
   have cf0 := cell0 HLj.out.bf (i := 0) rfl
   have cf1 := cell0 HLj.out.bf (i := 1) rfl
   have cf2 := cell0 HLj.out.bf (i := 2) rfl
   have hE := HE.out
   unfold tlast at hE
   by_cases hl0 : (l0_2.length : Int) = 0
   ·
    rw [if_pos (.inl hl0)] at hE
    have hpl : ¬ ((l0_2.length : Int) > 0 ∧ a0_0 > 0) := by omega
    have d0 : ((l0_2.length : Int) == 0) = true := beq_iff_eq.mpr hl0
    have d1 : decide ((l0_2.length : Int) > 0) = false := decide_eq_false (by omega)
    have d2 : decide (0 < l0_2.length) = false := decide_eq_false (by omega)
    have HL0 := Fa.mk hl0
    clear hl0
    obtain ⟨⟨tx, te⟩, hx, hE⟩ := Option.bind_eq_some_iff.mp hE
    have HX := Fa.mk hx
    clear hx
    dsimp only at hE
    rw [if_neg hpl] at hE
    have hE := Option.some.inj hE
    have HA : Fa (E.length = 0 + tx.size) := ⟨by rw [← hE]; simp [Array.length_toList, ← ByteArray.size_data] <;> omega⟩
    have HQ : Fa (sj ++ E = sj ++ tx.data.toList) := ⟨by rw [← hE]; simp only [List.append_assoc, List.nil_append]⟩
    clear hE hpl
    have HL2 : Fa (sj.length + tx.size ≤ 140737488355328) := ⟨by have := HL.out; have := HA.out; (try simp only [List.length_append, List.length_cons, List.length_nil]); omega⟩
    go_wp2_with (first | (go_at_call 60; (with_reducible refine (num_Text.calls k a0_0 a0_1 tx te _ HX.out (HG.out.below HLj.out.hb)).mono ?_); rintro e wb ⟨rfl, hb⟩; have s4 := Fa.mk (HLj.out.call hb); clear hb) | (go_at_call 61; (with_reducible refine (bs_writeString tx s4.out.bs HL2.out).mono ?_); rintro e wd ⟨rfl, hbs, hbb, hok⟩; have s5 := Fa.mk (s4.out.write hbs hbb hok); clear hbs hbb hok) | (go_at_call 62; (with_reducible refine (bs_string s5.out.bs).mono ?_); rintro e wz ⟨rfl, hbz⟩; have HZ := Fa.mk (s5.out.hb.trans (hbz.mono s5.out.lb)); clear hbz))
    go_ret2
    exact ⟨by rw [HQ.out]; first | rfl | (simp only [List.append_assoc, List.cons_append, List.nil_append]; rfl), HZ.out⟩
   ·
    by_cases hz : a0_0 = 0
    ·
     rw [if_neg (by omega)] at hE
     obtain rfl := (Option.some.inj hE)
     have d0 : ((l0_2.length : Int) == 0) = false := beq_eq_false_iff_ne.mpr hl0
     have d3 : (a0_0 != 0) = false := by rw [hz]; rfl
     have d4 : (a0_0 == 0) = true := by rw [hz]; rfl
     clear hz hl0 hE
     go_wp2_with (first | (go_at_call 62; (with_reducible refine (bs_string HLj.out.bs).mono ?_); rintro e wz ⟨rfl, hbz⟩; have HZ := Fa.mk (HLj.out.hb.trans (hbz.mono HLj.out.lb)); clear hbz))
     go_ret2
     exact ⟨by rw [List.append_nil]; rfl, HZ.out⟩
    ·
     rw [if_pos (.inr hz)] at hE
     have d0 : ((l0_2.length : Int) == 0) = false := beq_eq_false_iff_ne.mpr hl0
     have d3 : (a0_0 != 0) = true := bne_iff_ne.mpr hz
     have d4 : (a0_0 == 0) = false := beq_eq_false_iff_ne.mpr hz
     have d1 : decide ((l0_2.length : Int) > 0) = true := decide_eq_true (by omega)
     have d2 : decide (0 < l0_2.length) = true := decide_eq_true (by omega)
     by_cases hp : a0_0 > 0
     ·
      have hpl : (l0_2.length : Int) > 0 ∧ a0_0 > 0 := ⟨by omega, hp⟩
      have d5 : decide (0 < a0_0) = true := decide_eq_true hp
      clear hz hl0 hp
      obtain ⟨⟨tx, te⟩, hx, hE⟩ := Option.bind_eq_some_iff.mp hE
      have HX := Fa.mk hx
      clear hx
      dsimp only at hE
      rw [if_pos hpl] at hE
      have hE := Option.some.inj hE
      have HA : Fa (E.length = 1 + tx.size) := ⟨by rw [← hE]; simp [Array.length_toList, ← ByteArray.size_data] <;> omega⟩
      have HQ : Fa (sj ++ E = (sj ++ [43]) ++ tx.data.toList) := ⟨by rw [← hE]; simp only [List.append_assoc, List.nil_append]⟩
      clear hE hpl
      have HL2 : Fa ((sj ++ [43]).length + tx.size ≤ 140737488355328) := ⟨by have := HL.out; have := HA.out; (try simp only [List.length_append, List.length_cons, List.length_nil]); omega⟩
      have HL3 : Fa (sj.length + 1 ≤ 140737488355328) := ⟨by have := HL.out; have := HA.out; omega⟩
      go_wp2_with (first | (go_at_call 59; (with_reducible refine (bs_writeByte 43 43 rfl HLj.out.bs HL3.out).mono ?_); rintro e wa ⟨rfl, hbs, hbb, hok⟩; have s2 := Fa.mk (HLj.out.write hbs hbb hok); clear hbs hbb hok; have ca0 := cell0 s2.out.bf (i := 0) rfl; have ca1 := cell0 s2.out.bf (i := 1) rfl; have ca2 := cell0 s2.out.bf (i := 2) rfl) | (go_at_call 60; (with_reducible refine (num_Text.calls k a0_0 a0_1 tx te _ HX.out (HG.out.below s2.out.hb)).mono ?_); rintro e wb ⟨rfl, hb⟩; have s4 := Fa.mk (s2.out.call hb); clear hb) | (go_at_call 61; (with_reducible refine (bs_writeString tx s4.out.bs HL2.out).mono ?_); rintro e wd ⟨rfl, hbs, hbb, hok⟩; have s5 := Fa.mk (s4.out.write hbs hbb hok); clear hbs hbb hok) | (go_at_call 62; (with_reducible refine (bs_string s5.out.bs).mono ?_); rintro e wz ⟨rfl, hbz⟩; have HZ := Fa.mk (s5.out.hb.trans (hbz.mono s5.out.lb)); clear hbz))
      go_ret2
      exact ⟨by rw [HQ.out]; first | rfl | (simp only [List.append_assoc, List.cons_append, List.nil_append]; rfl), HZ.out⟩
     ·
      have hpl : ¬ ((l0_2.length : Int) > 0 ∧ a0_0 > 0) := fun h => hp h.2
      have d5 : decide (0 < a0_0) = false := decide_eq_false hp
      clear hz hl0 hp
      obtain ⟨⟨tx, te⟩, hx, hE⟩ := Option.bind_eq_some_iff.mp hE
      have HX := Fa.mk hx
      clear hx
      dsimp only at hE
      rw [if_neg hpl] at hE
      have hE := Option.some.inj hE
      have HA : Fa (E.length = 0 + tx.size) := ⟨by rw [← hE]; simp [Array.length_toList, ← ByteArray.size_data] <;> omega⟩
      have HQ : Fa (sj ++ E = sj ++ tx.data.toList) := ⟨by rw [← hE]; simp only [List.append_assoc, List.nil_append]⟩
      clear hE hpl
      have HL2 : Fa (sj.length + tx.size ≤ 140737488355328) := ⟨by have := HL.out; have := HA.out; (try simp only [List.length_append, List.length_cons, List.length_nil]); omega⟩
      go_wp2_with (first | (go_at_call 60; (with_reducible refine (num_Text.calls k a0_0 a0_1 tx te _ HX.out (HG.out.below HLj.out.hb)).mono ?_); rintro e wb ⟨rfl, hb⟩; have s4 := Fa.mk (HLj.out.call hb); clear hb) | (go_at_call 61; (with_reducible refine (bs_writeString tx s4.out.bs HL2.out).mono ?_); rintro e wd ⟨rfl, hbs, hbb, hok⟩; have s5 := Fa.mk (s4.out.write hbs hbb hok); clear hbs hbb hok) | (go_at_call 62; (with_reducible refine (bs_string s5.out.bs).mono ?_); rintro e wz ⟨rfl, hbz⟩; have HZ := Fa.mk (s5.out.hb.trans (hbz.mono s5.out.lb)); clear hbz))
      go_ret2
      exact ⟨by rw [HQ.out]; first | rfl | (simp only [List.append_assoc, List.cons_append, List.nil_append]; rfl), HZ.out⟩
def asciiB (s : ByteArray) : Bool := s.data.toList.all fun c => decide (c.toNat < 128)
theorem asciiB_at {s : ByteArray} (h : asciiB s = true) : ∀ (j : Nat) b, s.data.toList[j]? = some b → b.toNat < 128 := by
  intro j b hj
  have := List.all_eq_true.mp h b (List.mem_of_getElem? hj)
  simpa using this
def strings_IndexAny.f (a0 a1 : ByteArray) : Option Int :=
  if 2 ≤ a1.size ∧ a1.size ≤ 255 ∧ a0.size ≤ 4294967280 ∧ asciiB a1 = true ∧ (8 < a0.size ∨ asciiB a0 = true) then some (Lib.indexAny a0.data.toList a1.data.toList) else none
theorem strings_IndexAny.calls (a0 a1 : ByteArray) (r : Int) (w : World) (h : strings_IndexAny.f a0 a1 = some r) :
  Calls Tryz.prog 64 #[.string a0, .string a1] w fun e w' => e = .returned (.int .i64 r) ∧ Below w.heap.size w w' := by
 unfold strings_IndexAny.f at h
 split at h
 ·
  rename_i hc
  obtain ⟨h2, h3, h4, h5, h6⟩ := hc
  obtain rfl := Option.some.inj h
  by_cases h8 : 8 < a0.size
  ·
   refine (Tryz.strings_IndexAny_long (fun w => by kernel_rfl) a0 a1 w h2 h8 (by omega) (by omega) (asciiB_at h5)).mono ?_
   rintro e w' ⟨rfl, rfl⟩
   exact ⟨rfl, ((Below.refl _ _).alloc (Nat.le_refl _) _).alloc (by simp) _⟩
  ·
   have h7 : asciiB a0 = true := h6.elim (fun h => absurd h h8) id
   exact Tryz.strings_IndexAny_laid a0 a1 w (by omega) (by omega) (asciiB_at h7) (asciiB_at h5)
 ·
  cases h
def stringslite_HasPrefix.f (a0 : ByteArray) (a1 : ByteArray) : Option (Bool) := if (a0.size : Int) ≥ (a1.size : Int) then (if 0 ≤ (a1.size : Int) then (if (a1.size : Int) ≤ (a0.size : Int) then (some ((a0.extract 0 ((a1.size : Int) : Int).toNat).toList == a1.toList)) else (none)) else (none)) else (some false)
set_option maxHeartbeats 8000000 in
set_option maxRecDepth 100000 in
theorem stringslite_HasPrefix.calls (a0 : ByteArray) (a1 : ByteArray) (r : Bool) (w : World) (h : stringslite_HasPrefix.f a0 a1 = some r) :
  Calls Tryz.prog 93 #[.string a0, .string a1] w fun e w' => e = .returned (.bool r) ∧ Drawn0 w w' := by
 have H : (if (a0.size : Int) ≥ (a1.size : Int) then (if 0 ≤ (a1.size : Int) then (if (a1.size : Int) ≤ (a0.size : Int) then (some ((a0.extract 0 ((a1.size : Int) : Int).toNat).toList == a1.toList)) else (none)) else (none)) else (some false)) = some r := h
 clear h
 by_cases c3 : (a0.size : Int) ≥ (a1.size : Int)
 ·
  rw [if_pos c3] at H
  have c3b0 : decide ((a1.size : Int) ≤ (a0.size : Int)) = true := decide_eq_true c3
  have c3b1 : decide (a1.size ≤ a0.size) = true := decide_eq_true (Int.ofNat_le.mp c3)
  clear c3
  by_cases c4 : 0 ≤ (a1.size : Int)
  ·
   rw [if_pos c4] at H
   have c4b0 := eq_true c4
   have c4b1 : decide (0 ≤ (a1.size : Int)) = true := decide_eq_true c4
   clear c4
   by_cases c5 : (a1.size : Int) ≤ (a0.size : Int)
   ·
    rw [if_pos c5] at H
    have c5b0 := eq_true c5
    have c5b1 : decide ((a1.size : Int) ≤ (a0.size : Int)) = true := decide_eq_true c5
    clear c5
    obtain rfl := Option.some.inj H
    go_enter Tryz.func93, Tryz.ntmps93
    go_wp2
    go_ret
    exact ⟨by first | rfl | (simp; done) | (simp [*]; done), by repeat (first | exact Drawn0.refl _ | apply Drawn0.step)⟩
   ·
    rw [if_neg c5] at H
    exact absurd H (by simp)
  ·
   rw [if_neg c4] at H
   exact absurd H (by simp)
 ·
  rw [if_neg c3] at H
  have c3b0 : decide ((a1.size : Int) ≤ (a0.size : Int)) = false := decide_eq_false c3
  have c3b1 : decide (a1.size ≤ a0.size) = false := decide_eq_false (fun h => c3 (Int.ofNat_le.mpr h))
  clear c3
  obtain rfl := Option.some.inj H
  go_enter Tryz.func93, Tryz.ntmps93
  go_wp2
  go_ret
  exact ⟨by first | rfl | (simp; done) | (simp [*]; done), by repeat (first | exact Drawn0.refl _ | apply Drawn0.step)⟩
def strings_HasPrefix.f (a0 : ByteArray) (a1 : ByteArray) : Option (Bool) := (stringslite_HasPrefix.f a0 a1).bind fun t238 => (some t238)
set_option maxHeartbeats 8000000 in
set_option maxRecDepth 100000 in
theorem strings_HasPrefix.calls (a0 : ByteArray) (a1 : ByteArray) (r : Bool) (w : World) (h : strings_HasPrefix.f a0 a1 = some r) :
  Calls Tryz.prog 65 #[.string a0, .string a1] w fun e w' => e = .returned (.bool r) ∧ Drawn0 w w' := by
 have H : ((stringslite_HasPrefix.f a0 a1).bind fun t238 => (some t238)) = some r := h
 clear h
 replace H := Option.bind_eq_some_iff.mp H
 obtain ⟨t238, A30, H⟩ := H
 (try dsimp only at H)
 have A3 := Fa.mk A30
 clear A30
 obtain rfl := Option.some.inj H
 go_enter Tryz.func65, Tryz.ntmps65
 go_wp2_with (first | ((with_reducible refine gate_callee (f := 93) rfl ?_); refine goesA (some 7) rfl rfl Tryz.func93 (by kernel_rfl) rfl #[.string a0, .string a1] rfl ?_; (with_reducible refine (stringslite_HasPrefix.calls a0 a1 t238 _ A3.out).mono ?_); rintro e w' ⟨rfl, ⟨nd, rfl⟩⟩; refine ⟨_, rfl, ?_⟩))
 go_ret
 exact ⟨by first | rfl | (simp; done) | (simp [*]; done), by repeat (first | exact Drawn0.refl _ | apply Drawn0.step)⟩
def stringslite_TrimPrefix.f (a0 : ByteArray) (a1 : ByteArray) : Option (ByteArray) := (stringslite_HasPrefix.f a0 a1).bind fun t239 => (if t239 = true then (if 0 ≤ (a1.size : Int) then (if (a1.size : Int) ≤ (a0.size : Int) then (some (a0.extract ((a1.size : Int) : Int).toNat a0.size)) else (none)) else (none)) else (some a0))
set_option maxHeartbeats 8000000 in
set_option maxRecDepth 100000 in
theorem stringslite_TrimPrefix.calls (a0 : ByteArray) (a1 : ByteArray) (r : ByteArray) (w : World) (h : stringslite_TrimPrefix.f a0 a1 = some r) :
  Calls Tryz.prog 94 #[.string a0, .string a1] w fun e w' => e = .returned (.string r) ∧ Drawn0 w w' := by
 have H : ((stringslite_HasPrefix.f a0 a1).bind fun t239 => (if t239 = true then (if 0 ≤ (a1.size : Int) then (if (a1.size : Int) ≤ (a0.size : Int) then (some (a0.extract ((a1.size : Int) : Int).toNat a0.size)) else (none)) else (none)) else (some a0))) = some r := h
 clear h
 replace H := Option.bind_eq_some_iff.mp H
 obtain ⟨t239, A30, H⟩ := H
 (try dsimp only at H)
 have A3 := Fa.mk A30
 clear A30
 by_cases c4 : t239 = true
 ·
  subst c4
  rw [if_pos rfl] at H
  by_cases c5 : 0 ≤ (a1.size : Int)
  ·
   rw [if_pos c5] at H
   have c5b0 := eq_true c5
   have c5b1 : decide (0 ≤ (a1.size : Int)) = true := decide_eq_true c5
   clear c5
   by_cases c6 : (a1.size : Int) ≤ (a0.size : Int)
   ·
    rw [if_pos c6] at H
    have c6b0 := eq_true c6
    have c6b1 : decide ((a1.size : Int) ≤ (a0.size : Int)) = true := decide_eq_true c6
    clear c6
    obtain rfl := Option.some.inj H
    go_enter Tryz.func94, Tryz.ntmps94
    go_wp2_with (first | ((with_reducible refine gate_callee (f := 93) rfl ?_); refine goesA (some 7) rfl rfl Tryz.func93 (by kernel_rfl) rfl #[.string a0, .string a1] rfl ?_; (with_reducible refine (stringslite_HasPrefix.calls a0 a1 true _ A3.out).mono ?_); rintro e w' ⟨rfl, ⟨nd, rfl⟩⟩; refine ⟨_, rfl, ?_⟩))
    go_ret
    exact ⟨by first | rfl | (simp; done) | (simp [*]; done), by repeat (first | exact Drawn0.refl _ | apply Drawn0.step)⟩
   ·
    rw [if_neg c6] at H
    exact absurd H (by simp)
  ·
   rw [if_neg c5] at H
   exact absurd H (by simp)
 ·
  replace c4 := Bool.eq_false_iff.mpr c4
  subst c4
  rw [if_neg (show ¬ (false = true) by decide)] at H
  obtain rfl := Option.some.inj H
  go_enter Tryz.func94, Tryz.ntmps94
  go_wp2_with (first | ((with_reducible refine gate_callee (f := 93) rfl ?_); refine goesA (some 7) rfl rfl Tryz.func93 (by kernel_rfl) rfl #[.string a0, .string a1] rfl ?_; (with_reducible refine (stringslite_HasPrefix.calls a0 a1 false _ A3.out).mono ?_); rintro e w' ⟨rfl, ⟨nd, rfl⟩⟩; refine ⟨_, rfl, ?_⟩))
  go_ret
  exact ⟨by first | rfl | (simp; done) | (simp [*]; done), by repeat (first | exact Drawn0.refl _ | apply Drawn0.step)⟩
def strings_TrimPrefix.f (a0 : ByteArray) (a1 : ByteArray) : Option (ByteArray) := (stringslite_TrimPrefix.f a0 a1).bind fun t240 => (some t240)
set_option maxHeartbeats 8000000 in
set_option maxRecDepth 100000 in
theorem strings_TrimPrefix.calls (a0 : ByteArray) (a1 : ByteArray) (r : ByteArray) (w : World) (h : strings_TrimPrefix.f a0 a1 = some r) :
  Calls Tryz.prog 66 #[.string a0, .string a1] w fun e w' => e = .returned (.string r) ∧ Drawn0 w w' := by
 have H : ((stringslite_TrimPrefix.f a0 a1).bind fun t240 => (some t240)) = some r := h
 clear h
 replace H := Option.bind_eq_some_iff.mp H
 obtain ⟨t240, A30, H⟩ := H
 (try dsimp only at H)
 have A3 := Fa.mk A30
 clear A30
 obtain rfl := Option.some.inj H
 go_enter Tryz.func66, Tryz.ntmps66
 go_wp2_with (first | ((with_reducible refine gate_callee (f := 94) rfl ?_); refine goesA (some 7) rfl rfl Tryz.func94 (by kernel_rfl) rfl #[.string a0, .string a1] rfl ?_; (with_reducible refine (stringslite_TrimPrefix.calls a0 a1 t240 _ A3.out).mono ?_); rintro e w' ⟨rfl, ⟨nd, rfl⟩⟩; refine ⟨_, rfl, ?_⟩))
 go_ret
 exact ⟨by first | rfl | (simp; done) | (simp [*]; done), by repeat (first | exact Drawn0.refl _ | apply Drawn0.step)⟩
def strings_Cut.f (a0 a1 : ByteArray) : Option (ByteArray × ByteArray × Bool) := if a1.size = 1 ∧ a0.size ≤ 4294967280 then some (⟨(Lib.cut a0.data.toList a1.data.toList).1.toArray⟩, ⟨(Lib.cut a0.data.toList a1.data.toList).2.1.toArray⟩, (Lib.cut a0.data.toList a1.data.toList).2.2) else none
theorem cut_some (l : List UInt8) (c : UInt8) (i : Nat) (h : Lib.indexByte l c = i) : Lib.cut l [c] = (l.take i, l.drop (i + 1), true) := by
  unfold Lib.cut
  rw [Lib.index_one, h, if_pos (by omega)]
  rfl
theorem cut_none (l : List UInt8) (c : UInt8) (h : Lib.indexByte l c = -1) : Lib.cut l [c] = (l, [], false) := by
  unfold Lib.cut
  rw [Lib.index_one, h, if_neg (by omega)]
set_option maxHeartbeats 1000000 in
theorem slite_Cut_calls (a0 : ByteArray) (c : UInt8) (h2 : a0.size ≤ 4294967280) (w : World) :
    Calls Tryz.prog 95 #[.string a0, .string ⟨#[c]⟩] w fun e w' => e = .returned (.tuple #[.string ⟨(Lib.cut a0.data.toList [c]).1.toArray⟩, .string ⟨(Lib.cut a0.data.toList [c]).2.1.toArray⟩, .bool (Lib.cut a0.data.toList [c]).2.2]) ∧ Drawn0 w w' := by
  have hge := Lib.indexByte_ge a0.data.toList c
  have hlen : a0.data.toList.length = a0.size := Array.length_toList
  by_cases hi : 0 ≤ Lib.indexByte a0.data.toList c
  · obtain ⟨i, hi'⟩ := Int.eq_ofNat_of_zero_le hi
    have hlt : i + 1 ≤ a0.size := by
      have := (Lib.indexByte_some hi').1
      have := (List.getElem?_eq_some_iff.mp this).1
      omega
    rw [cut_some _ _ i hi']
    have hI := fun w => Tryz.stringslite_Index_one a0 c w
    rw [hi'] at hI
    have e1 : (⟨(a0.data.toList.take i).toArray⟩ : ByteArray) = a0.extract 0 i := by rw [Lib.extract_eq]; simp
    have e2 : (⟨(a0.data.toList.drop (i + 1)).toArray⟩ : ByteArray) = a0.extract (i + 1) a0.size := by
      rw [Lib.extract_eq, List.take_of_length_le (by simp)]
    simp only [e1, e2]
    have hI' := Lib.hid hI
    clear hI e1 e2 hi' hi hge hlen
    go_enter Tryz.func95, Tryz.ntmps95
    go_wp2_with (first | (go_at_call 114; refine (hI'.out _).mono ?_; rintro e w1 ⟨rfl, rfl⟩))
    have hw1 : IntKind.i64.wrap ((i : Int) + 1) = (i : Int) + 1 := IntWalk.i64_in _ (by omega)
    have hw2 : ((i : Int) + 1).toNat = i + 1 := by omega
    have hw3 : 0 ≤ (i : Int) + 1 := by omega
    have hw4 : (i : Int) + 1 ≤ a0.size := by omega
    have hw5 : (i : Int) ≤ a0.size := by omega
    go_quiet (fail)
    go_wp2
    go_ret3
    exact ⟨rfl, by repeat (first | exact Drawn0.refl _ | apply Drawn0.step)⟩
  · have hI := fun w => Tryz.stringslite_Index_one a0 c w
    have hi' : Lib.indexByte a0.data.toList c = -1 := by omega
    rw [cut_none _ _ hi']
    rw [hi'] at hI
    have hI' := Lib.hid hI
    clear hI hi' hi hge hlen
    go_enter Tryz.func95, Tryz.ntmps95
    go_wp2_with (first | (go_at_call 114; refine (hI'.out _).mono ?_; rintro e w1 ⟨rfl, rfl⟩))
    go_ret3
    exact ⟨rfl, by repeat (first | exact Drawn0.refl _ | apply Drawn0.step)⟩
set_option maxHeartbeats 1000000 in
theorem strings_Cut.calls (a0 a1 : ByteArray) (r1 r2 : ByteArray) (r3 : Bool) (w : World) (h : strings_Cut.f a0 a1 = some (r1, r2, r3)) :
  Calls Tryz.prog 67 #[.string a0, .string a1] w fun e w' => e = .returned (.tuple #[.string r1, .string r2, .bool r3]) ∧ Drawn0 w w' := by
 unfold strings_Cut.f at h
 split at h
 case isFalse => cases h
 rename_i hc
 obtain ⟨h1, h2⟩ := hc
 simp only [Option.some.injEq, Prod.mk.injEq] at h
 obtain ⟨g1, g2, g3⟩ := h
 obtain ⟨c, rfl⟩ : ∃ c, a1 = ⟨#[c]⟩ := by
  obtain ⟨⟨l⟩⟩ := a1
  match l, h1 with
  | [c], _ => exact ⟨c, rfl⟩
 have hC := fun w => slite_Cut_calls a0 c h2 w
 replace g1 : (⟨(Lib.cut a0.data.toList [c]).1.toArray⟩ : ByteArray) = r1 := g1
 replace g2 : (⟨(Lib.cut a0.data.toList [c]).2.1.toArray⟩ : ByteArray) = r2 := g2
 replace g3 : (Lib.cut a0.data.toList [c]).2.2 = r3 := g3
 simp only [g1, g2, g3] at hC
 have hC' := Lib.hid hC
 clear hC g1 g2 g3 h1
 go_enter Tryz.func67, Tryz.ntmps67
 go_wp2_with (first | (go_at_call 95; refine (hC'.out _).mono ?_; rintro e w1 ⟨rfl, ⟨n, rfl⟩⟩))
 go_ret3
 exact ⟨rfl, by repeat (first | exact Drawn0.refl _ | apply Drawn0.step)⟩
def parseVal (l : List UInt8) : Int × Bool := match Lib.parseIntB 64 l with
  | .ok v => (v, true)
  | .range => (Lib.intSat 64 l, false)
  | _ => (0, false)
theorem PI_ok (s : ByteArray) (hs : s.size ≤ 4294967280) (h : (parseVal s.data.toList).2 = true) (w : World) :
    Calls Tryz.prog 96 #[.string s, .int .i64 10, .int .i64 64] w fun e w' => e = .returned (.tuple #[.int .i64 (parseVal s.data.toList).1, .nilIface]) ∧ Below w.heap.size w w' := by
  unfold parseVal at *
  cases hE : Lib.parseIntB 64 s.data.toList with
  | ok v =>
    refine (Tryz.strconv_ParseInt_10_at64_ok s (by omega) v hE w).mono ?_
    rintro e w' ⟨rfl, hw⟩
    refine ⟨rfl, ?_⟩
    rcases hw with rfl | ⟨t, rfl⟩
    · exact Below.refl _ _
    · exact Lib.bytesWorld_below _ _ _
  | _ => rw [hE] at h; cases h
theorem PI_bad (s : ByteArray) (hs : s.size ≤ 4294967280) (h : (parseVal s.data.toList).2 = false) (w : World) (hG : Glob w) :
    Calls Tryz.prog 96 #[.string s, .int .i64 10, .int .i64 64] w fun e w' => ∃ N, e = .returned (.tuple #[.int .i64 (parseVal s.data.toList).1, .iface 139 (.pointer (some ⟨N, 0, none⟩))]) ∧ Below w.heap.size w w' := by
  unfold parseVal at *
  cases hE : Lib.parseIntB 64 s.data.toList with
  | ok v => rw [hE] at h; cases h
  | range =>
    obtain ⟨tp, p, hvar⟩ := hG.1.2.2
    refine (Tryz.strconv_ParseInt_10_at64_range_var s (by omega) hE tp p w hvar).mono ?_
    rintro e w' ⟨N, rfl, _, _, hb⟩
    exact ⟨N, rfl, hb⟩
  | _ =>
    obtain ⟨tp, p, hvar⟩ := hG.1.2.1
    refine (Tryz.strconv_ParseInt_10_at64_syntax_var s (by omega) hE tp p w hvar).mono ?_
    rintro e w' ⟨N, rfl, _, _, hb⟩
    exact ⟨N, rfl, hb⟩
theorem keep_c {W w1 : World} (hb : Below W.heap.size W w1) {b o : Nat} {v : Value} (h : W.cell? ⟨b, o, none⟩ = some v) : w1.cell? ⟨b, o, none⟩ = some v := (hb.cell (World.block_lt_of_cell? W _ h)).trans h
theorem keep_f {W w1 : World} (hb : Below W.heap.size W w1) {b o : Nat} {v : Value} (h : W.cell? ⟨b, o, none⟩ = some v) (hf : W.frozen? ⟨b, o, none⟩ = false) : w1.frozen? ⟨b, o, none⟩ = false := (hb.frozen (World.block_lt_of_cell? W _ h)).trans hf
def num_Parse.f (k : Nat) (a0 : ByteArray) : Option (Int × Int × Int) :=
  (strings_Cut.f a0 ⟨#[47]⟩).bind fun c =>
    (num_Text.f k (parseVal c.1.data.toList).1 (parseVal (if c.2.2 = true then c.2.1.data.toList else [49])).1).bind fun t =>
      some (if (parseVal c.1.data.toList).2 = true ∧ (parseVal (if c.2.2 = true then c.2.1.data.toList else [49])).2 = true ∧ t.2 = 0 ∧ t.1.data.toList = a0.data.toList
        then ((parseVal c.1.data.toList).1, (parseVal (if c.2.2 = true then c.2.1.data.toList else [49])).1, 0) else (0, 0, 30))
theorem num_Parse.mono : ∀ a0 k, LeO (num_Parse.f k a0) (num_Parse.f (k + 1) a0) := by
  intro a0 k
  unfold num_Parse.f
  refine LeO.bind (LeO.refl _) (fun _ => ?_)
  exact LeO.bind (num_Text.mono _ _ _) (fun _ => LeO.refl _)
def PRes (s t : ByteArray) (te p q : Int) (e : Ending) : Prop := e = .returned (.tuple #[.agg #[.int .i64 (if te = 0 ∧ t.data.toList = s.data.toList then p else 0), .int .i64 (if te = 0 ∧ t.data.toList = s.data.toList then q else 0)], .int .i64 (if te = 0 ∧ t.data.toList = s.data.toList then 0 else 30)])
theorem tl_data (s : ByteArray) : s.toList = s.data.toList := Lib.toList_data s
theorem PRes_no1 {s t : ByteArray} {te p q : Int} (h : (!t.toList == s.toList) = true) : PRes s t te p q (.returned (.tuple #[.agg #[.int .i64 0, .int .i64 0], .int .i64 30])) := by
  have hn : ¬ (te = 0 ∧ t.data.toList = s.data.toList) := fun hc => by
    rw [tl_data, tl_data, hc.2] at h; simp at h
  unfold PRes; rw [if_neg hn, if_neg hn, if_neg hn]
theorem PRes_no2 {s t : ByteArray} {te p q : Int} (h : ¬ te = 0) : PRes s t te p q (.returned (.tuple #[.agg #[.int .i64 0, .int .i64 0], .int .i64 30])) := by
  have hn : ¬ (te = 0 ∧ t.data.toList = s.data.toList) := fun hc => h hc.1
  unfold PRes; rw [if_neg hn, if_neg hn, if_neg hn]
theorem PRes_yes {s t : ByteArray} {te p q : Int} (h0 : te = 0) (h : (!t.toList == s.toList) = false) : PRes s t te p q (.returned (.tuple #[.agg #[.int .i64 p, .int .i64 q], .int .i64 0])) := by
  have hn : te = 0 ∧ t.data.toList = s.data.toList := ⟨h0, by rw [tl_data, tl_data] at h; simpa using h⟩
  unfold PRes; rw [if_pos hn, if_pos hn, if_pos hn]
set_option maxHeartbeats 2000000 in
set_option maxRecDepth 100000 in
theorem Parse_w1 (s first second : ByteArray) (p q : Int) (t : ByteArray) (te : Int) (w : World)
    (hcut : Hid (∀ w, Calls Tryz.prog 67 #[.string s, .string ⟨#[47]⟩] w fun e w' => e = .returned (.tuple #[.string first, .string second, .bool true]) ∧ Drawn0 w w'))
    (hp : Hid (∀ w, Calls Tryz.prog 96 #[.string first, .int .i64 10, .int .i64 64] w fun e w' => e = .returned (.tuple #[.int .i64 p, .nilIface]) ∧ Below w.heap.size w w'))
    (hq : Hid (∀ w, Calls Tryz.prog 96 #[.string second, .int .i64 10, .int .i64 64] w fun e w' => e = .returned (.tuple #[.int .i64 q, .nilIface]) ∧ Below w.heap.size w w'))
    (ht : Hid (∀ w, Glob w → Calls Tryz.prog 60 #[.agg #[.int .i64 p, .int .i64 q]] w fun e w' => e = .returned (.tuple #[.string t, .int .i64 te]) ∧ Below w.heap.size w w')) (hG : Hid (Glob w)) :
    Calls Tryz.prog 68 #[.string s] w fun e w' => PRes s t te p q e ∧ Below w.heap.size w w' := by
  have hu23 := Tryz.underlying23
  go_enter Tryz.func68, Tryz.ntmps68
  go_wp2_with (first | (go_at_call 67; (with_reducible refine (hcut.out _).mono ?_); rintro e w1 ⟨rfl, ⟨n1, rfl⟩⟩) | (go_at_call 96; (with_reducible refine (hp.out _).mono ?_); rintro e w2 ⟨rfl, hb2⟩; have c20 := keep_c hb2 (b := w.heap.size) (o := 0) (v := .int .i64 0) (by go_simp); have c21 := keep_c hb2 (b := w.heap.size) (o := 1) (v := .int .i64 0) (by go_simp); have f20 := keep_f hb2 (b := w.heap.size) (o := 0) (v := .int .i64 0) (by go_simp) (by go_simp); have f21 := keep_f hb2 (b := w.heap.size) (o := 1) (v := .int .i64 0) (by go_simp) (by go_simp); have B2 : Below w.heap.size w w2 := below_step (pw_below_drewN (below_alloc (Below.refl _ _) _) _) hb2) | (go_at_call 96; (with_reducible refine (hq.out _).mono ?_); rintro e w3 ⟨rfl, hb3⟩; have c30 := keep_c hb3 c20; have c31 := keep_c hb3 c21; have f30 := keep_f hb3 c20 f20; have f31 := keep_f hb3 c21 f21; have l3 : w.heap.size < w3.heap.size := World.block_lt_of_cell? w3 _ c30; have l3a : w.heap.size ≠ w3.heap.size := Nat.ne_of_lt l3; have l3b : w3.heap.size ≠ w.heap.size := Nat.ne_of_gt l3; have B3 : Below w.heap.size w w3 := below_step B2 hb3) | (go_at_call 60; (with_reducible refine (ht.out _ (hG.out.below (below_alloc B3 _))).mono ?_); rintro e w4 ⟨rfl, hb4⟩; have c40 := keep_c hb4 (b := w.heap.size) (o := 0) (v := .int .i64 0) (by go_simp); have c41 := keep_c hb4 (b := w.heap.size) (o := 1) (v := .int .i64 0) (by go_simp); have f40 := keep_f hb4 (b := w.heap.size) (o := 0) (v := .int .i64 0) (by go_simp) (by go_simp); have f41 := keep_f hb4 (b := w.heap.size) (o := 1) (v := .int .i64 0) (by go_simp) (by go_simp); have c42 := keep_c hb4 (b := w3.heap.size) (o := 0) (v := .int .i64 p) (by go_simp); have c43 := keep_c hb4 (b := w3.heap.size) (o := 1) (v := .int .i64 q) (by go_simp); have B4 : Below w.heap.size w w4 := below_step (below_alloc B3 _) hb4; clear hb4 hb3 hb2 B2 B3 c20 c21 f20 f21 c30 c31 f30 f31))
  · refine bodyPost_ret (v := .tuple #[.agg #[.int .i64 0, .int .i64 0], .int .i64 30]) (by simp [results, Tryz.results68, go_sem, c40, c41]) rfl ⟨PRes_no1 (by assumption), by repeat (first | exact B4 | refine below_set ?_ (Nat.le_refl _))⟩
  · refine bodyPost_ret (v := .tuple #[.agg #[.int .i64 p, .int .i64 q], .int .i64 0]) (by simp [results, Tryz.results68, go_sem, c40, c41]) rfl ⟨PRes_yes (by assumption) (by assumption), by repeat (first | exact B4 | refine below_set ?_ (Nat.le_refl _))⟩
  · refine bodyPost_ret (v := .tuple #[.agg #[.int .i64 0, .int .i64 0], .int .i64 30]) (by simp [results, Tryz.results68, go_sem, c40, c41]) rfl ⟨PRes_no2 (by assumption), by repeat (first | exact B4 | refine below_set ?_ (Nat.le_refl _))⟩
set_option maxHeartbeats 2000000 in
set_option maxRecDepth 100000 in
theorem Parse_w2 (s first second : ByteArray) (p q : Int) (t : ByteArray) (te : Int) (w : World)
    (hcut : Hid (∀ w, Calls Tryz.prog 67 #[.string s, .string ⟨#[47]⟩] w fun e w' => e = .returned (.tuple #[.string first, .string second, .bool true]) ∧ Drawn0 w w'))
    (hp : Hid (∀ w, Calls Tryz.prog 96 #[.string first, .int .i64 10, .int .i64 64] w fun e w' => e = .returned (.tuple #[.int .i64 p, .nilIface]) ∧ Below w.heap.size w w'))
    (hq : Hid (∀ w, Glob w → Calls Tryz.prog 96 #[.string second, .int .i64 10, .int .i64 64] w fun e w' => ∃ N, e = .returned (.tuple #[.int .i64 q, .iface 139 (.pointer (some ⟨N, 0, none⟩))]) ∧ Below w.heap.size w w'))
    (ht : Hid (∀ w, Glob w → Calls Tryz.prog 60 #[.agg #[.int .i64 p, .int .i64 q]] w fun e w' => e = .returned (.tuple #[.string t, .int .i64 te]) ∧ Below w.heap.size w w')) (hG : Hid (Glob w)) :
    Calls Tryz.prog 68 #[.string s] w fun e w' => e = .returned (.tuple #[.agg #[.int .i64 0, .int .i64 0], .int .i64 30]) ∧ Below w.heap.size w w' := by
  have hu23 := Tryz.underlying23
  go_enter Tryz.func68, Tryz.ntmps68
  go_wp2_with (first | (go_at_call 67; (with_reducible refine (hcut.out _).mono ?_); rintro e w1 ⟨rfl, ⟨n1, rfl⟩⟩) | (go_at_call 96; (with_reducible refine (hp.out _).mono ?_); rintro e w2 ⟨rfl, hb2⟩; have c20 := keep_c hb2 (b := w.heap.size) (o := 0) (v := .int .i64 0) (by go_simp); have c21 := keep_c hb2 (b := w.heap.size) (o := 1) (v := .int .i64 0) (by go_simp); have f20 := keep_f hb2 (b := w.heap.size) (o := 0) (v := .int .i64 0) (by go_simp) (by go_simp); have f21 := keep_f hb2 (b := w.heap.size) (o := 1) (v := .int .i64 0) (by go_simp) (by go_simp); have B2 : Below w.heap.size w w2 := below_step (pw_below_drewN (below_alloc (Below.refl _ _) _) _) hb2) | (go_at_call 96; (with_reducible refine (hq.out _ (hG.out.below B2)).mono ?_); rintro e w3 ⟨N3, rfl, hb3⟩; have c30 := keep_c hb3 c20; have c31 := keep_c hb3 c21; have f30 := keep_f hb3 c20 f20; have f31 := keep_f hb3 c21 f21; have l3 : w.heap.size < w3.heap.size := World.block_lt_of_cell? w3 _ c30; have l3a : w.heap.size ≠ w3.heap.size := Nat.ne_of_lt l3; have l3b : w3.heap.size ≠ w.heap.size := Nat.ne_of_gt l3; have B3 : Below w.heap.size w w3 := below_step B2 hb3) | (go_at_call 60; (with_reducible refine (ht.out _ (hG.out.below (below_alloc B3 _))).mono ?_); rintro e w4 ⟨rfl, hb4⟩; have c40 := keep_c hb4 (b := w.heap.size) (o := 0) (v := .int .i64 0) (by go_simp); have c41 := keep_c hb4 (b := w.heap.size) (o := 1) (v := .int .i64 0) (by go_simp); have f40 := keep_f hb4 (b := w.heap.size) (o := 0) (v := .int .i64 0) (by go_simp) (by go_simp); have f41 := keep_f hb4 (b := w.heap.size) (o := 1) (v := .int .i64 0) (by go_simp) (by go_simp); have c42 := keep_c hb4 (b := w3.heap.size) (o := 0) (v := .int .i64 p) (by go_simp); have c43 := keep_c hb4 (b := w3.heap.size) (o := 1) (v := .int .i64 q) (by go_simp); have B4 : Below w.heap.size w w4 := below_step (below_alloc B3 _) hb4; clear hb4 hb3 hb2 B2 B3 c20 c21 f20 f21 c30 c31 f30 f31))
  all_goals (refine bodyPost_ret (v := .tuple #[.agg #[.int .i64 0, .int .i64 0], .int .i64 30]) (by simp [results, Tryz.results68, go_sem, c40, c41]) rfl ⟨rfl, by repeat (first | exact B4 | refine below_set ?_ (Nat.le_refl _))⟩)
set_option maxHeartbeats 2000000 in
set_option maxRecDepth 100000 in
theorem Parse_w3 (s first second : ByteArray) (p q : Int) (t : ByteArray) (te : Int) (w : World)
    (hcut : Hid (∀ w, Calls Tryz.prog 67 #[.string s, .string ⟨#[47]⟩] w fun e w' => e = .returned (.tuple #[.string first, .string second, .bool true]) ∧ Drawn0 w w'))
    (hp : Hid (∀ w, Glob w → Calls Tryz.prog 96 #[.string first, .int .i64 10, .int .i64 64] w fun e w' => ∃ N, e = .returned (.tuple #[.int .i64 p, .iface 139 (.pointer (some ⟨N, 0, none⟩))]) ∧ Below w.heap.size w w'))
    (hq : Hid (∀ w, Calls Tryz.prog 96 #[.string second, .int .i64 10, .int .i64 64] w fun e w' => e = .returned (.tuple #[.int .i64 q, .nilIface]) ∧ Below w.heap.size w w'))
    (ht : Hid (∀ w, Glob w → Calls Tryz.prog 60 #[.agg #[.int .i64 p, .int .i64 q]] w fun e w' => e = .returned (.tuple #[.string t, .int .i64 te]) ∧ Below w.heap.size w w')) (hG : Hid (Glob w)) :
    Calls Tryz.prog 68 #[.string s] w fun e w' => e = .returned (.tuple #[.agg #[.int .i64 0, .int .i64 0], .int .i64 30]) ∧ Below w.heap.size w w' := by
  have hu23 := Tryz.underlying23
  go_enter Tryz.func68, Tryz.ntmps68
  go_wp2_with (first | (go_at_call 67; (with_reducible refine (hcut.out _).mono ?_); rintro e w1 ⟨rfl, ⟨n1, rfl⟩⟩) | (go_at_call 96; (with_reducible refine (hp.out _ (hG.out.below (pw_below_drewN (below_alloc (Below.refl _ _) _) _))).mono ?_); rintro e w2 ⟨N2, rfl, hb2⟩; have c20 := keep_c hb2 (b := w.heap.size) (o := 0) (v := .int .i64 0) (by go_simp); have c21 := keep_c hb2 (b := w.heap.size) (o := 1) (v := .int .i64 0) (by go_simp); have f20 := keep_f hb2 (b := w.heap.size) (o := 0) (v := .int .i64 0) (by go_simp) (by go_simp); have f21 := keep_f hb2 (b := w.heap.size) (o := 1) (v := .int .i64 0) (by go_simp) (by go_simp); have B2 : Below w.heap.size w w2 := below_step (pw_below_drewN (below_alloc (Below.refl _ _) _) _) hb2) | (go_at_call 96; (with_reducible refine (hq.out _).mono ?_); rintro e w3 ⟨rfl, hb3⟩; have c30 := keep_c hb3 c20; have c31 := keep_c hb3 c21; have f30 := keep_f hb3 c20 f20; have f31 := keep_f hb3 c21 f21; have l3 : w.heap.size < w3.heap.size := World.block_lt_of_cell? w3 _ c30; have l3a : w.heap.size ≠ w3.heap.size := Nat.ne_of_lt l3; have l3b : w3.heap.size ≠ w.heap.size := Nat.ne_of_gt l3; have B3 : Below w.heap.size w w3 := below_step B2 hb3) | (go_at_call 60; (with_reducible refine (ht.out _ (hG.out.below (below_alloc B3 _))).mono ?_); rintro e w4 ⟨rfl, hb4⟩; have c40 := keep_c hb4 (b := w.heap.size) (o := 0) (v := .int .i64 0) (by go_simp); have c41 := keep_c hb4 (b := w.heap.size) (o := 1) (v := .int .i64 0) (by go_simp); have f40 := keep_f hb4 (b := w.heap.size) (o := 0) (v := .int .i64 0) (by go_simp) (by go_simp); have f41 := keep_f hb4 (b := w.heap.size) (o := 1) (v := .int .i64 0) (by go_simp) (by go_simp); have c42 := keep_c hb4 (b := w3.heap.size) (o := 0) (v := .int .i64 p) (by go_simp); have c43 := keep_c hb4 (b := w3.heap.size) (o := 1) (v := .int .i64 q) (by go_simp); have B4 : Below w.heap.size w w4 := below_step (below_alloc B3 _) hb4; clear hb4 hb3 hb2 B2 B3 c20 c21 f20 f21 c30 c31 f30 f31))
  all_goals (refine bodyPost_ret (v := .tuple #[.agg #[.int .i64 0, .int .i64 0], .int .i64 30]) (by simp [results, Tryz.results68, go_sem, c40, c41]) rfl ⟨rfl, by repeat (first | exact B4 | refine below_set ?_ (Nat.le_refl _))⟩)
set_option maxHeartbeats 2000000 in
set_option maxRecDepth 100000 in
theorem Parse_w4 (s first second : ByteArray) (p q : Int) (t : ByteArray) (te : Int) (w : World)
    (hcut : Hid (∀ w, Calls Tryz.prog 67 #[.string s, .string ⟨#[47]⟩] w fun e w' => e = .returned (.tuple #[.string first, .string second, .bool true]) ∧ Drawn0 w w'))
    (hp : Hid (∀ w, Glob w → Calls Tryz.prog 96 #[.string first, .int .i64 10, .int .i64 64] w fun e w' => ∃ N, e = .returned (.tuple #[.int .i64 p, .iface 139 (.pointer (some ⟨N, 0, none⟩))]) ∧ Below w.heap.size w w'))
    (hq : Hid (∀ w, Glob w → Calls Tryz.prog 96 #[.string second, .int .i64 10, .int .i64 64] w fun e w' => ∃ N, e = .returned (.tuple #[.int .i64 q, .iface 139 (.pointer (some ⟨N, 0, none⟩))]) ∧ Below w.heap.size w w'))
    (ht : Hid (∀ w, Glob w → Calls Tryz.prog 60 #[.agg #[.int .i64 p, .int .i64 q]] w fun e w' => e = .returned (.tuple #[.string t, .int .i64 te]) ∧ Below w.heap.size w w')) (hG : Hid (Glob w)) :
    Calls Tryz.prog 68 #[.string s] w fun e w' => e = .returned (.tuple #[.agg #[.int .i64 0, .int .i64 0], .int .i64 30]) ∧ Below w.heap.size w w' := by
  have hu23 := Tryz.underlying23
  go_enter Tryz.func68, Tryz.ntmps68
  go_wp2_with (first | (go_at_call 67; (with_reducible refine (hcut.out _).mono ?_); rintro e w1 ⟨rfl, ⟨n1, rfl⟩⟩) | (go_at_call 96; (with_reducible refine (hp.out _ (hG.out.below (pw_below_drewN (below_alloc (Below.refl _ _) _) _))).mono ?_); rintro e w2 ⟨N2, rfl, hb2⟩; have c20 := keep_c hb2 (b := w.heap.size) (o := 0) (v := .int .i64 0) (by go_simp); have c21 := keep_c hb2 (b := w.heap.size) (o := 1) (v := .int .i64 0) (by go_simp); have f20 := keep_f hb2 (b := w.heap.size) (o := 0) (v := .int .i64 0) (by go_simp) (by go_simp); have f21 := keep_f hb2 (b := w.heap.size) (o := 1) (v := .int .i64 0) (by go_simp) (by go_simp); have B2 : Below w.heap.size w w2 := below_step (pw_below_drewN (below_alloc (Below.refl _ _) _) _) hb2) | (go_at_call 96; (with_reducible refine (hq.out _ (hG.out.below B2)).mono ?_); rintro e w3 ⟨N3, rfl, hb3⟩; have c30 := keep_c hb3 c20; have c31 := keep_c hb3 c21; have f30 := keep_f hb3 c20 f20; have f31 := keep_f hb3 c21 f21; have l3 : w.heap.size < w3.heap.size := World.block_lt_of_cell? w3 _ c30; have l3a : w.heap.size ≠ w3.heap.size := Nat.ne_of_lt l3; have l3b : w3.heap.size ≠ w.heap.size := Nat.ne_of_gt l3; have B3 : Below w.heap.size w w3 := below_step B2 hb3) | (go_at_call 60; (with_reducible refine (ht.out _ (hG.out.below (below_alloc B3 _))).mono ?_); rintro e w4 ⟨rfl, hb4⟩; have c40 := keep_c hb4 (b := w.heap.size) (o := 0) (v := .int .i64 0) (by go_simp); have c41 := keep_c hb4 (b := w.heap.size) (o := 1) (v := .int .i64 0) (by go_simp); have f40 := keep_f hb4 (b := w.heap.size) (o := 0) (v := .int .i64 0) (by go_simp) (by go_simp); have f41 := keep_f hb4 (b := w.heap.size) (o := 1) (v := .int .i64 0) (by go_simp) (by go_simp); have c42 := keep_c hb4 (b := w3.heap.size) (o := 0) (v := .int .i64 p) (by go_simp); have c43 := keep_c hb4 (b := w3.heap.size) (o := 1) (v := .int .i64 q) (by go_simp); have B4 : Below w.heap.size w w4 := below_step (below_alloc B3 _) hb4; clear hb4 hb3 hb2 B2 B3 c20 c21 f20 f21 c30 c31 f30 f31))
  all_goals (refine bodyPost_ret (v := .tuple #[.agg #[.int .i64 0, .int .i64 0], .int .i64 30]) (by simp [results, Tryz.results68, go_sem, c40, c41]) rfl ⟨rfl, by repeat (first | exact B4 | refine below_set ?_ (Nat.le_refl _))⟩)
set_option maxHeartbeats 2000000 in
set_option maxRecDepth 100000 in
theorem Parse_w5 (s first second : ByteArray) (p q : Int) (t : ByteArray) (te : Int) (w : World)
    (hcut : Hid (∀ w, Calls Tryz.prog 67 #[.string s, .string ⟨#[47]⟩] w fun e w' => e = .returned (.tuple #[.string first, .string second, .bool false]) ∧ Drawn0 w w'))
    (hp : Hid (∀ w, Calls Tryz.prog 96 #[.string first, .int .i64 10, .int .i64 64] w fun e w' => e = .returned (.tuple #[.int .i64 p, .nilIface]) ∧ Below w.heap.size w w'))
    (hq : Hid (∀ w, Calls Tryz.prog 96 #[.string ⟨#[49]⟩, .int .i64 10, .int .i64 64] w fun e w' => e = .returned (.tuple #[.int .i64 q, .nilIface]) ∧ Below w.heap.size w w'))
    (ht : Hid (∀ w, Glob w → Calls Tryz.prog 60 #[.agg #[.int .i64 p, .int .i64 q]] w fun e w' => e = .returned (.tuple #[.string t, .int .i64 te]) ∧ Below w.heap.size w w')) (hG : Hid (Glob w)) :
    Calls Tryz.prog 68 #[.string s] w fun e w' => PRes s t te p q e ∧ Below w.heap.size w w' := by
  have hu23 := Tryz.underlying23
  go_enter Tryz.func68, Tryz.ntmps68
  go_wp2_with (first | (go_at_call 67; (with_reducible refine (hcut.out _).mono ?_); rintro e w1 ⟨rfl, ⟨n1, rfl⟩⟩) | (go_at_call 96; (with_reducible refine (hp.out _).mono ?_); rintro e w2 ⟨rfl, hb2⟩; have c20 := keep_c hb2 (b := w.heap.size) (o := 0) (v := .int .i64 0) (by go_simp); have c21 := keep_c hb2 (b := w.heap.size) (o := 1) (v := .int .i64 0) (by go_simp); have f20 := keep_f hb2 (b := w.heap.size) (o := 0) (v := .int .i64 0) (by go_simp) (by go_simp); have f21 := keep_f hb2 (b := w.heap.size) (o := 1) (v := .int .i64 0) (by go_simp) (by go_simp); have B2 : Below w.heap.size w w2 := below_step (pw_below_drewN (below_alloc (Below.refl _ _) _) _) hb2) | (go_at_call 96; (with_reducible refine (hq.out _).mono ?_); rintro e w3 ⟨rfl, hb3⟩; have c30 := keep_c hb3 c20; have c31 := keep_c hb3 c21; have f30 := keep_f hb3 c20 f20; have f31 := keep_f hb3 c21 f21; have l3 : w.heap.size < w3.heap.size := World.block_lt_of_cell? w3 _ c30; have l3a : w.heap.size ≠ w3.heap.size := Nat.ne_of_lt l3; have l3b : w3.heap.size ≠ w.heap.size := Nat.ne_of_gt l3; have B3 : Below w.heap.size w w3 := below_step B2 hb3) | (go_at_call 60; (with_reducible refine (ht.out _ (hG.out.below (below_alloc B3 _))).mono ?_); rintro e w4 ⟨rfl, hb4⟩; have c40 := keep_c hb4 (b := w.heap.size) (o := 0) (v := .int .i64 0) (by go_simp); have c41 := keep_c hb4 (b := w.heap.size) (o := 1) (v := .int .i64 0) (by go_simp); have f40 := keep_f hb4 (b := w.heap.size) (o := 0) (v := .int .i64 0) (by go_simp) (by go_simp); have f41 := keep_f hb4 (b := w.heap.size) (o := 1) (v := .int .i64 0) (by go_simp) (by go_simp); have c42 := keep_c hb4 (b := w3.heap.size) (o := 0) (v := .int .i64 p) (by go_simp); have c43 := keep_c hb4 (b := w3.heap.size) (o := 1) (v := .int .i64 q) (by go_simp); have B4 : Below w.heap.size w w4 := below_step (below_alloc B3 _) hb4; clear hb4 hb3 hb2 B2 B3 c20 c21 f20 f21 c30 c31 f30 f31))
  · refine bodyPost_ret (v := .tuple #[.agg #[.int .i64 0, .int .i64 0], .int .i64 30]) (by simp [results, Tryz.results68, go_sem, c40, c41]) rfl ⟨PRes_no1 (by assumption), by repeat (first | exact B4 | refine below_set ?_ (Nat.le_refl _))⟩
  · refine bodyPost_ret (v := .tuple #[.agg #[.int .i64 p, .int .i64 q], .int .i64 0]) (by simp [results, Tryz.results68, go_sem, c40, c41]) rfl ⟨PRes_yes (by assumption) (by assumption), by repeat (first | exact B4 | refine below_set ?_ (Nat.le_refl _))⟩
  · refine bodyPost_ret (v := .tuple #[.agg #[.int .i64 0, .int .i64 0], .int .i64 30]) (by simp [results, Tryz.results68, go_sem, c40, c41]) rfl ⟨PRes_no2 (by assumption), by repeat (first | exact B4 | refine below_set ?_ (Nat.le_refl _))⟩
set_option maxHeartbeats 2000000 in
set_option maxRecDepth 100000 in
theorem Parse_w6 (s first second : ByteArray) (p q : Int) (t : ByteArray) (te : Int) (w : World)
    (hcut : Hid (∀ w, Calls Tryz.prog 67 #[.string s, .string ⟨#[47]⟩] w fun e w' => e = .returned (.tuple #[.string first, .string second, .bool false]) ∧ Drawn0 w w'))
    (hp : Hid (∀ w, Glob w → Calls Tryz.prog 96 #[.string first, .int .i64 10, .int .i64 64] w fun e w' => ∃ N, e = .returned (.tuple #[.int .i64 p, .iface 139 (.pointer (some ⟨N, 0, none⟩))]) ∧ Below w.heap.size w w'))
    (hq : Hid (∀ w, Calls Tryz.prog 96 #[.string ⟨#[49]⟩, .int .i64 10, .int .i64 64] w fun e w' => e = .returned (.tuple #[.int .i64 q, .nilIface]) ∧ Below w.heap.size w w'))
    (ht : Hid (∀ w, Glob w → Calls Tryz.prog 60 #[.agg #[.int .i64 p, .int .i64 q]] w fun e w' => e = .returned (.tuple #[.string t, .int .i64 te]) ∧ Below w.heap.size w w')) (hG : Hid (Glob w)) :
    Calls Tryz.prog 68 #[.string s] w fun e w' => e = .returned (.tuple #[.agg #[.int .i64 0, .int .i64 0], .int .i64 30]) ∧ Below w.heap.size w w' := by
  have hu23 := Tryz.underlying23
  go_enter Tryz.func68, Tryz.ntmps68
  go_wp2_with (first | (go_at_call 67; (with_reducible refine (hcut.out _).mono ?_); rintro e w1 ⟨rfl, ⟨n1, rfl⟩⟩) | (go_at_call 96; (with_reducible refine (hp.out _ (hG.out.below (pw_below_drewN (below_alloc (Below.refl _ _) _) _))).mono ?_); rintro e w2 ⟨N2, rfl, hb2⟩; have c20 := keep_c hb2 (b := w.heap.size) (o := 0) (v := .int .i64 0) (by go_simp); have c21 := keep_c hb2 (b := w.heap.size) (o := 1) (v := .int .i64 0) (by go_simp); have f20 := keep_f hb2 (b := w.heap.size) (o := 0) (v := .int .i64 0) (by go_simp) (by go_simp); have f21 := keep_f hb2 (b := w.heap.size) (o := 1) (v := .int .i64 0) (by go_simp) (by go_simp); have B2 : Below w.heap.size w w2 := below_step (pw_below_drewN (below_alloc (Below.refl _ _) _) _) hb2) | (go_at_call 96; (with_reducible refine (hq.out _).mono ?_); rintro e w3 ⟨rfl, hb3⟩; have c30 := keep_c hb3 c20; have c31 := keep_c hb3 c21; have f30 := keep_f hb3 c20 f20; have f31 := keep_f hb3 c21 f21; have l3 : w.heap.size < w3.heap.size := World.block_lt_of_cell? w3 _ c30; have l3a : w.heap.size ≠ w3.heap.size := Nat.ne_of_lt l3; have l3b : w3.heap.size ≠ w.heap.size := Nat.ne_of_gt l3; have B3 : Below w.heap.size w w3 := below_step B2 hb3) | (go_at_call 60; (with_reducible refine (ht.out _ (hG.out.below (below_alloc B3 _))).mono ?_); rintro e w4 ⟨rfl, hb4⟩; have c40 := keep_c hb4 (b := w.heap.size) (o := 0) (v := .int .i64 0) (by go_simp); have c41 := keep_c hb4 (b := w.heap.size) (o := 1) (v := .int .i64 0) (by go_simp); have f40 := keep_f hb4 (b := w.heap.size) (o := 0) (v := .int .i64 0) (by go_simp) (by go_simp); have f41 := keep_f hb4 (b := w.heap.size) (o := 1) (v := .int .i64 0) (by go_simp) (by go_simp); have c42 := keep_c hb4 (b := w3.heap.size) (o := 0) (v := .int .i64 p) (by go_simp); have c43 := keep_c hb4 (b := w3.heap.size) (o := 1) (v := .int .i64 q) (by go_simp); have B4 : Below w.heap.size w w4 := below_step (below_alloc B3 _) hb4; clear hb4 hb3 hb2 B2 B3 c20 c21 f20 f21 c30 c31 f30 f31))
  all_goals (refine bodyPost_ret (v := .tuple #[.agg #[.int .i64 0, .int .i64 0], .int .i64 30]) (by simp [results, Tryz.results68, go_sem, c40, c41]) rfl ⟨rfl, by repeat (first | exact B4 | refine below_set ?_ (Nat.le_refl _))⟩)
theorem cut_size {a0 sep r1 r2 : ByteArray} {r3 : Bool} (h : strings_Cut.f a0 sep = some (r1, r2, r3)) : r1.size ≤ 4294967280 ∧ r2.size ≤ 4294967280 := by
  unfold strings_Cut.f at h
  split at h
  case isFalse => cases h
  rename_i hc
  obtain ⟨h1, h2⟩ := hc
  simp only [Option.some.injEq, Prod.mk.injEq] at h
  obtain ⟨rfl, rfl, rfl⟩ := h
  have e : a0.size = a0.data.toList.length := Lib.size_eq a0
  have e1 : ∀ l : List UInt8, (⟨l.toArray⟩ : ByteArray).size = l.length := fun l => by rw [Lib.size_eq]
  rw [e1, e1]
  unfold Lib.cut
  split <;> simp <;> omega
theorem num_Parse.calls (k : Nat) (a0 : ByteArray) (r1 r2 r3 : Int) (w : World) (h : num_Parse.f k a0 = some (r1, r2, r3)) (hG : Glob w) :
  Calls Tryz.prog 68 #[.string a0] w fun e w' => e = .returned (.tuple #[.agg #[.int .i64 r1, .int .i64 r2], .int .i64 r3]) ∧ Below w.heap.size w w' := by
 unfold num_Parse.f at h
 obtain ⟨⟨first, second, there⟩, hcut, h⟩ := Option.bind_eq_some_iff.mp h
 obtain ⟨⟨t, te⟩, ht, h⟩ := Option.bind_eq_some_iff.mp h
 obtain ⟨z1, z2⟩ := cut_size hcut
 have hC := Lib.hid (fun w => strings_Cut.calls a0 ⟨#[47]⟩ first second there w hcut)
 have hT := Lib.hid (fun w (g : Glob w) => num_Text.calls k _ _ t te w ht g)
 have hg := Lib.hid hG
 simp only at h
 cases there with
 | true =>
  simp only [if_true] at h hT
  cases hp : (parseVal first.data.toList).2 with
  | true =>
   cases hq : (parseVal second.data.toList).2 with
   | true =>
    refine (Parse_w1 a0 first second _ _ t te w hC (Lib.hid fun w => PI_ok first z1 hp w) (Lib.hid fun w => PI_ok second z2 hq w) hT hg).mono ?_
    rintro e w' ⟨he, hb⟩
    refine ⟨?_, hb⟩
    unfold PRes at he
    rw [he]
    simp only [hp, hq, true_and] at h
    split at h
    ·
     rename_i hc
     simp only [Option.some.injEq, Prod.mk.injEq] at h
     obtain ⟨rfl, rfl, rfl⟩ := h
     rw [if_pos hc, if_pos hc, if_pos hc]
    ·
     rename_i hc
     simp only [Option.some.injEq, Prod.mk.injEq] at h
     obtain ⟨rfl, rfl, rfl⟩ := h
     rw [if_neg hc, if_neg hc, if_neg hc]
   | false =>
    rw [if_neg (by rintro ⟨_, hc, _⟩; rw [hq] at hc; cases hc)] at h
    simp only [Option.some.injEq, Prod.mk.injEq] at h
    obtain ⟨rfl, rfl, rfl⟩ := h
    exact Parse_w2 a0 first second _ _ t te w hC (Lib.hid fun w => PI_ok first z1 hp w) (Lib.hid fun w g => PI_bad second z2 hq w g) hT hg
  | false =>
   rw [if_neg (by rintro ⟨hc, _⟩; rw [hp] at hc; cases hc)] at h
   simp only [Option.some.injEq, Prod.mk.injEq] at h
   obtain ⟨rfl, rfl, rfl⟩ := h
   cases hq : (parseVal second.data.toList).2 with
   | true => exact Parse_w3 a0 first second _ _ t te w hC (Lib.hid fun w g => PI_bad first z1 hp w g) (Lib.hid fun w => PI_ok second z2 hq w) hT hg
   | false => exact Parse_w4 a0 first second _ _ t te w hC (Lib.hid fun w g => PI_bad first z1 hp w g) (Lib.hid fun w g => PI_bad second z2 hq w g) hT hg
 | false =>
  have e1 : parseVal [49] = (1, true) := by decide +kernel
  simp only [Bool.false_eq_true, if_false, e1] at h hT
  have hone := fun w => PI_ok ⟨#[49]⟩ (by decide) (by show (parseVal [49]).2 = true; rw [e1]) w
  replace hone : ∀ w, Calls Tryz.prog 96 #[.string ⟨#[49]⟩, .int .i64 10, .int .i64 64] w fun e w' => e = .returned (.tuple #[.int .i64 1, .nilIface]) ∧ Below w.heap.size w w' := by
   intro w
   refine (hone w).mono ?_
   rintro e w' ⟨rfl, hb⟩
   refine ⟨?_, hb⟩
   show _ = Ending.returned (.tuple #[.int .i64 (parseVal [49]).1, .nilIface])
   rw [e1]
  cases hp : (parseVal first.data.toList).2 with
  | true =>
   refine (Parse_w5 a0 first second _ _ t te w hC (Lib.hid fun w => PI_ok first z1 hp w) (Lib.hid hone) hT hg).mono ?_
   rintro e w' ⟨he, hb⟩
   refine ⟨?_, hb⟩
   unfold PRes at he
   rw [he]
   simp only [hp, true_and] at h
   split at h
   ·
    rename_i hc
    simp only [Option.some.injEq, Prod.mk.injEq] at h
    obtain ⟨rfl, rfl, rfl⟩ := h
    rw [if_pos hc, if_pos hc, if_pos hc]
   ·
    rename_i hc
    simp only [Option.some.injEq, Prod.mk.injEq] at h
    obtain ⟨rfl, rfl, rfl⟩ := h
    rw [if_neg hc, if_neg hc, if_neg hc]
  | false =>
   rw [if_neg (by rintro ⟨hc, _⟩; rw [hp] at hc; cases hc)] at h
   simp only [Option.some.injEq, Prod.mk.injEq] at h
   obtain ⟨rfl, rfl, rfl⟩ := h
   exact Parse_w6 a0 first second _ _ t te w hC (Lib.hid fun w g => PI_bad first z1 hp w g) (Lib.hid hone) hT hg
def strings_ContainsAny.f (a0 : ByteArray) (a1 : ByteArray) : Option (Bool) := (strings_IndexAny.f a0 a1).bind fun t241 => (some (decide (t241 ≥ 0)))
set_option maxHeartbeats 8000000 in
set_option maxRecDepth 100000 in
theorem strings_ContainsAny.calls (a0 : ByteArray) (a1 : ByteArray) (r : Bool) (w : World) (h : strings_ContainsAny.f a0 a1 = some r) :
  Calls Tryz.prog 69 #[.string a0, .string a1] w fun e w' => e = .returned (.bool r) ∧ Below w.heap.size w w' := by
 have HB := Fa.mk (Below.refl w.heap.size w)
 have H : ((strings_IndexAny.f a0 a1).bind fun t241 => (some (decide (t241 ≥ 0)))) = some r := h
 clear h
 replace H := Option.bind_eq_some_iff.mp H
 obtain ⟨t241, A30, H⟩ := H
 (try dsimp only at H)
 have A3 := Fa.mk A30
 clear A30
 obtain rfl := Option.some.inj H
 go_enter Tryz.func69, Tryz.ntmps69
 go_wp2_with (first | ((with_reducible refine gate_callee (f := 64) rfl ?_); refine goesA (some 7) rfl rfl Tryz.func64 (by kernel_rfl) rfl #[.string a0, .string a1] rfl ?_; (with_reducible refine (strings_IndexAny.calls a0 a1 t241 _ A3.out).mono ?_); rintro e w4 ⟨rfl, hb⟩; refine ⟨_, rfl, ?_⟩; have n0_ := Fa.mk (bst w hb); clear HB; have HB := n0_; clear n0_; (try clear hb); (try clear hb2); (try clear hk); (try clear hi)))
 go_ret
 exact ⟨rfl, fa⟩
end Go.Proofs.YtilamkcpbibnmaaGreatDoor.P
