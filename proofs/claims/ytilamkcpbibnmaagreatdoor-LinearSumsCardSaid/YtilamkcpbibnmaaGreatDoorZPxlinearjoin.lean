import Derived.Test.YtilamkcpbibnmaaGreatDoorZPx0
import Derived.Test.YtilamkcpbibnmaaGreatDoorZPxlinearrising
import Derived.Test.YtilamkcpbibnmaaGreatDoorZPxrationalNear
namespace Go.Proofs.YtilamkcpbibnmaaGreatDoor.P
open Go.RowKit Go.Proofs.YtilamkcpbibnmaaGreatDoorW.PrintWords Go.Proofs.YtilamkcpbibnmaaGreatDoorW.PrintLast Go.Proofs.YtilamkcpbibnmaaGreatDoorW.PrintMore
attribute [local go_sem] max2_int min2_int max_two min_two max_three min_three max_four min_four
set_option linter.unusedVariables false
set_option linter.unusedSimpArgs false
def jfirst : List S47 → List S47 → Bool
  | [], _ => false
  | _ :: _, [] => true
  | t :: _, s :: _ => Op.bytesLess t.f0.toList s.f0.toList || t.f0.toList == s.f0.toList
def jhd : List S47 → ByteArray
  | [] => ⟨#[]⟩
  | t :: _ => t.f0
def jname (a b : List S47) : ByteArray := if jfirst a b = true then jhd a else jhd b
def jis (n : ByteArray) : List S47 → Bool
  | [] => false
  | t :: _ => t.f0.toList == n.toList
def jc0 (n : ByteArray) : List S47 → Int
  | [] => 0
  | t :: ts => if jis n (t :: ts) = true then t.f1.f0 else 0
def jc1 (n : ByteArray) : List S47 → Int
  | [] => 1
  | t :: ts => if jis n (t :: ts) = true then t.f1.f1 else 1
def jrest (n : ByteArray) (l : List S47) : List S47 := if jis n l = true then l.drop 1 else l
def jgo (k : Nat) (op : ByteArray) : Nat → List S47 → List S47 → List S47 → Option (List S47 × Int)
  | 0, _, _, out => some (out, 0)
  | n + 1, a, b, out => if a.length + b.length = 0 then some (out, 0) else
      (num_Near.f k op (jc0 (jname a b) a) (jc1 (jname a b) a) (jc0 (jname a b) b) (jc1 (jname a b) b)).bind fun c =>
        if c.2.2 = 0 then jgo k op n (jrest (jname a b) a) (jrest (jname a b) b) (if c.1 = 0 then out else out ++ [⟨jname a b, ⟨c.1, c.2.1⟩⟩]) else some ([], c.2.2)
def jend (c0 c1 : Int) (o : List S47 × Int) : Int × Int × List S47 × Int := if o.2 = 0 then (if (o.1.length : Int) > 60 then (0, 0, [], 3) else (c0, c1, o.1, 0)) else (0, 0, [], o.2)
def linear_join.f (k : Nat) (a0 : ByteArray) (a1_0 a1_1 : Int) (l1_2 : List S47) (a2_0 a2_1 : Int) (l2_2 : List S47) : Option (Int × Int × List S47 × Int) :=
  if ¬ l1_2.length + l2_2.length < 4398046511104 then none else (linear_Valid.f k a1_0 a1_1 l1_2).bind fun v1 => if v1 = true then (linear_Valid.f k a2_0 a2_1 l2_2).bind fun v2 => if v2 = true then
    (num_Near.f k a0 a1_0 a1_1 a2_0 a2_1).bind fun c => if c.2.2 = 0 then (jgo k a0 (l1_2.length + l2_2.length) l1_2 l2_2 []).bind fun o => some (jend c.1 c.2.1 o) else some (0, 0, [], c.2.2)
    else some (0, 0, [], 2) else some (0, 0, [], 2)
theorem jgo_mono (k : Nat) (op : ByteArray) : ∀ (n : Nat) (a b out : List S47), LeO (jgo k op n a b out) (jgo (k + 1) op n a b out)
  | 0, _, _, _ => LeO.refl _
  | n + 1, a, b, out => by
    unfold jgo
    exact LeO.ite (LeO.refl _) (LeO.bind (num_Near.mono _ _ _ _ _ _) (fun _ => LeO.ite (jgo_mono k op n _ _ _) (LeO.refl _)))
theorem linear_join.mono : ∀ a0 a1 a2 a3 a4 a5 a6 k, LeO (linear_join.f k a0 a1 a2 a3 a4 a5 a6) (linear_join.f (k + 1) a0 a1 a2 a3 a4 a5 a6) := by
  intro a0 a1 a2 a3 a4 a5 a6 k
  unfold linear_join.f
  exact LeO.ite (LeO.refl _) (LeO.bind (linear_Valid.mono _ _ _ _) (fun _ => LeO.ite (LeO.bind (linear_Valid.mono _ _ _ _) (fun _ => LeO.ite (LeO.bind (num_Near.mono _ _ _ _ _ _) (fun _ => LeO.ite (LeO.bind (jgo_mono _ _ _ _ _ _) (fun _ => LeO.refl _)) (LeO.refl _))) (LeO.refl _))) (LeO.refl _)))
theorem jfirst_t {a b : List S47} (h : jfirst a b = true) : ∃ t ts, a = t :: ts := by cases a with | nil => exact absurd h (by simp [jfirst]) | cons t ts => exact ⟨t, ts, rfl⟩
theorem jfirst_f {a b : List S47} (h : jfirst a b = false) (hn : a.length + b.length ≠ 0) : ∃ t ts, b = t :: ts := by
  cases b with
  | cons t ts => exact ⟨t, ts, rfl⟩
  | nil => cases a with | nil => exact absurd rfl hn | cons t ts => exact absurd h (by simp [jfirst])
theorem jis_t {n : ByteArray} {l : List S47} (h : jis n l = true) : ∃ t ts, l = t :: ts := by cases l with | nil => exact absurd h (by simp [jis]) | cons t ts => exact ⟨t, ts, rfl⟩
theorem jc0_f {n : ByteArray} {l : List S47} (h : jis n l = false) : jc0 n l = 0 := by cases l with | nil => rfl | cons t ts => exact if_neg (by rw [h]; decide)
theorem jc1_f {n : ByteArray} {l : List S47} (h : jis n l = false) : jc1 n l = 1 := by cases l with | nil => rfl | cons t ts => exact if_neg (by rw [h]; decide)
theorem jrest_le (n : ByteArray) (l : List S47) : (jrest n l).length ≤ l.length := by unfold jrest; split <;> simp
theorem jrest_lt {a b : List S47} (h : a.length + b.length ≠ 0) : (jrest (jname a b) a).length + (jrest (jname a b) b).length < a.length + b.length := by
  have h1 := jrest_le (jname a b) a
  have h2 := jrest_le (jname a b) b
  by_cases hf : jfirst a b = true
  · obtain ⟨t, ts, rfl⟩ := jfirst_t hf
    have e : jis (jname (t :: ts) b) (t :: ts) = true := by unfold jname; rw [if_pos hf]; exact beq_self_eq_true _
    have : (jrest (jname (t :: ts) b) (t :: ts)).length = ts.length := by unfold jrest; rw [if_pos e]; rfl
    simp only [List.length_cons] at *
    omega
  · obtain ⟨t, ts, rfl⟩ := jfirst_f (by simpa using hf) h
    have e : jis (jname a (t :: ts)) (t :: ts) = true := by unfold jname; rw [if_neg hf]; exact beq_self_eq_true _
    have : (jrest (jname a (t :: ts)) (t :: ts)).length = ts.length := by unfold jrest; rw [if_pos e]; rfl
    simp only [List.length_cons] at *
    omega
def jlen : Value → Nat
  | .slice _ n _ => n
  | _ => 0
structure JS (w : World) (gr gc go : Nat) (cc : Array Value) (c0 c1 : Int) (ov : Value) (out : List S47) (W : World) : Prop where
  br : W.heap[gr]? = some (.cells #[.int .i64 0, .int .i64 0, .slice none 0 0] 26 (0, 0))
  bc : W.heap[gc]? = some (.cells cc 23 (0, 0))
  bo : W.heap[go]? = some (.cells #[.int .i64 c0, .int .i64 c1, ov] 26 (0, 0))
  ro : Kd.R k47 47 W w.heap.size (fun _ => True) ov out
  hb : Below w.heap.size w W
  lr : w.heap.size ≤ gr
  lc : w.heap.size ≤ gc
  lo : w.heap.size ≤ go
  nro : gr ≠ go
section
variable {w W W' : World} {gr gc go gx gy g : Nat} {cc cc' cs xc xc' yc yc' : Array Value} {c0 c1 : Int} {ov ov' : Value} {out out' : List S47}
theorem JS.call (s : JS w gr gc go cc c0 c1 ov out W) (hb : Below W.heap.size W W') : JS w gr gc go cc c0 c1 ov out W' :=
  ⟨blk_below s.br hb, blk_below s.bc hb, blk_below s.bo hb, Kd.R_below s.ro hb, below_step s.hb hb, s.lr, s.lc, s.lo, s.nro⟩
theorem JS.drew (s : JS w gr gc go cc c0 c1 ov out W) : JS w gr gc go cc c0 c1 ov out W.drew :=
  ⟨blk_drew s.br, blk_drew s.bc, blk_drew s.bo, Kd.R_drew s.ro, below_drew1 s.hb, s.lr, s.lc, s.lo, s.nro⟩
theorem R_put {v : Value} {l : List S47} {t : TypeId} (h : Kd.R k47 47 W w.heap.size (fun _ => True) v l) (hb : W.heap[g]? = some (.cells cs t (0, 0))) (ht : ∀ q : Nat, q ∈ 47 :: k47.E → q ≠ t) (i : Nat) (u : Value) : Kd.R k47 47 (W.setCell ⟨g, i, none⟩ u) w.heap.size (fun _ => True) v l :=
  Kd.R_mono (Kd.R_far (p := ⟨g, i, none⟩) (Kd.R_types h hb ht) (fun _ hk => hk.2) u) (fun _ _ => trivial)
theorem JS.far (s : JS w gr gc go cc c0 c1 ov out W) (h : W.heap[g]? = some (.cells cs 23 (0, 0))) (hn : gc ≠ g) (hl : w.heap.size ≤ g) (i : Nat) (u : Value) : JS w gr gc go cc c0 c1 ov out (W.setCell ⟨g, i, none⟩ u) :=
  ⟨blk_far s.br (p := ⟨g, i, none⟩) (blk_ne s.br h (by decide)) u, blk_far s.bc (p := ⟨g, i, none⟩) hn u, blk_far s.bo (p := ⟨g, i, none⟩) (blk_ne s.bo h (by decide)) u, R_put s.ro h (by decide) i u, below_set s.hb hl, s.lr, s.lc, s.lo, s.nro⟩
theorem JS.setc (s : JS w gr gc go cc c0 c1 ov out W) (i : Nat) (u : Value) (e : cc.setIfInBounds i u = cc') : JS w gr gc go cc' c0 c1 ov out (W.setCell ⟨gc, i, none⟩ u) :=
  ⟨blk_far s.br (p := ⟨gc, i, none⟩) (blk_ne s.br s.bc (by decide)) u, blk_put s.bc i u e, blk_far s.bo (p := ⟨gc, i, none⟩) (blk_ne s.bo s.bc (by decide)) u, R_put s.ro s.bc (by decide) i u, below_set s.hb s.lc, s.lr, s.lc, s.lo, s.nro⟩
theorem JS.app (s : JS w gr gc go cc c0 c1 ov out W) (ro' : Kd.R k47 47 W' w.heap.size (fun _ => True) ov' out') (hb : Below w.heap.size w W') (hg : W.grownBy W' ov.ownBlock) : JS w gr gc go cc c0 c1 ov' out' (W'.setCell ⟨go, 2, none⟩ ov') :=
  have b1 := blk_grown s.br hg (Kd.R_ne s.ro s.br (by decide))
  have b2 := blk_grown s.bc hg (Kd.R_ne s.ro s.bc (by decide))
  have b3 := blk_grown s.bo hg (Kd.R_ne s.ro s.bo (by decide))
  ⟨blk_far b1 (p := ⟨go, 2, none⟩) s.nro _, blk_far b2 (p := ⟨go, 2, none⟩) (blk_ne b2 b3 (by decide)) _, blk_put b3 2 _ rfl, R_put ro' b3 (by decide) 2 _, below_set hb s.lo, s.lr, s.lc, s.lo, s.nro⟩
structure JX (w : World) (gr gc go gx gy : Nat) (cc : Array Value) (c0 c1 : Int) (ov : Value) (out : List S47) (xc yc : Array Value) (W : World) : Prop where
  s : JS w gr gc go cc c0 c1 ov out W
  bx : W.heap[gx]? = some (.cells xc 23 (0, 0))
  bz : W.heap[gy]? = some (.cells yc 23 (0, 0))
  lx : w.heap.size ≤ gx
  ly : w.heap.size ≤ gy
  nxy : gx ≠ gy
  ncx : gc ≠ gx
  ncy : gc ≠ gy
theorem JX.drew (s : JX w gr gc go gx gy cc c0 c1 ov out xc yc W) : JX w gr gc go gx gy cc c0 c1 ov out xc yc W.drew := ⟨s.s.drew, blk_drew s.bx, blk_drew s.bz, s.lx, s.ly, s.nxy, s.ncx, s.ncy⟩
theorem JX.call (s : JX w gr gc go gx gy cc c0 c1 ov out xc yc W) (hb : Below W.heap.size W W') : JX w gr gc go gx gy cc c0 c1 ov out xc yc W' := ⟨s.s.call hb, blk_below s.bx hb, blk_below s.bz hb, s.lx, s.ly, s.nxy, s.ncx, s.ncy⟩
theorem JX.setx (s : JX w gr gc go gx gy cc c0 c1 ov out xc yc W) (i : Nat) (u : Value) (e : xc.setIfInBounds i u = xc') : JX w gr gc go gx gy cc c0 c1 ov out xc' yc (W.setCell ⟨gx, i, none⟩ u) :=
  ⟨s.s.far s.bx s.ncx s.lx i u, blk_put s.bx i u e, blk_far s.bz (p := ⟨gx, i, none⟩) s.nxy.symm u, s.lx, s.ly, s.nxy, s.ncx, s.ncy⟩
theorem JX.setz (s : JX w gr gc go gx gy cc c0 c1 ov out xc yc W) (i : Nat) (u : Value) (e : yc.setIfInBounds i u = yc') : JX w gr gc go gx gy cc c0 c1 ov out xc yc' (W.setCell ⟨gy, i, none⟩ u) :=
  ⟨s.s.far s.bz s.ncy s.ly i u, blk_far s.bx (p := ⟨gy, i, none⟩) s.nxy u, blk_put s.bz i u e, s.lx, s.ly, s.nxy, s.ncx, s.ncy⟩
theorem JX.setc (s : JX w gr gc go gx gy cc c0 c1 ov out xc yc W) (i : Nat) (u : Value) (e : cc.setIfInBounds i u = cc') : JX w gr gc go gx gy cc' c0 c1 ov out xc yc (W.setCell ⟨gc, i, none⟩ u) :=
  ⟨s.s.setc i u e, blk_far s.bx (p := ⟨gc, i, none⟩) s.ncx.symm u, blk_far s.bz (p := ⟨gc, i, none⟩) s.ncy.symm u, s.lx, s.ly, s.nxy, s.ncx, s.ncy⟩
theorem JX.mk1 {W1 W2 : World} (s : JS w gr gc go cc c0 c1 ov out W) (hx : gx = W.heap.size) (b1 : Below W.heap.size W W1) (h1 : W1.heap[gx]? = some (.cells xc 23 (0, 0))) (hy : gy = W1.heap.size) (b2 : Below W1.heap.size W1 W2) (h2 : W2.heap[gy]? = some (.cells yc 23 (0, 0))) :
    JX w gr gc go gx gy cc c0 c1 ov out xc yc W2 :=
  have s1 := s.call b1
  ⟨s1.call b2, blk_below h1 b2, h2, by rw [hx]; exact s.hb.size, by rw [hy]; exact s1.hb.size, by rw [hy]; exact Nat.ne_of_lt (blk_lt h1), by rw [hx]; exact Nat.ne_of_lt (blk_lt s.bc), by rw [hy]; exact Nat.ne_of_lt (blk_lt s1.bc)⟩
theorem JX.mk2 {W1 W2 : World} (s : JS w gr gc go cc c0 c1 ov out W) (hy : gy = W.heap.size) (b1 : Below W.heap.size W W1) (h1 : W1.heap[gy]? = some (.cells yc 23 (0, 0))) (hx : gx = W1.heap.size) (b2 : Below W1.heap.size W1 W2) (h2 : W2.heap[gx]? = some (.cells xc 23 (0, 0))) :
    JX w gr gc go gx gy cc c0 c1 ov out xc yc W2 :=
  have s1 := s.call b1
  ⟨s1.call b2, h2, blk_below h1 b2, by rw [hx]; exact s1.hb.size, by rw [hy]; exact s.hb.size, by rw [hx]; exact Nat.ne_of_gt (blk_lt h1), by rw [hx]; exact Nat.ne_of_lt (blk_lt s1.bc), by rw [hy]; exact Nat.ne_of_lt (blk_lt s.bc)⟩
end
theorem jat {w W : World} {A : Option Addr} {xs ts : List S47} {t : S47} (e : xs = t :: ts) (h : Kd.C k47 w A xs.length xs) (hb : Below w.heap.size w W) :
    ∃ ad, A = some ad ∧ W.cell? ad = some (.string t.f0) ∧ W.cell? ⟨ad.block, ad.off + 1, none⟩ = some (.int .i64 t.f1.f0) ∧ W.cell? ⟨ad.block, ad.off + 2, none⟩ = some (.int .i64 t.f1.f1) ∧ ad.block < w.heap.size := by
  obtain ⟨ad, ea, h0, h1, h2⟩ := at_T47 h 0 (by omega) (by rw [e]; simp)
  rw [show ((0 : Int)).toNat = 0 from rfl, show 0 * 3 = 0 from rfl] at h0 h1 h2
  have er : rd_T47 xs 0 = t := by rw [e]; rfl
  rw [er] at h0 h1 h2
  try rw [Addr.add_zero'] at h0
  try rw [Addr.add_zero'] at h1
  try rw [Addr.add_zero'] at h2
  exact ⟨ad, ea, (hb.cell (World.block_lt_of_cell? w _ h0)).trans h0, (hb.cell (World.block_lt_of_cell? w _ h1)).trans h1, (hb.cell (World.block_lt_of_cell? w _ h2)).trans h2, World.block_lt_of_cell? w _ h0⟩
section
variable {P : Program} {ops : Array Oper} {Q : Exit → Act → World → Prop} {md : Region.Mode} {S : World → Prop} {ds : List Nat}
theorem pureV (i : Nat) (N : Option Tmp) (l' : Array Bool) {oi : Oper} {v : Value} {fuel : Nat} {l : Array Bool} {a a' : Act} {w : World} (h : wpAnyLast P md ops Q S ds fuel l' a' w)
    (hi : ops[i]? = some oi := by rfl) (hN : oi.dst = N := by rfl) (hc : anyB md ops l l' i = true := by kernel_rfl) (hQ : ∀ c a w, Q (.panic c) (a.put oi.dst v) w → Q (.panic c) a w := by exact fun _ _ _ h => h)
    (hy : Yields P ops oi v a := by exact Or.inl ⟨by rfl, by intro w'; go_simp; with_reducible rfl⟩) (ha : a.put N v = a' := by simp only [Act.put, List.setIfInBounds_toArray, List.set_cons_zero, List.set_cons_succ, i64_w, i32_w]; rfl) : wpAnyLast P md ops Q S ds (fuel + 1) l a w :=
  pure_ l' hi hN hc hQ hy ha h
theorem takeV (i : Nat) (N : Option Tmp) (l' : Array Bool) {oi : Oper} {v : Value} {fuel : Nat} {l : Array Bool} {a a' : Act} {w : World} (hS : S w) (hi : ops[i]? = some oi)
    (hy : ∀ w', S w' → (execOp a.eval oi).run P w' = .ok (.value v) w') (h : wpAnyLast P md ops Q S ds fuel l' a' w)
    (hN : oi.dst = N := by rfl) (hc : takeB md ops ds l l' i = true := by kernel_rfl) (hQ : ∀ c a w, Q (.panic c) (a.put oi.dst v) w → Q (.panic c) a w := by exact fun _ _ _ h => h)
    (hg : Region.wanted oi (yielded ops a.tmps) = true := by rfl) (ha : a.put N v = a' := by simp only [Act.put, List.setIfInBounds_toArray, List.set_cons_zero, List.set_cons_succ, i64_w, i32_w]; rfl) : wpAnyLast P md ops Q S ds (fuel + 1) l a w :=
  take_ l' hi hN hc hQ (Or.inl ⟨hg, hy⟩) hS ha h
theorem oneV (i : Nat) (N : Option Tmp) (l' : Array Bool) {oi : Oper} {fuel : Nat} {l : Array Bool} {a : Act} {w : World}
    (h : ∀ K : Act → World → Prop, Shut (∀ a' w', S w' → (S w' → wpAnyLast P md ops Q S ds fuel l' a' w') → K a' w') → if Region.wanted oi (yielded ops a.tmps) = true then Oper.wp P oi a w K Q else K (a.put N undef) w)
    (hi : ops[i]? = some oi := by rfl) (hN : oi.dst = N := by rfl) (hc : readyB md ops l l' i = true := by kernel_rfl) (hd : i ∉ ds := by decide) : wpAnyLast P md ops Q S ds (fuel + 1) l a w :=
  one_ l' hi hN hc hd h
end
structure JF (w : World) (gf gg gr : Nat) (fcs gcs : Array Value) (W : World) : Prop where
  bf : W.heap[gf]? = some (.cells fcs 26 (0, 0))
  bg : W.heap[gg]? = some (.cells gcs 26 (0, 0))
  br : W.heap[gr]? = some (.cells #[.int .i64 0, .int .i64 0, .slice none 0 0] 26 (0, 0))
  hb : Below w.heap.size w W
  lr : w.heap.size ≤ gr
section
variable {w W W' : World} {gf gg gr gc go : Nat} {fcs gcs : Array Value}
theorem JF.call (s : JF w gf gg gr fcs gcs W) (hb : Below W.heap.size W W') : JF w gf gg gr fcs gcs W' := ⟨blk_below s.bf hb, blk_below s.bg hb, blk_below s.br hb, below_step s.hb hb, s.lr⟩
theorem JF.out (s : JF w gf gg gr fcs gcs W) (x y z : Value) : (((W.setCell ⟨gr, 0, none⟩ x).setCell ⟨gr, 1, none⟩ y).setCell ⟨gr, 2, none⟩ z).heap[gr]? = some (.cells #[x, y, z] 26 (0, 0)) ∧ Below w.heap.size w (((W.setCell ⟨gr, 0, none⟩ x).setCell ⟨gr, 1, none⟩ y).setCell ⟨gr, 2, none⟩ z) :=
  ⟨blk_put (blk_put (blk_put s.br 0 x rfl) 1 y rfl) 2 z rfl, below_set (below_set (below_set s.hb s.lr) s.lr) s.lr⟩
theorem JS.outs {cc : Array Value} {c0 c1 : Int} {ov : Value} {out : List S47} (s : JS w gr gc go cc c0 c1 ov out W) (x y z : Value) : (((W.setCell ⟨gr, 0, none⟩ x).setCell ⟨gr, 1, none⟩ y).setCell ⟨gr, 2, none⟩ z).heap[gr]? = some (.cells #[x, y, z] 26 (0, 0)) ∧ Below w.heap.size w (((W.setCell ⟨gr, 0, none⟩ x).setCell ⟨gr, 1, none⟩ y).setCell ⟨gr, 2, none⟩ z) ∧ Kd.R k47 47 (((W.setCell ⟨gr, 0, none⟩ x).setCell ⟨gr, 1, none⟩ y).setCell ⟨gr, 2, none⟩ z) w.heap.size (fun _ => True) ov out :=
  have b1 := blk_put s.br 0 x rfl
  have b2 := blk_put b1 1 y rfl
  ⟨blk_put b2 2 z rfl, below_set (below_set (below_set s.hb s.lr) s.lr) s.lr, R_put (R_put (R_put s.ro s.br (by decide) 0 x) b1 (by decide) 1 y) b2 (by decide) 2 z⟩
theorem JS.start {W1 W2 : World} {p q : Int} (s : JF w gf gg gr fcs gcs W) (hc : gc = W.heap.size) (b1 : Below W.heap.size W W1) (h1 : W1.heap[gc]? = some (.cells #[.int .i64 0, .int .i64 0] 23 (0, 0)))
    (ho : go = ((W1.setCell ⟨gc, 0, none⟩ (.int .i64 p)).setCell ⟨gc, 1, none⟩ (.int .i64 q)).heap.size) (b2 : Below ((W1.setCell ⟨gc, 0, none⟩ (.int .i64 p)).setCell ⟨gc, 1, none⟩ (.int .i64 q)).heap.size ((W1.setCell ⟨gc, 0, none⟩ (.int .i64 p)).setCell ⟨gc, 1, none⟩ (.int .i64 q)) W2)
    (h2 : W2.heap[go]? = some (.cells #[.int .i64 0, .int .i64 0, .slice none 0 0] 26 (0, 0))) :
    JS w gr gc go #[.int .i64 p, .int .i64 q] p q (.slice none 0 0) [] (((W2.setCell ⟨go, 0, none⟩ (.int .i64 p)).setCell ⟨go, 1, none⟩ (.int .i64 q)).setCell ⟨go, 2, none⟩ (.slice none 0 0)) ∧
    (((W2.setCell ⟨go, 0, none⟩ (.int .i64 p)).setCell ⟨go, 1, none⟩ (.int .i64 q)).setCell ⟨go, 2, none⟩ (.slice none 0 0)).heap[gf]? = some (.cells fcs 26 (0, 0)) ∧ (((W2.setCell ⟨go, 0, none⟩ (.int .i64 p)).setCell ⟨go, 1, none⟩ (.int .i64 q)).setCell ⟨go, 2, none⟩ (.slice none 0 0)).heap[gg]? = some (.cells gcs 26 (0, 0)) := by
  have s1 := s.call b1
  have lc : w.heap.size ≤ gc := by rw [hc]; exact s.hb.size
  have c1 := blk_put (blk_put h1 0 (.int .i64 p) rfl) 1 (.int .i64 q) rfl
  have far : ∀ {g : Nat} {cs : Array Value}, W1.heap[g]? = some (.cells cs 26 (0, 0)) → ((W1.setCell ⟨gc, 0, none⟩ (.int .i64 p)).setCell ⟨gc, 1, none⟩ (.int .i64 q)).heap[g]? = some (.cells cs 26 (0, 0)) := fun h => blk_far (blk_far h (p := ⟨gc, 0, none⟩) (blk_ne h h1 (by decide)) _) (p := ⟨gc, 1, none⟩) (blk_ne h h1 (by decide)) _
  have f1 := far s1.bf
  have g1 := far s1.bg
  have r1 := far s1.br
  have hb1 : Below w.heap.size w ((W1.setCell ⟨gc, 0, none⟩ (.int .i64 p)).setCell ⟨gc, 1, none⟩ (.int .i64 q)) := below_set (below_set s1.hb lc) lc
  have lo : w.heap.size ≤ go := by rw [ho]; exact hb1.size
  have nf : gf ≠ go := by rw [ho]; exact Nat.ne_of_lt (blk_lt f1)
  have ng : gg ≠ go := by rw [ho]; exact Nat.ne_of_lt (blk_lt g1)
  have nr : gr ≠ go := by rw [ho]; exact Nat.ne_of_lt (blk_lt r1)
  have nc : gc ≠ go := by rw [ho]; exact Nat.ne_of_lt (blk_lt c1)
  have put : ∀ {g : Nat} {cs : Array Value} {t : TypeId}, W2.heap[g]? = some (.cells cs t (0, 0)) → g ≠ go → (((W2.setCell ⟨go, 0, none⟩ (.int .i64 p)).setCell ⟨go, 1, none⟩ (.int .i64 q)).setCell ⟨go, 2, none⟩ (.slice none 0 0)).heap[g]? = some (.cells cs t (0, 0)) := fun h n => blk_far (blk_far (blk_far h (p := ⟨go, 0, none⟩) n _) (p := ⟨go, 1, none⟩) n _) (p := ⟨go, 2, none⟩) n _
  exact ⟨⟨put (blk_below r1 b2) nr, put (blk_below c1 b2) nc, blk_put (blk_put (blk_put h2 0 _ rfl) 1 _ rfl) 2 _ rfl, Kd.R_nil _ _ _ _ _, below_set (below_set (below_set (below_step hb1 b2) lo) lo) lo, s.lr, lc, lo, nr⟩, put (blk_below f1 b2) nf, put (blk_below g1 b2) ng⟩
end
attribute [local go_sem] gl_zero0 gl_zero1 gl_one0 gl_one1
def linear_join.T10 : Bool × List (List Nat × List Nat) := (true, [([], []), ([0], [0]), ([1], [1]), ([2], [2]), ([3], [3]), ([4, 3], [3, 4]), ([5, 3], [3, 5]), ([6, 3, 3], [3, 6]), ([7], [7]), ([8, 7], [7, 8]), ([9, 7], [7, 9]), ([10, 7], [7, 10]), ([7], [7]), ([12, 7], [7, 12]), ([13, 7], [7, 13]), ([14, 7], [7, 14]), ([11, 15, 7], [7, 11, 15]), ([7, 16, 3], [3, 7, 16]), ([3, 17], [3, 17])])
def linear_join.B10 : List Nat := [0, 1, 3, 7, 15, 31, 63, 127, 255, 511, 1023, 2047, 255, 4351, 12543, 28927, 65535, 131071, 262143]
theorem linear_join.tab10 : rtab .any (opsOf Tryz.f42 10) = linear_join.T10 := by kernel_rfl
theorem linear_join.bits10 : waitsOk linear_join.T10.2 linear_join.B10 = true := by kernel_rfl
def linear_join.T14 : Bool × List (List Nat × List Nat) := (true, [([], []), ([0], [0]), ([1], [1]), ([2], [2]), ([], []), ([4], [4]), ([3, 0, 1, 2, 3], [3]), ([5, 6, 0, 1, 2, 3, 4, 5, 6], [0, 4, 5])])
def linear_join.B14 : List Nat := [0, 1, 3, 7, 0, 16, 15, 127]
theorem linear_join.tab14 : rtab .any (opsOf Tryz.f42 14) = linear_join.T14 := by kernel_rfl
theorem linear_join.tab16 : rtab .any (opsOf Tryz.f42 16) = linear_join.T14 := by kernel_rfl
theorem linear_join.bits14 : waitsOk linear_join.T14.2 linear_join.B14 = true := by kernel_rfl
theorem linear_join.bits16 : waitsOk linear_join.T14.2 linear_join.B14 = true := linear_join.bits14
set_option maxHeartbeats 8000000 in
set_option maxRecDepth 100000 in
theorem linear_join.calls (k : Nat) (a0 : ByteArray) (a1_0 a1_1 : Int) (A1_2 : Option Addr) (c1_2 : Nat) (l1_2 : List S47) (a2_0 a2_1 : Int) (A2_2 : Option Addr) (c2_2 : Nat) (l2_2 : List S47) (r1 r2 : Int) (r3 : List S47) (r4 : Int) (w : World) (hr1_2 : Kd.C k47 w A1_2 l1_2.length l1_2) (hc1_2 : l1_2.length ≤ c1_2) (hr2_2 : Kd.C k47 w A2_2 l2_2.length l2_2) (hc2_2 : l2_2.length ≤ c2_2) (h : linear_join.f k a0 a1_0 a1_1 l1_2 a2_0 a2_1 l2_2 = some (r1, r2, r3, r4)) (hG : Glob w) :
  Calls Tryz.prog 42 #[.string a0, .agg #[.int .i64 a1_0, .int .i64 a1_1, .slice A1_2 l1_2.length c1_2], .agg #[.int .i64 a2_0, .int .i64 a2_1, .slice A2_2 l2_2.length c2_2]] w fun e w' => ∃ v2_ : Value, e = .returned (.tuple #[.agg #[.int .i64 r1, .int .i64 r2, v2_], .int .i64 r4]) ∧ Kd.R k47 47 w' w.heap.size (fun _ => True) v2_ r3 ∧ Below w.heap.size w w' := by
 have hu26 := Tryz.underlying26
 have hu23 := Tryz.underlying23
 have hu47 := Tryz.underlying47
 have hBs : Base w := Base.mk
 have HG := Fa.mk hG
 have HR1 := Fa.mk hr1_2
 have HC1 := Fa.mk hc1_2
 have HR2 := Fa.mk hr2_2
 have HC2 := Fa.mk hc2_2
 clear hG hr1_2 hc1_2 hr2_2 hc2_2
 have HB := Fa.mk (Below.refl w.heap.size w)
 have tok1 : True := trivial
 unfold linear_join.f at h
 split at h
 ·
  cases h
 rename_i hbig
 have HBG : Fa (l1_2.length + l2_2.length < 4398046511104) := ⟨by omega⟩
 clear hbig
 obtain ⟨v1, hv, h⟩ := Option.bind_eq_some_iff.mp h
 have HV1 := Fa.mk hv
 clear hv
 by_cases hvt : v1 = true
 rotate_left
 ·
  rw [if_neg hvt] at h
  obtain rfl : v1 = false := by simpa using hvt
  simp only [Option.some.injEq, Prod.mk.injEq] at h
  obtain ⟨rfl, rfl, rfl, rfl⟩ := h
  clear hvt
  go_enter Tryz.func42, Tryz.ntmps42
  go_wp2_with (first | ((with_reducible refine gate_dst (N := 4) rfl ?_); refine boxF (N := 4) (cs := #[.int .i64 a1_0, .int .i64 a1_1, .slice A1_2 l1_2.length c1_2]) (t := 26) ?_; intro gf hg_gf w1 hx_gf hb_gf; have BF := Fa.mk hx_gf; have HB1 := Fa.mk (bst w hb_gf); clear hg_gf hx_gf hb_gf HB; have HB := HB1; clear HB1) | ((with_reducible refine gate_dst (N := 5) rfl ?_); refine boxF (N := 5) (cs := #[.int .i64 a2_0, .int .i64 a2_1, .slice A2_2 l2_2.length c2_2]) (t := 26) ?_; intro gg hg_gg w2 hx_gg hb_gg; have BG := Fa.mk hx_gg; have BF1 := Fa.mk (blk_below BF.out hb_gg); have HB1 := Fa.mk (bst w hb_gg); clear hg_gg hx_gg hb_gg HB BF; have HB := HB1; have BF := BF1; clear HB1 BF1) | ((with_reducible refine gate_dst (N := 6) rfl ?_); refine boxF (N := 6) (cs := #[.int .i64 0, .int .i64 0, .slice none 0 0]) (t := 26) ?_; intro gr hg_gr w3 hx_gr hb_gr; have SF := Fa.mk (JF.mk (blk_below BF.out hb_gr) (blk_below BG.out hb_gr) hx_gr (below_step HB.out hb_gr) (Nat.le_trans HB.out.size (Nat.le_of_eq hg_gr.symm))); clear hg_gr hx_gr hb_gr HB BF BG; have cf0 := jcell SF.out.bf (i := 0) rfl; have cf1 := jcell SF.out.bf (i := 1) rfl; have cf2 := jcell SF.out.bf (i := 2) rfl) | (go_at_call 17; (with_reducible refine (linear_Valid.calls k a1_0 a1_1 _ _ l1_2 false _ (Kd.C_below HR1.out SF.out.hb) HC1.out HV1.out).mono ?_); rintro e w4 ⟨rfl, hb⟩; have SF1 := Fa.mk (SF.out.call hb); clear hb SF cf0 cf1 cf2; have SF := SF1; clear SF1; have cf0 := jcell SF.out.bf (i := 0) rfl; have cf1 := jcell SF.out.bf (i := 1) rfl; have cf2 := jcell SF.out.bf (i := 2) rfl; have cg0 := jcell SF.out.bg (i := 0) rfl; have cg1 := jcell SF.out.bg (i := 1) rfl; have cg2 := jcell SF.out.bg (i := 2) rfl; have cr0 := jcell SF.out.br (i := 0) rfl; have cr1 := jcell SF.out.br (i := 1) rfl; have cr2 := jcell SF.out.br (i := 2) rfl; have fr0 := blk_frozen SF.out.br 0; have fr1 := blk_frozen SF.out.br 1; have fr2 := blk_frozen SF.out.br 2))
  refine bodyPost_ret (results_ct rfl _ _ gr 26 #[.int .i64 0, .int .i64 0, .slice none 0 0] (0, 0) _ rfl (SF.out.out (.int .i64 0) (.int .i64 0) (.slice none 0 0)).1 Tryz.underlying26 rfl (by kernel_rfl)) rfl ?_
  exact ⟨_, rfl, Kd.R_nil _ _ _ _ _, (SF.out.out _ _ _).2⟩
 subst hvt
 rw [if_pos rfl] at h
 obtain ⟨v2, hv, h⟩ := Option.bind_eq_some_iff.mp h
 have HV2 := Fa.mk hv
 clear hv
 by_cases hvt : v2 = true
 rotate_left
 ·
  rw [if_neg hvt] at h
  obtain rfl : v2 = false := by simpa using hvt
  simp only [Option.some.injEq, Prod.mk.injEq] at h
  obtain ⟨rfl, rfl, rfl, rfl⟩ := h
  clear hvt
  go_enter Tryz.func42, Tryz.ntmps42
  go_wp2_with (first | ((with_reducible refine gate_dst (N := 4) rfl ?_); refine boxF (N := 4) (cs := #[.int .i64 a1_0, .int .i64 a1_1, .slice A1_2 l1_2.length c1_2]) (t := 26) ?_; intro gf hg_gf w1 hx_gf hb_gf; have BF := Fa.mk hx_gf; have HB1 := Fa.mk (bst w hb_gf); clear hg_gf hx_gf hb_gf HB; have HB := HB1; clear HB1) | ((with_reducible refine gate_dst (N := 5) rfl ?_); refine boxF (N := 5) (cs := #[.int .i64 a2_0, .int .i64 a2_1, .slice A2_2 l2_2.length c2_2]) (t := 26) ?_; intro gg hg_gg w2 hx_gg hb_gg; have BG := Fa.mk hx_gg; have BF1 := Fa.mk (blk_below BF.out hb_gg); have HB1 := Fa.mk (bst w hb_gg); clear hg_gg hx_gg hb_gg HB BF; have HB := HB1; have BF := BF1; clear HB1 BF1) | ((with_reducible refine gate_dst (N := 6) rfl ?_); refine boxF (N := 6) (cs := #[.int .i64 0, .int .i64 0, .slice none 0 0]) (t := 26) ?_; intro gr hg_gr w3 hx_gr hb_gr; have SF := Fa.mk (JF.mk (blk_below BF.out hb_gr) (blk_below BG.out hb_gr) hx_gr (below_step HB.out hb_gr) (Nat.le_trans HB.out.size (Nat.le_of_eq hg_gr.symm))); clear hg_gr hx_gr hb_gr HB BF BG; have cf0 := jcell SF.out.bf (i := 0) rfl; have cf1 := jcell SF.out.bf (i := 1) rfl; have cf2 := jcell SF.out.bf (i := 2) rfl) | (have _t := tok1; go_at_call 17; (with_reducible refine (linear_Valid.calls k a1_0 a1_1 _ _ l1_2 true _ (Kd.C_below HR1.out SF.out.hb) HC1.out HV1.out).mono ?_); rintro e w4 ⟨rfl, hb⟩; have SF1 := Fa.mk (SF.out.call hb); clear hb SF cf0 cf1 cf2 tok1; have SF := SF1; clear SF1; have cf0 := jcell SF.out.bf (i := 0) rfl; have cf1 := jcell SF.out.bf (i := 1) rfl; have cf2 := jcell SF.out.bf (i := 2) rfl; have cg0 := jcell SF.out.bg (i := 0) rfl; have cg1 := jcell SF.out.bg (i := 1) rfl; have cg2 := jcell SF.out.bg (i := 2) rfl; have cr0 := jcell SF.out.br (i := 0) rfl; have cr1 := jcell SF.out.br (i := 1) rfl; have cr2 := jcell SF.out.br (i := 2) rfl; have fr0 := blk_frozen SF.out.br 0; have fr1 := blk_frozen SF.out.br 1; have fr2 := blk_frozen SF.out.br 2) | (go_at_call 17; (with_reducible refine (linear_Valid.calls k a2_0 a2_1 _ _ l2_2 false _ (Kd.C_below HR2.out SF.out.hb) HC2.out HV2.out).mono ?_); rintro e w5 ⟨rfl, hb⟩; have SF1 := Fa.mk (SF.out.call hb); clear hb SF cf0 cf1 cf2 cg0 cg1 cg2 cr0 cr1 cr2 fr0 fr1 fr2; have SF := SF1; clear SF1; have cf0 := jcell SF.out.bf (i := 0) rfl; have cf1 := jcell SF.out.bf (i := 1) rfl; have cf2 := jcell SF.out.bf (i := 2) rfl; have cg0 := jcell SF.out.bg (i := 0) rfl; have cg1 := jcell SF.out.bg (i := 1) rfl; have cg2 := jcell SF.out.bg (i := 2) rfl; have cr0 := jcell SF.out.br (i := 0) rfl; have cr1 := jcell SF.out.br (i := 1) rfl; have cr2 := jcell SF.out.br (i := 2) rfl; have fr0 := blk_frozen SF.out.br 0; have fr1 := blk_frozen SF.out.br 1; have fr2 := blk_frozen SF.out.br 2))
  refine bodyPost_ret (results_ct rfl _ _ gr 26 #[.int .i64 0, .int .i64 0, .slice none 0 0] (0, 0) _ rfl (SF.out.out (.int .i64 0) (.int .i64 0) (.slice none 0 0)).1 Tryz.underlying26 rfl (by kernel_rfl)) rfl ?_
  exact ⟨_, rfl, Kd.R_nil _ _ _ _ _, (SF.out.out _ _ _).2⟩
 subst hvt
 rw [if_pos rfl] at h
 obtain ⟨⟨n1, n2, n3⟩, hn, h⟩ := Option.bind_eq_some_iff.mp h
 have HN := Fa.mk hn
 clear hn
 dsimp only at h
 by_cases hn3 : n3 = 0
 rotate_left
 ·
  rw [if_neg hn3] at h
  simp only [Option.some.injEq, Prod.mk.injEq] at h
  obtain ⟨rfl, rfl, rfl, rfl⟩ := h
  have d0 : (n3 != 0) = true := bne_iff_ne.mpr hn3
  have d1 : (n3 == 0) = false := beq_eq_false_iff_ne.mpr hn3
  clear hn3
  go_enter Tryz.func42, Tryz.ntmps42
  go_wp2_with (first | ((with_reducible refine gate_dst (N := 4) rfl ?_); refine boxF (N := 4) (cs := #[.int .i64 a1_0, .int .i64 a1_1, .slice A1_2 l1_2.length c1_2]) (t := 26) ?_; intro gf hg_gf w1 hx_gf hb_gf; have BF := Fa.mk hx_gf; have HB1 := Fa.mk (bst w hb_gf); clear hg_gf hx_gf hb_gf HB; have HB := HB1; clear HB1) | ((with_reducible refine gate_dst (N := 5) rfl ?_); refine boxF (N := 5) (cs := #[.int .i64 a2_0, .int .i64 a2_1, .slice A2_2 l2_2.length c2_2]) (t := 26) ?_; intro gg hg_gg w2 hx_gg hb_gg; have BG := Fa.mk hx_gg; have BF1 := Fa.mk (blk_below BF.out hb_gg); have HB1 := Fa.mk (bst w hb_gg); clear hg_gg hx_gg hb_gg HB BF; have HB := HB1; have BF := BF1; clear HB1 BF1) | ((with_reducible refine gate_dst (N := 6) rfl ?_); refine boxF (N := 6) (cs := #[.int .i64 0, .int .i64 0, .slice none 0 0]) (t := 26) ?_; intro gr hg_gr w3 hx_gr hb_gr; have SF := Fa.mk (JF.mk (blk_below BF.out hb_gr) (blk_below BG.out hb_gr) hx_gr (below_step HB.out hb_gr) (Nat.le_trans HB.out.size (Nat.le_of_eq hg_gr.symm))); clear hg_gr hx_gr hb_gr HB BF BG; have cf0 := jcell SF.out.bf (i := 0) rfl; have cf1 := jcell SF.out.bf (i := 1) rfl; have cf2 := jcell SF.out.bf (i := 2) rfl) | (have _t := tok1; go_at_call 17; (with_reducible refine (linear_Valid.calls k a1_0 a1_1 _ _ l1_2 true _ (Kd.C_below HR1.out SF.out.hb) HC1.out HV1.out).mono ?_); rintro e w4 ⟨rfl, hb⟩; have SF1 := Fa.mk (SF.out.call hb); clear hb SF cf0 cf1 cf2 tok1; have SF := SF1; clear SF1; have cf0 := jcell SF.out.bf (i := 0) rfl; have cf1 := jcell SF.out.bf (i := 1) rfl; have cf2 := jcell SF.out.bf (i := 2) rfl; have cg0 := jcell SF.out.bg (i := 0) rfl; have cg1 := jcell SF.out.bg (i := 1) rfl; have cg2 := jcell SF.out.bg (i := 2) rfl; have cr0 := jcell SF.out.br (i := 0) rfl; have cr1 := jcell SF.out.br (i := 1) rfl; have cr2 := jcell SF.out.br (i := 2) rfl; have fr0 := blk_frozen SF.out.br 0; have fr1 := blk_frozen SF.out.br 1; have fr2 := blk_frozen SF.out.br 2) | (go_at_call 17; (with_reducible refine (linear_Valid.calls k a2_0 a2_1 _ _ l2_2 true _ (Kd.C_below HR2.out SF.out.hb) HC2.out HV2.out).mono ?_); rintro e w5 ⟨rfl, hb⟩; have SF1 := Fa.mk (SF.out.call hb); clear hb SF cf0 cf1 cf2 cg0 cg1 cg2 cr0 cr1 cr2 fr0 fr1 fr2; have SF := SF1; clear SF1; have cf0 := jcell SF.out.bf (i := 0) rfl; have cf1 := jcell SF.out.bf (i := 1) rfl; have cf2 := jcell SF.out.bf (i := 2) rfl; have cg0 := jcell SF.out.bg (i := 0) rfl; have cg1 := jcell SF.out.bg (i := 1) rfl; have cg2 := jcell SF.out.bg (i := 2) rfl; have cr0 := jcell SF.out.br (i := 0) rfl; have cr1 := jcell SF.out.br (i := 1) rfl; have cr2 := jcell SF.out.br (i := 2) rfl; have fr0 := blk_frozen SF.out.br 0; have fr1 := blk_frozen SF.out.br 1; have fr2 := blk_frozen SF.out.br 2) | (go_at_call 56; (with_reducible refine (num_Near.calls k a0 a1_0 a1_1 a2_0 a2_1 n1 n2 n3 _ HN.out).mono ?_); rintro e w6 ⟨rfl, hb⟩; have SF1 := Fa.mk (SF.out.call hb); clear hb SF cf0 cf1 cf2 cg0 cg1 cg2 cr0 cr1 cr2 fr0 fr1 fr2; have SF := SF1; clear SF1; have cf0 := jcell SF.out.bf (i := 0) rfl; have cf1 := jcell SF.out.bf (i := 1) rfl; have cf2 := jcell SF.out.bf (i := 2) rfl; have cg0 := jcell SF.out.bg (i := 0) rfl; have cg1 := jcell SF.out.bg (i := 1) rfl; have cg2 := jcell SF.out.bg (i := 2) rfl; have cr0 := jcell SF.out.br (i := 0) rfl; have cr1 := jcell SF.out.br (i := 1) rfl; have cr2 := jcell SF.out.br (i := 2) rfl; have fr0 := blk_frozen SF.out.br 0; have fr1 := blk_frozen SF.out.br 1; have fr2 := blk_frozen SF.out.br 2) | ((with_reducible refine gate_dst (N := 8) rfl ?_); refine boxF (N := 8) (cs := #[.int .i64 0, .int .i64 0]) (t := 23) ?_; intro gc hg_gc w7 hx_gc hb_gc; have KC := Fa.mk hg_gc; have KB := Fa.mk hb_gc; have BC := Fa.mk hx_gc; have SFc := Fa.mk (SF.out.call hb_gc); clear hg_gc hx_gc hb_gc cf0 cf1 cf2 cg0 cg1 cg2 cr0 cr1 cr2 fr0 fr1 fr2; have cc0 := jcell BC.out (i := 0) rfl; have cc1 := jcell BC.out (i := 1) rfl; have fc0 := blk_frozen BC.out 0; have fc1 := blk_frozen BC.out 1; have hn1 := blk_ne SFc.out.br BC.out (by decide); have hn2 := hn1.symm; have cr0 := jcell SFc.out.br (i := 0) rfl; have cr1 := jcell SFc.out.br (i := 1) rfl; have cr2 := jcell SFc.out.br (i := 2) rfl; have fr0 := blk_frozen SFc.out.br 0; have fr1 := blk_frozen SFc.out.br 1; have fr2 := blk_frozen SFc.out.br 2))
  have SZ : JF w gf gg gr _ _ ((w7.setCell ⟨gc, 0, none⟩ (.int .i64 n1)).setCell ⟨gc, 1, none⟩ (.int .i64 n2)) := ⟨blk_far (blk_far SFc.out.bf (p := ⟨gc, 0, none⟩) (blk_ne SFc.out.bf BC.out (by decide)) _) (p := ⟨gc, 1, none⟩) (blk_ne SFc.out.bf BC.out (by decide)) _, blk_far (blk_far SFc.out.bg (p := ⟨gc, 0, none⟩) (blk_ne SFc.out.bg BC.out (by decide)) _) (p := ⟨gc, 1, none⟩) (blk_ne SFc.out.bg BC.out (by decide)) _, blk_far (blk_far SFc.out.br (p := ⟨gc, 0, none⟩) hn1 _) (p := ⟨gc, 1, none⟩) hn1 _, below_set (below_set SFc.out.hb (by rw [KC.out]; exact SF.out.hb.size)) (by rw [KC.out]; exact SF.out.hb.size), SFc.out.lr⟩
  refine bodyPost_ret (results_ct rfl _ _ gr 26 #[.int .i64 0, .int .i64 0, .slice none 0 0] (0, 0) _ rfl (SZ.out (.int .i64 0) (.int .i64 0) (.slice none 0 0)).1 Tryz.underlying26 rfl (by kernel_rfl)) rfl ?_
  exact ⟨_, rfl, Kd.R_nil _ _ _ _ _, (SZ.out _ _ _).2⟩
 subst hn3
 rw [if_pos rfl] at h
 obtain ⟨res, hj, h⟩ := Option.bind_eq_some_iff.mp h
 have HJ := Fa.mk hj
 have HF := Fa.mk (Option.some.inj h)
 clear hj h
 go_enter Tryz.func42, Tryz.ntmps42
 go_wp2_with (first | ((with_reducible refine gate_dst (N := 4) rfl ?_); refine boxF (N := 4) (cs := #[.int .i64 a1_0, .int .i64 a1_1, .slice A1_2 l1_2.length c1_2]) (t := 26) ?_; intro gf hg_gf w1 hx_gf hb_gf; have BF := Fa.mk hx_gf; have HB1 := Fa.mk (bst w hb_gf); clear hg_gf hx_gf hb_gf HB; have HB := HB1; clear HB1) | ((with_reducible refine gate_dst (N := 5) rfl ?_); refine boxF (N := 5) (cs := #[.int .i64 a2_0, .int .i64 a2_1, .slice A2_2 l2_2.length c2_2]) (t := 26) ?_; intro gg hg_gg w2 hx_gg hb_gg; have BG := Fa.mk hx_gg; have BF1 := Fa.mk (blk_below BF.out hb_gg); have HB1 := Fa.mk (bst w hb_gg); clear hg_gg hx_gg hb_gg HB BF; have HB := HB1; have BF := BF1; clear HB1 BF1) | ((with_reducible refine gate_dst (N := 6) rfl ?_); refine boxF (N := 6) (cs := #[.int .i64 0, .int .i64 0, .slice none 0 0]) (t := 26) ?_; intro gr hg_gr w3 hx_gr hb_gr; have SF := Fa.mk (JF.mk (blk_below BF.out hb_gr) (blk_below BG.out hb_gr) hx_gr (below_step HB.out hb_gr) (Nat.le_trans HB.out.size (Nat.le_of_eq hg_gr.symm))); clear hg_gr hx_gr hb_gr HB BF BG; have cf0 := jcell SF.out.bf (i := 0) rfl; have cf1 := jcell SF.out.bf (i := 1) rfl; have cf2 := jcell SF.out.bf (i := 2) rfl) | (have _t := tok1; go_at_call 17; (with_reducible refine (linear_Valid.calls k a1_0 a1_1 _ _ l1_2 true _ (Kd.C_below HR1.out SF.out.hb) HC1.out HV1.out).mono ?_); rintro e w4 ⟨rfl, hb⟩; have SF1 := Fa.mk (SF.out.call hb); clear hb SF cf0 cf1 cf2 tok1; have SF := SF1; clear SF1; have cf0 := jcell SF.out.bf (i := 0) rfl; have cf1 := jcell SF.out.bf (i := 1) rfl; have cf2 := jcell SF.out.bf (i := 2) rfl; have cg0 := jcell SF.out.bg (i := 0) rfl; have cg1 := jcell SF.out.bg (i := 1) rfl; have cg2 := jcell SF.out.bg (i := 2) rfl; have cr0 := jcell SF.out.br (i := 0) rfl; have cr1 := jcell SF.out.br (i := 1) rfl; have cr2 := jcell SF.out.br (i := 2) rfl; have fr0 := blk_frozen SF.out.br 0; have fr1 := blk_frozen SF.out.br 1; have fr2 := blk_frozen SF.out.br 2) | (go_at_call 17; (with_reducible refine (linear_Valid.calls k a2_0 a2_1 _ _ l2_2 true _ (Kd.C_below HR2.out SF.out.hb) HC2.out HV2.out).mono ?_); rintro e w5 ⟨rfl, hb⟩; have SF1 := Fa.mk (SF.out.call hb); clear hb SF cf0 cf1 cf2 cg0 cg1 cg2 cr0 cr1 cr2 fr0 fr1 fr2; have SF := SF1; clear SF1; have cf0 := jcell SF.out.bf (i := 0) rfl; have cf1 := jcell SF.out.bf (i := 1) rfl; have cf2 := jcell SF.out.bf (i := 2) rfl; have cg0 := jcell SF.out.bg (i := 0) rfl; have cg1 := jcell SF.out.bg (i := 1) rfl; have cg2 := jcell SF.out.bg (i := 2) rfl; have cr0 := jcell SF.out.br (i := 0) rfl; have cr1 := jcell SF.out.br (i := 1) rfl; have cr2 := jcell SF.out.br (i := 2) rfl; have fr0 := blk_frozen SF.out.br 0; have fr1 := blk_frozen SF.out.br 1; have fr2 := blk_frozen SF.out.br 2) | (go_at_call 56; (with_reducible refine (num_Near.calls k a0 a1_0 a1_1 a2_0 a2_1 n1 n2 0 _ HN.out).mono ?_); rintro e w6 ⟨rfl, hb⟩; have SF1 := Fa.mk (SF.out.call hb); clear hb SF cf0 cf1 cf2 cg0 cg1 cg2 cr0 cr1 cr2 fr0 fr1 fr2; have SF := SF1; clear SF1; have cf0 := jcell SF.out.bf (i := 0) rfl; have cf1 := jcell SF.out.bf (i := 1) rfl; have cf2 := jcell SF.out.bf (i := 2) rfl; have cg0 := jcell SF.out.bg (i := 0) rfl; have cg1 := jcell SF.out.bg (i := 1) rfl; have cg2 := jcell SF.out.bg (i := 2) rfl; have cr0 := jcell SF.out.br (i := 0) rfl; have cr1 := jcell SF.out.br (i := 1) rfl; have cr2 := jcell SF.out.br (i := 2) rfl; have fr0 := blk_frozen SF.out.br 0; have fr1 := blk_frozen SF.out.br 1; have fr2 := blk_frozen SF.out.br 2) | ((with_reducible refine gate_dst (N := 8) rfl ?_); refine boxF (N := 8) (cs := #[.int .i64 0, .int .i64 0]) (t := 23) ?_; intro gc hg_gc w7 hx_gc hb_gc; have KC := Fa.mk hg_gc; have KB := Fa.mk hb_gc; have BC := Fa.mk hx_gc; have SFc := Fa.mk (SF.out.call hb_gc); clear hg_gc hx_gc hb_gc cf0 cf1 cf2 cg0 cg1 cg2 cr0 cr1 cr2 fr0 fr1 fr2; have cc0 := jcell BC.out (i := 0) rfl; have cc1 := jcell BC.out (i := 1) rfl; have fc0 := blk_frozen BC.out 0; have fc1 := blk_frozen BC.out 1; have hn1 := blk_ne SFc.out.br BC.out (by decide); have hn2 := hn1.symm; have cr0 := jcell SFc.out.br (i := 0) rfl; have cr1 := jcell SFc.out.br (i := 1) rfl; have cr2 := jcell SFc.out.br (i := 2) rfl; have fr0 := blk_frozen SFc.out.br 0; have fr1 := blk_frozen SFc.out.br 1; have fr2 := blk_frozen SFc.out.br 2) | ((with_reducible refine gate_dst (N := 10) rfl ?_); refine boxF (N := 10) (cs := #[.int .i64 0, .int .i64 0, .slice none 0 0]) (t := 26) ?_; intro go hg_go w8 hx_go hb_go; have SS := Fa.mk (JS.start (p := n1) (q := n2) SF.out KC.out KB.out BC.out hg_go hb_go hx_go); have co0 := jcell hx_go (i := 0) rfl; have co1 := jcell hx_go (i := 1) rfl; have co2 := jcell hx_go (i := 2) rfl; have fo0 := blk_frozen hx_go 0; have fo1 := blk_frozen hx_go 1; have fo2 := blk_frozen hx_go 2; clear hg_go hb_go hx_go cc0 cc1 fc0 fc1 hn1 hn2 cr0 cr1 cr2 fr0 fr1 fr2 SFc))
 obtain ⟨S0, hf0, hg0⟩ := SS.out
 have S1 := Fa.mk S0.drew
 have hx0 := jcell (blk_drew hf0) (i := 2) rfl
 have hx1 := jcell (blk_drew hg0) (i := 2) rfl
 clear S0 hf0 hg0 SS co0 co1 co2 fo0 fo1 fo2 SF KC KB BC
 refine startU 6 (S := fun w' => w'.cell? ⟨gf, 2, none⟩ = some (.slice A1_2 l1_2.length c1_2) ∧ w'.cell? ⟨gg, 2, none⟩ = some (.slice A2_2 l2_2.length c2_2)) (ds := []) ⟨hx0, hx1⟩ (fun hHeld => ?_)
 generalize World.drew _ = wd at S1 hx0 hx1 hHeld ⊢
 refine pureV 0 (some 40) (upto 6 1) ?_
 refine pureV 2 (some 42) #[true, false, true, false, false, false] ?_
 refine takeV 1 (some 41) (upto 6 3) hHeld rfl (by rintro w' ⟨s0, s1⟩; go_simp; with_reducible rfl) ?_
 refine pureV 4 (some 11) #[true, true, true, false, true, false] ?_
 refine takeV 3 (some 43) (upto 6 5) hHeld rfl (by rintro w' ⟨s0, s1⟩; go_simp; with_reducible rfl) ?_
 refine pureV 5 (some 12) (upto 6 6) ?_
 refine done_ (by kernel_rfl) ?_
 clear hx0 hx1 hHeld
 go_wp2
 go_loopw [11, 12] (fun v11 v12 W => ∃ (n : Nat) (A1 : Option Addr) (C1 : Nat) (xs : List S47) (A2 : Option Addr) (C2 : Nat) (ys : List S47) (ov : Value) (out : List S47) (p q : Int), v11 = .slice A1 xs.length C1 ∧ v12 = .slice A2 ys.length C2 ∧ Fa (Kd.C k47 w A1 xs.length xs) ∧ xs.length ≤ C1 ∧ Fa (Kd.C k47 w A2 ys.length ys) ∧ ys.length ≤ C2 ∧ xs.length + ys.length ≤ n ∧ out.length + xs.length + ys.length ≤ l1_2.length + l2_2.length ∧ Fa (jgo k a0 n xs ys out = some res) ∧ Fa (JS w gr gc go #[.int .i64 p, .int .i64 q] n1 n2 ov out W)) (fun v11 v12 _ => jlen v11 + jlen v12)
 case atStart => exact ⟨_, A1_2, c1_2, l1_2, A2_2, c2_2, l2_2, _, [], n1, n2, rfl, rfl, HR1, HC1.out, HR2, HC2.out, Nat.le_refl _, by simp, HJ, S1⟩
 case round =>
  clear S1 HJ
  obtain ⟨n, A1, C1, xs, A2, C2, ys, ov, out, p, q, rfl, rfl, HX, hcx, HY, hcy, hnn, hll, HJ, S⟩ := hrel
  by_cases hz : xs.length + ys.length = 0
  rotate_left
  ·
   have dw : decide (0 < (wrap64 ((xs.length : Int) + (ys.length : Int)))) = true := decide_eq_true (by have := HBG.out; unfold wrap64; omega)
   cases n with
   | zero => omega
   | succ n =>
   have hJ := HJ.out
   clear HJ
   unfold jgo at hJ
   rw [if_neg hz] at hJ
   obtain ⟨⟨m1, m2, m3⟩, hm, hJ⟩ := Option.bind_eq_some_iff.mp hJ
   dsimp only at hm hJ
   have HM := Fa.mk hm
   have HJ := Fa.mk hJ
   clear hm hJ
   have HLT := Fa.mk (jrest_lt hz)
   go_wp2
   have S1 := Fa.mk S.out.drew
   have HBd : Fa (Below w.heap.size w wr.drew) := ⟨S1.out.hb⟩
   refine startU 7 (S := fun w' => GlobI w' ∧ True) (ds := []) ⟨inferInstance, trivial⟩ (fun hHeld => ?_)
   generalize wr.drew = wd at S1 HBd hHeld ⊢
   refine takeV 0 (some 50) (upto 7 1) hHeld rfl (by rintro w' ⟨hgi, _⟩; go_simp; with_reducible rfl) ?_
   refine takeV 1 (some 51) (upto 7 2) hHeld rfl (by rintro w' ⟨hgi, _⟩; go_simp; with_reducible rfl) ?_
   refine join_ (σ := Nat × Nat) 3 #[true, true, true, true, false, false, false] (fun s_ => [(13, .pointer (some ⟨s_.1, 0, none⟩)), (14, .pointer (some ⟨s_.2, 0, none⟩))]) (fun s_ w' => JX w gr gc go s_.1 s_.2 #[.int .i64 p, .int .i64 q] n1 n2 ov out #[.int .i64 0, .int .i64 0] #[.int .i64 0, .int .i64 0] w') ?_ ?_
   rotate_left
   ·
    intro hCont
    refine two_ (i := 2) (j := 3) (Ni := some 13) (Nj := some 14) (upto 7 3) #[true, true, false, true, false, false, false] rfl rfl rfl rfl (by kernel_rfl) (by decide) (by decide) (fun K hK => ?_) (fun K hK => ?_)
    ·
     refine box_step ?hg (N := 13) ?hd (cs := #[.int .i64 0, .int .i64 0]) (t := 23) ?hr ?_; (case hd => rfl); (case hg => rfl); (case hr => first | (go_simp; done) | (go_simp; rfl))
     intro gx hg_gx wa hx_gx hb_gx
     have HBwa : Fa (Below w.heap.size w wa) := ⟨below_step S1.out.hb hb_gx⟩
     refine hK.out _ _ ⟨inferInstance, trivial⟩ (fun hHeld => ?_)
     clear hK K
     refine normU (some 13) ?_
     refine oneV 3 (some 14) (upto 7 4) (fun K hK => ?_)
     refine box_step ?hg (N := 14) ?hd (cs := #[.int .i64 0, .int .i64 0]) (t := 23) ?hr ?_; (case hd => rfl); (case hg => rfl); (case hr => first | (go_simp; done) | (go_simp; rfl))
     intro gy hg_gy wb hx_gy hb_gy
     have HBwb : Fa (Below w.heap.size w wb) := ⟨below_step HBwa.out hb_gy⟩
     refine hK.out _ _ ⟨inferInstance, trivial⟩ (fun hHeld => ?_)
     clear hK K
     refine normU (some 14) ?_
     exact norm_ (by simp only [putAll, Act.put, List.setIfInBounds_toArray, List.set_cons_zero, List.set_cons_succ]) (hCont (gx, gy) _ (JX.mk1 S1.out hg_gx hb_gx hx_gx hg_gy hb_gy hx_gy))
    ·
     refine box_step ?hg (N := 14) ?hd (cs := #[.int .i64 0, .int .i64 0]) (t := 23) ?hr ?_; (case hd => rfl); (case hg => rfl); (case hr => first | (go_simp; done) | (go_simp; rfl))
     intro gy hg_gy wa hx_gy hb_gy
     have HBwa : Fa (Below w.heap.size w wa) := ⟨below_step S1.out.hb hb_gy⟩
     refine hK.out _ _ ⟨inferInstance, trivial⟩ (fun hHeld => ?_)
     clear hK K
     refine normU (some 14) ?_
     refine oneV 2 (some 13) (upto 7 4) (fun K hK => ?_)
     refine box_step ?hg (N := 13) ?hd (cs := #[.int .i64 0, .int .i64 0]) (t := 23) ?hr ?_; (case hd => rfl); (case hg => rfl); (case hr => first | (go_simp; done) | (go_simp; rfl))
     intro gx hg_gx wb hx_gx hb_gx
     have HBwb : Fa (Below w.heap.size w wb) := ⟨below_step HBwa.out hb_gx⟩
     refine hK.out _ _ ⟨inferInstance, trivial⟩ (fun hHeld => ?_)
     clear hK K
     refine normU (some 13) ?_
     exact norm_ (by simp only [putAll, Act.put, List.setIfInBounds_toArray, List.set_cons_zero, List.set_cons_succ]) (hCont (gx, gy) _ (JX.mk2 S1.out hg_gy hb_gy hx_gy hg_gx hb_gx hx_gx))
   rintro ⟨gx, gy⟩ wj SJ
   clear S1 HBd hHeld
   have hHeld := trivial
   refine norm_ (a' := ?_) ?_ ?_
   rotate_left
   ·
    simp only [putAll, Act.put, List.setIfInBounds_toArray, List.set_cons_zero, List.set_cons_succ]
    rfl
   dsimp only at SJ
   have SK := (SJ.setx 0 (.int .i64 0) rfl).setx 1 (.int .i64 1) rfl
   have HBk : Fa (Below w.heap.size w ((wj.setCell ⟨gx, 0, none⟩ (.int .i64 0)).setCell ⟨gx, 1, none⟩ (.int .i64 1))) := ⟨SK.s.hb⟩
   have cx0 := jcell SJ.bx (i := 0) rfl
   have cx1 := jcell SJ.bx (i := 1) rfl
   have fx0 := blk_frozen SJ.bx 0
   have fx1 := blk_frozen SJ.bx 1
   refine oneV 4 none (upto 7 5) (fun K hK => ?_)
   refine skip_ (w1 := ?_) (by rfl) rfl ?_ ?_
   rotate_left
   ·
    go_simp
    rfl
   refine hK.out _ _ ⟨inferInstance, trivial⟩ (fun hHeld => ?_)
   clear hK K cx0 cx1 fx0 fx1
   have SL := (SK.setz 0 (.int .i64 0) rfl).setz 1 (.int .i64 1) rfl
   have HBl : Fa (Below w.heap.size w ((((wj.setCell ⟨gx, 0, none⟩ (.int .i64 0)).setCell ⟨gx, 1, none⟩ (.int .i64 1)).setCell ⟨gy, 0, none⟩ (.int .i64 0)).setCell ⟨gy, 1, none⟩ (.int .i64 1))) := ⟨SL.s.hb⟩
   have cx0 := jcell SK.bz (i := 0) rfl
   have cx1 := jcell SK.bz (i := 1) rfl
   have fx0 := blk_frozen SK.bz 0
   have fx1 := blk_frozen SK.bz 1
   generalize ((wj.setCell ⟨gx, 0, none⟩ (.int .i64 0)).setCell ⟨gx, 1, none⟩ (.int .i64 1)) = wk at SK HBk SL HBl cx0 cx1 fx0 fx1 hHeld ⊢
   refine oneV 5 none (upto 7 6) (fun K hK => ?_)
   refine skip_ (w1 := ?_) (by rfl) rfl ?_ ?_
   rotate_left
   ·
    go_simp
    rfl
   refine hK.out _ _ ⟨inferInstance, trivial⟩ (fun hHeld => ?_)
   clear hK K cx0 cx1 fx0 fx1 SJ SK HBk
   generalize ((wk.setCell ⟨gy, 0, none⟩ (.int .i64 0)).setCell ⟨gy, 1, none⟩ (.int .i64 1)) = wl at SL HBl hHeld ⊢
   refine pureV 6 (some 15) (upto 7 7) ?_
   refine done_ (by kernel_rfl) ?_
   have S2 := Fa.mk SL
   clear SL HBl hHeld
   go_upto_region 10 with (fail)
   go_cut [70] (fun v70 wc => v70 = .bool (jfirst xs ys) ∧ Fa (JX w gr gc go gx gy #[.int .i64 p, .int .i64 q] n1 n2 ov out #[.int .i64 0, .int .i64 1] #[.int .i64 0, .int .i64 1] wc))
   case first =>
    have SD := Fa.mk S2.out.drew
    clear S2
    by_cases hy0 : ys.length = 0
    ·
     obtain rfl := List.length_eq_zero_iff.mp hy0
     have dlxs0 : decide (0 < (xs.length : Int)) = true := decide_eq_true (by omega)
     have dlxs1 : decide (0 < xs.length) = true := decide_eq_true (by omega)
     have dlxs2 : ((xs.length : Int) == 0) = false := beq_eq_false_iff_ne.mpr (by omega)
     have dlxs3 : (0 < xs.length) = True := eq_true (by omega)
     have hf : jfirst xs [] = true := by cases xs with | nil => exact absurd rfl hz | cons t ts => rfl
     have dly2 : ((([] : List S47).length : Int) == 0) = true := rfl
     refine startU 19 (S := fun w' => True) (ds := []) trivial (fun hHeld => ?_); refine with_tabW linear_join.tab10 linear_join.bits10 (fun HT_ HW_ => ?_)
     generalize World.drew _ = wd at SD hHeld ⊢
     refine pureU 0 (some 52) (upto 19 1) HT_ ?_
     refine pureU 1 (some 53) (upto 19 2) HT_ ?_
     refine pureU 2 (some 54) (upto 19 3) HT_ ?_
     refine pureU 3 (some 55) (upto 19 4) HT_ ?_
     refine offU 4 (some 56) (upto 19 5) HT_ ?_
     refine offU 5 (some 57) (upto 19 6) HT_ ?_
     refine offU 6 (some 58) (upto 19 7) HT_ ?_
     refine offU 7 (some 59) (upto 19 8) HT_ ?_
     refine offU 8 (some 60) (upto 19 9) HT_ ?_
     refine offU 9 (some 61) (upto 19 10) HT_ ?_
     refine offU 10 (some 62) (upto 19 11) HT_ ?_
     refine offU 11 (some 63) (upto 19 12) HT_ ?_
     refine offU 12 (some 64) (upto 19 13) HT_ ?_
     refine offU 13 (some 65) (upto 19 14) HT_ ?_
     refine offU 14 (some 66) (upto 19 15) HT_ ?_
     refine offU 15 (some 67) (upto 19 16) HT_ ?_
     refine offU 16 (some 68) (upto 19 17) HT_ ?_
     refine offU 17 (some 69) (upto 19 18) HT_ ?_
     refine pureU 18 (some 70) (upto 19 19) HT_ ?_
     refine done_ (done_of HT_.out (by kernel_rfl)) ?_
     (try go_wp2)
     go_meet
     case rel => exact ⟨by rw [hf], SD⟩
    by_cases hx0 : xs.length = 0
    ·
     obtain rfl := List.length_eq_zero_iff.mp hx0
     have dlys0 : decide (0 < (ys.length : Int)) = true := decide_eq_true (by omega)
     have dlys1 : decide (0 < ys.length) = true := decide_eq_true (by omega)
     have dlys2 : ((ys.length : Int) == 0) = false := beq_eq_false_iff_ne.mpr (by omega)
     have dlys3 : (0 < ys.length) = True := eq_true (by omega)
     have dlx0 : decide (0 < (([] : List S47).length : Int)) = false := rfl
     have dlx1 : decide (0 < ([] : List S47).length) = false := rfl
     refine startU 19 (S := fun w' => True) (ds := []) trivial (fun hHeld => ?_); refine with_tabW linear_join.tab10 linear_join.bits10 (fun HT_ HW_ => ?_)
     generalize World.drew _ = wd at SD hHeld ⊢
     refine pureU 0 (some 52) (upto 19 1) HT_ ?_
     refine pureU 1 (some 53) (upto 19 2) HT_ ?_
     refine pureU 2 (some 54) (upto 19 3) HT_ ?_
     refine pureU 3 (some 55) (upto 19 4) HT_ ?_
     refine pureU 4 (some 56) (upto 19 5) HT_ ?_
     refine pureU 5 (some 57) (upto 19 6) HT_ ?_
     refine pureU 6 (some 58) (upto 19 7) HT_ ?_
     refine pureU 7 (some 59) (upto 19 8) HT_ ?_
     refine offU 8 (some 60) (upto 19 9) HT_ ?_
     refine offU 9 (some 61) (upto 19 10) HT_ ?_
     refine offU 10 (some 62) (upto 19 11) HT_ ?_
     refine offU 11 (some 63) (upto 19 12) HT_ ?_
     refine offU 12 (some 64) (upto 19 13) HT_ ?_
     refine offU 13 (some 65) (upto 19 14) HT_ ?_
     refine offU 14 (some 66) (upto 19 15) HT_ ?_
     refine offU 15 (some 67) (upto 19 16) HT_ ?_
     refine offU 16 (some 68) (upto 19 17) HT_ ?_
     refine pureU 17 (some 69) (upto 19 18) HT_ ?_
     refine pureU 18 (some 70) (upto 19 19) HT_ ?_
     refine done_ (done_of HT_.out (by kernel_rfl)) ?_
     (try go_wp2)
     go_meet
     case rel => exact ⟨rfl, SD⟩
    obtain ⟨t, ts, hx⟩ := List.exists_cons_of_length_pos (Nat.pos_of_ne_zero hx0)
    obtain ⟨s, ss, hy⟩ := List.exists_cons_of_length_pos (Nat.pos_of_ne_zero hy0)
    obtain ⟨ad, rfl, ca0, _, _, _⟩ := jat hx HX.out SD.out.s.hb
    obtain ⟨bd, rfl, cb0, _, _, _⟩ := jat hy HY.out SD.out.s.hb
    have dlxs0 : decide (0 < (xs.length : Int)) = true := decide_eq_true (by omega)
    have dlxs1 : decide (0 < xs.length) = true := decide_eq_true (by omega)
    have dlxs2 : ((xs.length : Int) == 0) = false := beq_eq_false_iff_ne.mpr (by omega)
    have dlxs3 : (0 < xs.length) = True := eq_true (by omega)
    have dlys0 : decide (0 < (ys.length : Int)) = true := decide_eq_true (by omega)
    have dlys1 : decide (0 < ys.length) = true := decide_eq_true (by omega)
    have dlys2 : ((ys.length : Int) == 0) = false := beq_eq_false_iff_ne.mpr (by omega)
    have dlys3 : (0 < ys.length) = True := eq_true (by omega)
    refine startU 19 (S := fun w' => w'.cell? ad = some (.string t.f0) ∧ w'.cell? bd = some (.string s.f0)) (ds := []) ⟨ca0, cb0⟩ (fun hHeld => ?_); refine with_tabW linear_join.tab10 linear_join.bits10 (fun HT_ HW_ => ?_)
    generalize World.drew _ = wd at SD ca0 cb0 hHeld ⊢
    refine pureU 0 (some 52) (upto 19 1) HT_ ?_
    refine pureU 1 (some 53) (upto 19 2) HT_ ?_
    refine pureU 2 (some 54) (upto 19 3) HT_ ?_
    refine pureU 3 (some 55) (upto 19 4) HT_ ?_
    refine pureU 4 (some 56) (upto 19 5) HT_ ?_
    refine pureU 5 (some 57) (upto 19 6) HT_ ?_
    refine pureU 6 (some 58) (upto 19 7) HT_ ?_
    refine pureU 7 (some 59) (upto 19 8) HT_ ?_
    refine pureU 8 (some 60) (upto 19 9) HT_ ?_
    refine pureU 9 (some 61) (upto 19 10) HT_ ?_
    refine pureU 10 (some 62) (upto 19 11) HT_ ?_
    refine pureU 12 (some 64) #[true, true, true, true, true, true, true, true, true, true, true, false, true, false, false, false, false, false, false] HT_ ?_
    refine pureU 13 (some 65) #[true, true, true, true, true, true, true, true, true, true, true, false, true, true, false, false, false, false, false] HT_ ?_
    refine pureU 14 (some 66) #[true, true, true, true, true, true, true, true, true, true, true, false, true, true, true, false, false, false, false] HT_ ?_
    refine takeU 11 (some 63) (upto 19 15) HT_ HW_ hHeld rfl (by rintro w' ⟨s0, s1⟩; go_simp; with_reducible rfl) ?_
    refine takeU 15 (some 67) (upto 19 16) HT_ HW_ hHeld rfl (by rintro w' ⟨s0, s1⟩; go_simp; with_reducible rfl) ?_
    refine pureU 16 (some 68) (upto 19 17) HT_ ?_
    refine pureU 17 (some 69) (upto 19 18) HT_ ?_
    refine pureU 18 (some 70) (upto 19 19) HT_ ?_
    refine done_ (done_of HT_.out (by kernel_rfl)) ?_
    (try go_wp2)
    go_meet
    case rel => exact ⟨by (try simp only [dly2, Bool.false_or]); rw [hx, hy]; rfl, SD⟩
   case rest =>
    clear S2
    obtain ⟨rfl, S3⟩ := hcut
    obtain ⟨bj, hbj⟩ : ∃ b, jfirst xs ys = b := ⟨_, rfl⟩
    rw [hbj]
    go_upto_if 70 with (fail)
    go_cut [15] (fun v15 wc => v15 = .string (jname xs ys) ∧ Fa (JX w gr gc go gx gy #[.int .i64 p, .int .i64 q] n1 n2 ov out #[.int .i64 0, .int .i64 1] #[.int .i64 0, .int .i64 1] wc))
    case first =>
     cases bj with
     | true =>
      obtain ⟨t, ts, hx⟩ := jfirst_t hbj
      obtain ⟨ad, rfl, ca0, _, _, _⟩ := jat hx HX.out S3.out.s.hb
      have hl0 : 0 < xs.length := by rw [hx]; simp
      have dlxs0 : decide (0 < (xs.length : Int)) = true := decide_eq_true (by omega)
      have dlxs1 : decide (0 < xs.length) = true := decide_eq_true (by omega)
      have dlxs2 : ((xs.length : Int) == 0) = false := beq_eq_false_iff_ne.mpr (by omega)
      have dlxs3 : (0 < xs.length) = True := eq_true (by omega)
      go_wp2
      go_meet
      case rel => exact ⟨by rw [show jname xs ys = t.f0 from by unfold jname; rw [if_pos hbj, hx]; rfl], S3⟩
     | false =>
      obtain ⟨t, ts, hx⟩ := jfirst_f hbj hz
      obtain ⟨ad, rfl, ca0, _, _, _⟩ := jat hx HY.out S3.out.s.hb
      have hl0 : 0 < ys.length := by rw [hx]; simp
      have dlys0 : decide (0 < (ys.length : Int)) = true := decide_eq_true (by omega)
      have dlys1 : decide (0 < ys.length) = true := decide_eq_true (by omega)
      have dlys2 : ((ys.length : Int) == 0) = false := beq_eq_false_iff_ne.mpr (by omega)
      have dlys3 : (0 < ys.length) = True := eq_true (by omega)
      go_wp2
      go_meet
      case rel => exact ⟨by rw [show jname xs ys = t.f0 from by unfold jname; rw [if_neg (by rw [hbj]; decide), hx]; rfl], S3⟩
    case rest =>
     clear S3
     obtain ⟨rfl, S4⟩ := hcut
     clear hbj
     obtain ⟨nm, hnm⟩ : ∃ n, jname xs ys = n := ⟨_, rfl⟩
     rw [hnm] at HM HJ HLT ⊢
     clear hnm
     go_upto_region 13 with (fail)
     go_cut [89] (fun v89 wc => v89 = .bool (jis nm xs) ∧ Fa (JX w gr gc go gx gy #[.int .i64 p, .int .i64 q] n1 n2 ov out #[.int .i64 0, .int .i64 1] #[.int .i64 0, .int .i64 1] wc))
     case first =>
      by_cases hx0 : xs.length = 0
      ·
       obtain rfl := List.length_eq_zero_iff.mp hx0
       have dlx0 : decide (0 < (([] : List S47).length : Int)) = false := rfl
       have dlx1 : decide (0 < ([] : List S47).length) = false := rfl
       go_wp2
       go_meet
       case rel => exact ⟨rfl, S4⟩
      obtain ⟨t, ts, hx⟩ := List.exists_cons_of_length_pos (Nat.pos_of_ne_zero hx0)
      obtain ⟨ad, rfl, ca0, _, _, _⟩ := jat hx HX.out S4.out.s.hb
      have dlxs0 : decide (0 < (xs.length : Int)) = true := decide_eq_true (by omega)
      have dlxs1 : decide (0 < xs.length) = true := decide_eq_true (by omega)
      have dlxs2 : ((xs.length : Int) == 0) = false := beq_eq_false_iff_ne.mpr (by omega)
      have dlxs3 : (0 < xs.length) = True := eq_true (by omega)
      go_wp2
      go_meet
      case rel => exact ⟨by rw [hx]; rfl, S4⟩
     case rest =>
      clear S4
      obtain ⟨rfl, S5⟩ := hcut
      obtain ⟨bi, hbi⟩ : ∃ b, jis nm xs = b := ⟨_, rfl⟩
      rw [hbi]
      go_upto_if 89 with (fail)
      go_cut [11] (fun v11 wc => ∃ (A : Option Addr) (C : Nat), v11 = .slice A (jrest nm xs).length C ∧ Fa (Kd.C k47 w A (jrest nm xs).length (jrest nm xs)) ∧ Fa ((jrest nm xs).length ≤ C) ∧ Fa (JX w gr gc go gx gy #[.int .i64 p, .int .i64 q] n1 n2 ov out #[.int .i64 (jc0 nm xs), .int .i64 (jc1 nm xs)] #[.int .i64 0, .int .i64 1] wc))
      case first =>
       cases bi with
       | false =>
        have e := show jrest nm xs = xs from if_neg (by rw [hbi]; decide)
        go_wp2
        go_meet
        case rel => rw [e, jc0_f hbi, jc1_f hbi]; exact ⟨_, _, rfl, HX, ⟨hcx⟩, S5⟩
       | true =>
        obtain ⟨t, ts, hx⟩ := jis_t hbi
        have SD := Fa.mk S5.out.drew
        clear S5
        obtain ⟨ad, rfl, ca0, ca1, ca2, had⟩ := jat hx HX.out SD.out.s.hb
        have hl0 : 0 < xs.length := by rw [hx]; simp
        go_wp2
        have dlxs0 : decide (0 < (xs.length : Int)) = true := decide_eq_true (by omega)
        have dlxs1 : decide (0 < xs.length) = true := decide_eq_true (by omega)
        have dlxs2 : ((xs.length : Int) == 0) = false := beq_eq_false_iff_ne.mpr (by omega)
        have dlxs3 : (0 < xs.length) = True := eq_true (by omega)
        have e := show jrest nm xs = xs.drop 1 from if_pos hbi
        have e0 : jc0 nm xs = t.f1.f0 := by rw [hx] at hbi ⊢; exact if_pos hbi
        have e1 : jc1 nm xs = t.f1.f1 := by rw [hx] at hbi ⊢; exact if_pos hbi
        obtain ⟨ii, hii, _, hsz, _⟩ := info_parts info47
        have hcu := cut_from (P := Tryz.prog) 24 47 .i64 Tryz.underlying24 hii 3 hsz (some ad) xs.length C1 1 (by omega) (by omega)
        have hdr := Kd.C_drop (m := (1 : Int).toNat) (c := C1) HX.out (by omega) hcx
        obtain ⟨yy, hyy⟩ : ∃ y : List S47, y = xs.drop 1 := ⟨_, rfl⟩
        obtain ⟨C', hC'⟩ : ∃ c : Nat, c = C1 - (1 : Int).toNat := ⟨_, rfl⟩
        have hyl : yy.length = xs.length - (1 : Int).toNat := by rw [hyy, List.length_drop]; rfl
        rw [← hyl, ← hC'] at hcu
        have q1 : ((1 : Int) ≤ (xs.length : Int)) = True := eq_true (by omega)
        generalize hA : (if C1 = (1 : Int).toNat then (some ad) else ((some ad) : Option Addr).map (·.add ((1 : Int).toNat * 3))) = A' at hcu
        replace hdr : Kd.C k47 w A' yy.length yy := by rw [← hA, hyy]; exact hdr
        have HDR := Fa.mk hdr
        have HCC : Fa (yy.length ≤ C') := ⟨by have := hcx; have e9 : (1 : Int).toNat = 1 := rfl; omega⟩
        have HYY := Fa.mk hyy
        have HE := Fa.mk e
        have HE0 := Fa.mk e0
        have HE1 := Fa.mk e1
        have HHX := Fa.mk hx
        clear hdr hyy e e0 e1 hx hA hyl hC' hbi hii hsz
        refine startU 8 (S := fun w' => w'.cell? ad = some (.string t.f0) ∧ w'.cell? ⟨ad.block, ad.off + 1, none⟩ = some (.int .i64 t.f1.f0) ∧ w'.cell? ⟨ad.block, ad.off + 2, none⟩ = some (.int .i64 t.f1.f1)) (ds := []) ⟨ca0, ca1, ca2⟩ (fun hHeld => ?_); refine with_tabW linear_join.tab14 linear_join.bits14 (fun HT_ HW_ => ?_)
        generalize World.drew _ = wd at SD ca0 ca1 ca2 hHeld ⊢
        refine pureU 0 (some 90) (upto 8 1) HT_ ?_
        refine pureU 1 (some 91) (upto 8 2) HT_ ?_
        refine pureU 2 (some 92) (upto 8 3) HT_ ?_
        refine pureU 4 (some 94) #[true, true, true, false, true, false, false, false] HT_ ?_
        refine pureU 5 (some 95) #[true, true, true, false, true, true, false, false] HT_ ?_
        refine takeU 3 (some 93) (upto 8 6) HT_ HW_ hHeld rfl (by rintro w' ⟨s0, s1, s2⟩; go_simp; with_reducible rfl) ?_
        refine oneU 6 (none) (upto 8 7) HT_ (fun K hK => ?_)
        have cx0 := jcell SD.out.bx (i := 0) rfl
        have cx1 := jcell SD.out.bx (i := 1) rfl
        have fx0 := blk_frozen SD.out.bx 0
        have fx1 := blk_frozen SD.out.bx 1
        refine skip_ (w1 := ?_) (by rfl) rfl ?_ ?_
        rotate_left
        ·
         go_simp
         rfl
        refine hK.out _ _ ⟨((cell_far (p := ⟨gx, _, none⟩) (by show ad.block ≠ gx; have := SD.out.lx; omega) _).trans ((cell_far (p := ⟨gx, _, none⟩) (by show ad.block ≠ gx; have := SD.out.lx; omega) _).trans ca0)), ((cell_far (p := ⟨gx, _, none⟩) (by show ad.block ≠ gx; have := SD.out.lx; omega) _).trans ((cell_far (p := ⟨gx, _, none⟩) (by show ad.block ≠ gx; have := SD.out.lx; omega) _).trans ca1)), ((cell_far (p := ⟨gx, _, none⟩) (by show ad.block ≠ gx; have := SD.out.lx; omega) _).trans ((cell_far (p := ⟨gx, _, none⟩) (by show ad.block ≠ gx; have := SD.out.lx; omega) _).trans ca2))⟩ (fun hHeld => ?_)
        clear hK K
        refine pureU 7 (some 11) (upto 8 8) HT_ ?_
        refine done_ (done_of HT_.out (by kernel_rfl)) ?_
        (try go_wp2)
        go_meet
        case rel => rw [HE.out, HE0.out, HE1.out, ← HYY.out]; exact ⟨_, _, rfl, HDR, HCC, ⟨(SD.out.setx 0 _ rfl).setx 1 _ rfl⟩⟩
      case rest =>
       clear S5 hbi
       obtain ⟨A1', C1', rfl, HX', HCX', S6⟩ := hcut
       go_upto_region 15 with (fail)
       go_cut [106] (fun v106 wc => v106 = .bool (jis nm ys) ∧ Fa (JX w gr gc go gx gy #[.int .i64 p, .int .i64 q] n1 n2 ov out #[.int .i64 (jc0 nm xs), .int .i64 (jc1 nm xs)] #[.int .i64 0, .int .i64 1] wc))
       case first =>
        by_cases hx0 : ys.length = 0
        ·
         obtain rfl := List.length_eq_zero_iff.mp hx0
         have dlx0 : decide (0 < (([] : List S47).length : Int)) = false := rfl
         have dlx1 : decide (0 < ([] : List S47).length) = false := rfl
         go_wp2
         go_meet
         case rel => exact ⟨rfl, S6⟩
        obtain ⟨t, ts, hx⟩ := List.exists_cons_of_length_pos (Nat.pos_of_ne_zero hx0)
        obtain ⟨ad, rfl, ca0, _, _, _⟩ := jat hx HY.out S6.out.s.hb
        have dlys0 : decide (0 < (ys.length : Int)) = true := decide_eq_true (by omega)
        have dlys1 : decide (0 < ys.length) = true := decide_eq_true (by omega)
        have dlys2 : ((ys.length : Int) == 0) = false := beq_eq_false_iff_ne.mpr (by omega)
        have dlys3 : (0 < ys.length) = True := eq_true (by omega)
        go_wp2
        go_meet
        case rel => exact ⟨by rw [hx]; rfl, S6⟩
       case rest =>
        clear S6
        obtain ⟨rfl, S7⟩ := hcut
        obtain ⟨bi, hbi⟩ : ∃ b, jis nm ys = b := ⟨_, rfl⟩
        rw [hbi]
        go_upto_if 106 with (fail)
        go_cut [12] (fun v12 wc => ∃ (A : Option Addr) (C : Nat), v12 = .slice A (jrest nm ys).length C ∧ Fa (Kd.C k47 w A (jrest nm ys).length (jrest nm ys)) ∧ Fa ((jrest nm ys).length ≤ C) ∧ Fa (JX w gr gc go gx gy #[.int .i64 p, .int .i64 q] n1 n2 ov out #[.int .i64 (jc0 nm xs), .int .i64 (jc1 nm xs)] #[.int .i64 (jc0 nm ys), .int .i64 (jc1 nm ys)] wc))
        case first =>
         cases bi with
         | false =>
          have e := show jrest nm ys = ys from if_neg (by rw [hbi]; decide)
          go_wp2
          go_meet
          case rel => rw [e, jc0_f hbi, jc1_f hbi]; exact ⟨_, _, rfl, HY, ⟨hcy⟩, S7⟩
         | true =>
          obtain ⟨t, ts, hx⟩ := jis_t hbi
          have SD := Fa.mk S7.out.drew
          clear S7
          obtain ⟨ad, rfl, ca0, ca1, ca2, had⟩ := jat hx HY.out SD.out.s.hb
          have hl0 : 0 < ys.length := by rw [hx]; simp
          go_wp2
          have dlys0 : decide (0 < (ys.length : Int)) = true := decide_eq_true (by omega)
          have dlys1 : decide (0 < ys.length) = true := decide_eq_true (by omega)
          have dlys2 : ((ys.length : Int) == 0) = false := beq_eq_false_iff_ne.mpr (by omega)
          have dlys3 : (0 < ys.length) = True := eq_true (by omega)
          have e := show jrest nm ys = ys.drop 1 from if_pos hbi
          have e0 : jc0 nm ys = t.f1.f0 := by rw [hx] at hbi ⊢; exact if_pos hbi
          have e1 : jc1 nm ys = t.f1.f1 := by rw [hx] at hbi ⊢; exact if_pos hbi
          obtain ⟨ii, hii, _, hsz, _⟩ := info_parts info47
          have hcu := cut_from (P := Tryz.prog) 24 47 .i64 Tryz.underlying24 hii 3 hsz (some ad) ys.length C2 1 (by omega) (by omega)
          have hdr := Kd.C_drop (m := (1 : Int).toNat) (c := C2) HY.out (by omega) hcy
          obtain ⟨yy, hyy⟩ : ∃ y : List S47, y = ys.drop 1 := ⟨_, rfl⟩
          obtain ⟨C', hC'⟩ : ∃ c : Nat, c = C2 - (1 : Int).toNat := ⟨_, rfl⟩
          have hyl : yy.length = ys.length - (1 : Int).toNat := by rw [hyy, List.length_drop]; rfl
          rw [← hyl, ← hC'] at hcu
          have q1 : ((1 : Int) ≤ (ys.length : Int)) = True := eq_true (by omega)
          generalize hA : (if C2 = (1 : Int).toNat then (some ad) else ((some ad) : Option Addr).map (·.add ((1 : Int).toNat * 3))) = A' at hcu
          replace hdr : Kd.C k47 w A' yy.length yy := by rw [← hA, hyy]; exact hdr
          have HDR := Fa.mk hdr
          have HCC : Fa (yy.length ≤ C') := ⟨by have := hcy; have e9 : (1 : Int).toNat = 1 := rfl; omega⟩
          have HYY := Fa.mk hyy
          have HE := Fa.mk e
          have HE0 := Fa.mk e0
          have HE1 := Fa.mk e1
          have HHX := Fa.mk hx
          clear hdr hyy e e0 e1 hx hA hyl hC' hbi hii hsz
          refine startU 8 (S := fun w' => w'.cell? ad = some (.string t.f0) ∧ w'.cell? ⟨ad.block, ad.off + 1, none⟩ = some (.int .i64 t.f1.f0) ∧ w'.cell? ⟨ad.block, ad.off + 2, none⟩ = some (.int .i64 t.f1.f1)) (ds := []) ⟨ca0, ca1, ca2⟩ (fun hHeld => ?_); refine with_tabW linear_join.tab16 linear_join.bits16 (fun HT_ HW_ => ?_)
          generalize World.drew _ = wd at SD ca0 ca1 ca2 hHeld ⊢
          refine pureU 0 (some 107) (upto 8 1) HT_ ?_
          refine pureU 1 (some 108) (upto 8 2) HT_ ?_
          refine pureU 2 (some 109) (upto 8 3) HT_ ?_
          refine pureU 4 (some 111) #[true, true, true, false, true, false, false, false] HT_ ?_
          refine pureU 5 (some 112) #[true, true, true, false, true, true, false, false] HT_ ?_
          refine takeU 3 (some 110) (upto 8 6) HT_ HW_ hHeld rfl (by rintro w' ⟨s0, s1, s2⟩; go_simp; with_reducible rfl) ?_
          refine oneU 6 (none) (upto 8 7) HT_ (fun K hK => ?_)
          have cx0 := jcell SD.out.bz (i := 0) rfl
          have cx1 := jcell SD.out.bz (i := 1) rfl
          have fx0 := blk_frozen SD.out.bz 0
          have fx1 := blk_frozen SD.out.bz 1
          refine skip_ (w1 := ?_) (by rfl) rfl ?_ ?_
          rotate_left
          ·
           go_simp
           rfl
          refine hK.out _ _ ⟨((cell_far (p := ⟨gy, _, none⟩) (by show ad.block ≠ gy; have := SD.out.ly; omega) _).trans ((cell_far (p := ⟨gy, _, none⟩) (by show ad.block ≠ gy; have := SD.out.ly; omega) _).trans ca0)), ((cell_far (p := ⟨gy, _, none⟩) (by show ad.block ≠ gy; have := SD.out.ly; omega) _).trans ((cell_far (p := ⟨gy, _, none⟩) (by show ad.block ≠ gy; have := SD.out.ly; omega) _).trans ca1)), ((cell_far (p := ⟨gy, _, none⟩) (by show ad.block ≠ gy; have := SD.out.ly; omega) _).trans ((cell_far (p := ⟨gy, _, none⟩) (by show ad.block ≠ gy; have := SD.out.ly; omega) _).trans ca2))⟩ (fun hHeld => ?_)
          clear hK K
          refine pureU 7 (some 12) (upto 8 8) HT_ ?_
          refine done_ (done_of HT_.out (by kernel_rfl)) ?_
          (try go_wp2)
          go_meet
          case rel => rw [HE.out, HE0.out, HE1.out, ← HYY.out]; exact ⟨_, _, rfl, HDR, HCC, ⟨(SD.out.setz 0 _ rfl).setz 1 _ rfl⟩⟩
        case rest =>
         clear S7 hbi
         obtain ⟨A2', C2', rfl, HY', HCY', S8⟩ := hcut
         have cx0 := jcell S8.out.bx (i := 0) rfl
         have cx1 := jcell S8.out.bx (i := 1) rfl
         have cy0 := jcell S8.out.bz (i := 0) rfl
         have cy1 := jcell S8.out.bz (i := 1) rfl
         have hJ := HJ.out
         clear HJ
         by_cases hm3 : m3 = 0
         rotate_left
         ·
          rw [if_neg hm3] at hJ
          obtain rfl := (Option.some.inj hJ).symm
          have hF := HF.out
          unfold jend at hF
          rw [if_neg hm3] at hF
          simp only [Prod.mk.injEq] at hF
          obtain ⟨rfl, rfl, rfl, rfl⟩ := hF
          have d0 : (m3 != 0) = true := bne_iff_ne.mpr hm3
          have d1 : (m3 == 0) = false := beq_eq_false_iff_ne.mpr hm3
          clear hm3 HF hJ
          go_wp2_with (first | (go_at_call 56; (with_reducible refine (num_Near.calls k a0 (jc0 nm xs) (jc1 nm xs) (jc0 nm ys) (jc1 nm ys) m1 m2 m3 _ HM.out).mono ?_); rintro e w9 ⟨rfl, hb⟩; have S9 := Fa.mk (S8.out.call hb).s; clear hb S8 cx0 cx1 cy0 cy1; have SZ := Fa.mk ((S9.out.setc 0 (.int .i64 m1) rfl).setc 1 (.int .i64 m2) rfl); have cc0 := jcell S9.out.bc (i := 0) rfl; have cc1 := jcell S9.out.bc (i := 1) rfl; have fc0 := blk_frozen S9.out.bc 0; have fc1 := blk_frozen S9.out.bc 1; have cr0 := jcell S9.out.br (i := 0) rfl; have cr1 := jcell S9.out.br (i := 1) rfl; have cr2 := jcell S9.out.br (i := 2) rfl; have fr0 := blk_frozen S9.out.br 0; have fr1 := blk_frozen S9.out.br 1; have fr2 := blk_frozen S9.out.br 2; have co2 := jcell S9.out.bo (i := 2) rfl; have fo2 := blk_frozen S9.out.bo 2; have hn1 := blk_ne S9.out.br S9.out.bc (by decide); have hn2 := hn1.symm; have hn3 := blk_ne S9.out.bo S9.out.bc (by decide); have hn4 := hn3.symm))
          refine bodyPost_ret (results_ct rfl _ _ gr 26 #[.int .i64 0, .int .i64 0, .slice none 0 0] (0, 0) _ rfl (SZ.out.outs (.int .i64 0) (.int .i64 0) (.slice none 0 0)).1 Tryz.underlying26 rfl (by kernel_rfl)) rfl ?_
          exact ⟨_, rfl, Kd.R_nil _ _ _ _ _, (SZ.out.outs _ _ _).2.1⟩
         subst hm3
         rw [if_pos rfl] at hJ
         by_cases hm1 : m1 = 0
         ·
          subst hm1
          rw [if_pos rfl] at hJ
          have HJ2 := Fa.mk hJ
          clear hJ
          have d0 : ((0 : Int) != 0) = false := rfl
          go_wp2_with (first | (go_at_call 56; (with_reducible refine (num_Near.calls k a0 (jc0 nm xs) (jc1 nm xs) (jc0 nm ys) (jc1 nm ys) 0 m2 0 _ HM.out).mono ?_); rintro e w9 ⟨rfl, hb⟩; have S9 := Fa.mk (S8.out.call hb).s; clear hb S8 cx0 cx1 cy0 cy1; have SZ := Fa.mk ((S9.out.setc 0 (.int .i64 0) rfl).setc 1 (.int .i64 m2) rfl); have cc0 := jcell S9.out.bc (i := 0) rfl; have cc1 := jcell S9.out.bc (i := 1) rfl; have fc0 := blk_frozen S9.out.bc 0; have fc1 := blk_frozen S9.out.bc 1; have cr0 := jcell S9.out.br (i := 0) rfl; have cr1 := jcell S9.out.br (i := 1) rfl; have cr2 := jcell S9.out.br (i := 2) rfl; have fr0 := blk_frozen S9.out.br 0; have fr1 := blk_frozen S9.out.br 1; have fr2 := blk_frozen S9.out.br 2; have co2 := jcell S9.out.bo (i := 2) rfl; have fo2 := blk_frozen S9.out.bo 2; have hn1 := blk_ne S9.out.br S9.out.bc (by decide); have hn2 := hn1.symm; have hn3 := blk_ne S9.out.bo S9.out.bc (by decide); have hn4 := hn3.symm))
          go_roundw
          case rel => exact ⟨n, A1', C1', _, A2', C2', _, ov, out, 0, m2, rfl, rfl, HX', HCX'.out, HY', HCY'.out, by have := HLT.out; omega, by have := HLT.out; omega, HJ2, SZ⟩
          case measure => have := HLT.out; simp only [jlen]; omega
         rw [if_neg hm1] at hJ
         obtain ⟨yo, hyo⟩ : ∃ y : List S47, y = out ++ [(⟨nm, (⟨m1, m2⟩ : S23)⟩ : S47)] := ⟨_, rfl⟩
         rw [← hyo] at hJ
         have HYO := Fa.mk hyo
         have HJ2 := Fa.mk hJ
         clear hJ hyo
         have d0 : (m1 != 0) = true := bne_iff_ne.mpr hm1
         have d1 : (m1 == 0) = false := beq_eq_false_iff_ne.mpr hm1
         clear hm1
         go_wp2_with (first | (go_at_call 56; (with_reducible refine (num_Near.calls k a0 (jc0 nm xs) (jc1 nm xs) (jc0 nm ys) (jc1 nm ys) m1 m2 0 _ HM.out).mono ?_); rintro e w9 ⟨rfl, hb⟩; have S9 := Fa.mk (S8.out.call hb).s; clear hb S8 cx0 cx1 cy0 cy1; have SZ := Fa.mk ((S9.out.setc 0 (.int .i64 m1) rfl).setc 1 (.int .i64 m2) rfl); have cc0 := jcell S9.out.bc (i := 0) rfl; have cc1 := jcell S9.out.bc (i := 1) rfl; have fc0 := blk_frozen S9.out.bc 0; have fc1 := blk_frozen S9.out.bc 1; have cr0 := jcell S9.out.br (i := 0) rfl; have cr1 := jcell S9.out.br (i := 1) rfl; have cr2 := jcell S9.out.br (i := 2) rfl; have fr0 := blk_frozen S9.out.br 0; have fr1 := blk_frozen S9.out.br 1; have fr2 := blk_frozen S9.out.br 2; have co2 := jcell S9.out.bo (i := 2) rfl; have fo2 := blk_frozen S9.out.bo 2; have hn1 := blk_ne S9.out.br S9.out.bc (by decide); have hn2 := hn1.symm; have hn3 := blk_ne S9.out.bo S9.out.bc (by decide); have hn4 := hn3.symm) | ((with_reducible refine gate_builtin (b := .append) (xs := #[.tmp 128, .tmp 132]) rfl ?_); (try (refine gate_guard (by rfl) ?_; dsimp only)); at_builtin; refine Kd.R_append k47 (w0 := w) w.heap.size rfl (.tmp 128) (.tmp 132) 24 47 (.agg #[(.string ⟨#[]⟩), (.int .i64 0), (.int .i64 0)]) 32 rfl Tryz.underlying24 info47 rfl (by decide) (by omega) ov out (⟨nm, (⟨m1, m2⟩ : S23)⟩ : S47) [.string nm, .int .i64 m1, .int .i64 m2] (fun _ => True) (fun _ => False) rfl (by first | (go_simp; done) | (go_simp; rfl)) ?aP (fun _ hk => hk.elim) ?aF ?aO ?aB ?aS ?aL ?_; (case aP => exact k47_mkM _ _ _ (⟨nm, (⟨m1, m2⟩ : S23)⟩ : S47)); (case aB => exact SZ.out.hb); (case aF => exact fun _ _ => trivial); (case aO => exact SZ.out.ro); (case aS => exact SZ.out.hb.size); (case aL => have := HBG.out; omega); intro vo wo ho hb hg hat; rw [← HYO.out] at ho; have bo1 := blk_grown SZ.out.bo hg (Kd.R_ne SZ.out.ro SZ.out.bo (by decide)); have SA := Fa.mk (SZ.out.app ho hb hg); obtain ⟨Ao, co, hvo⟩ := Kd.R_slice ho; subst hvo; clear cc0 cc1 fc0 fc1 cr0 cr1 cr2 fr0 fr1 fr2 co2 fo2 hn1 hn2 hn3 hn4; have co2 := jcell bo1 (i := 2) rfl; have fo2 := blk_frozen bo1 2; clear ho hb hg hat bo1))
         go_roundw
         case rel => exact ⟨n, A1', C1', _, A2', C2', _, _, _, m1, m2, rfl, rfl, HX', HCX'.out, HY', HCY'.out, by have := HLT.out; omega, by have := HLT.out; rw [HYO.out]; simp only [List.length_append, List.length_cons, List.length_nil]; omega, HJ2, SA⟩
         case measure => have := HLT.out; simp only [jlen]; omega
  ·
   have dw : decide (0 < (wrap64 ((xs.length : Int) + (ys.length : Int)))) = false := decide_eq_false (by unfold wrap64; omega)
   have hres : res = (out, 0) := by
    have hJ := HJ.out
    cases n with
    | zero => unfold jgo at hJ; exact (Option.some.inj hJ).symm
    | succ n => unfold jgo at hJ; rw [if_pos hz] at hJ; exact (Option.some.inj hJ).symm
   subst hres
   clear HJ
   have hF := HF.out
   unfold jend at hF
   rw [if_pos rfl] at hF
   dsimp only at hF
   clear HF
   obtain ⟨Ao, co, hvo⟩ := Kd.R_slice S.out.ro
   subst hvo
   have co0 := jcell S.out.bo (i := 0) rfl
   have co1 := jcell S.out.bo (i := 1) rfl
   have co2 := jcell S.out.bo (i := 2) rfl
   have cr0 := jcell S.out.br (i := 0) rfl
   have cr1 := jcell S.out.br (i := 1) rfl
   have cr2 := jcell S.out.br (i := 2) rfl
   have fr0 := blk_frozen S.out.br 0
   have fr1 := blk_frozen S.out.br 1
   have fr2 := blk_frozen S.out.br 2
   have hn1 := S.out.nro
   have hn2 := hn1.symm
   by_cases h60 : (out.length : Int) > 60
   ·
    rw [if_pos h60] at hF
    simp only [Prod.mk.injEq] at hF
    obtain ⟨rfl, rfl, rfl, rfl⟩ := hF
    have d0 : decide (60 < (out.length : Int)) = true := decide_eq_true (by omega)
    have d1 : decide (60 < out.length) = true := decide_eq_true (by omega)
    go_wp2
    refine bodyPost_ret (results_ct rfl _ _ gr 26 #[.int .i64 0, .int .i64 0, .slice none 0 0] (0, 0) _ rfl (S.out.outs (.int .i64 0) (.int .i64 0) (.slice none 0 0)).1 Tryz.underlying26 rfl (by kernel_rfl)) rfl ?_
    exact ⟨_, rfl, Kd.R_nil _ _ _ _ _, (S.out.outs _ _ _).2.1⟩
   ·
    rw [if_neg h60] at hF
    simp only [Prod.mk.injEq] at hF
    obtain ⟨rfl, rfl, rfl, rfl⟩ := hF
    have d0 : decide (60 < (out.length : Int)) = false := decide_eq_false (by omega)
    have d1 : decide (60 < out.length) = false := decide_eq_false (by omega)
    go_wp2
    refine bodyPost_ret (results_ct rfl _ _ gr 26 #[.int .i64 n1, .int .i64 n2, .slice Ao out.length co] (0, 0) _ rfl (S.out.outs (.int .i64 n1) (.int .i64 n2) (.slice Ao out.length co)).1 Tryz.underlying26 rfl (by kernel_rfl)) rfl ?_
    exact ⟨_, rfl, (S.out.outs _ _ _).2.2, (S.out.outs _ _ _).2.1⟩
def linear_Add.f (k : Nat) (a0_0 : Int) (a0_1 : Int) (l0_2 : List (S47)) (a1_0 : Int) (a1_1 : Int) (l1_2 : List (S47)) : Option (Int × Int × (List (S47)) × Int) := (linear_join.f k (⟨#[43]⟩ : ByteArray) a0_0 a0_1 l0_2 a1_0 a1_1 l1_2).bind fun bt171 => (some (bt171.1, bt171.2.1, bt171.2.2.1, bt171.2.2.2))
theorem linear_Add.mono : ∀ a0 a1 a2 a3 a4 a5 k, LeO (linear_Add.f k a0 a1 a2 a3 a4 a5) (linear_Add.f (k + 1) a0 a1 a2 a3 a4 a5) := by
  intro a0 a1 a2 a3 a4 a5 k
  unfold linear_Add.f
  repeat' first
      | (with_reducible exact linear_join.mono _ _ _ _ _ _ _ _)
      | (with_reducible exact LeO.refl _)
      | (with_reducible exact LeO.none _)
      | (with_reducible refine LeO.ite ?_ ?_)
      | (with_reducible refine LeO.bind ?_ (fun _ => ?_))
      | exact linear_join.mono _ _ _ _ _ _ _ _
      | exact LeO.none _
      | refine LeO.ite ?_ ?_
      | refine LeO.bind ?_ (fun _ => ?_)
set_option maxHeartbeats 8000000 in
set_option maxRecDepth 100000 in
theorem linear_Add.calls (k : Nat) (a0_0 : Int) (a0_1 : Int) (A0_2 : Option Addr) (c0_2 : Nat) (l0_2 : List (S47)) (a1_0 : Int) (a1_1 : Int) (A1_2 : Option Addr) (c1_2 : Nat) (l1_2 : List (S47)) (r1 : Int) (r2 : Int) (r3 : List (S47)) (r4 : Int) (w : World) (hr0_2 : Kd.C k47 w A0_2 l0_2.length l0_2) (hc0_2 : l0_2.length ≤ c0_2) (hr1_2 : Kd.C k47 w A1_2 l1_2.length l1_2) (hc1_2 : l1_2.length ≤ c1_2) (h : linear_Add.f k a0_0 a0_1 l0_2 a1_0 a1_1 l1_2 = some (r1, r2, r3, r4)) (hG : Glob w) :
  Calls Tryz.prog 13 #[.agg #[.int .i64 a0_0, .int .i64 a0_1, .slice A0_2 l0_2.length c0_2], .agg #[.int .i64 a1_0, .int .i64 a1_1, .slice A1_2 l1_2.length c1_2]] w fun e w' => ∃ v2_ : Value, e = .returned (.tuple #[.agg #[.int .i64 r1, .int .i64 r2, v2_], .int .i64 r4]) ∧ Kd.R k47 47 w' w.heap.size (fun _ => True) v2_ r3 ∧ Below w.heap.size w w' := by
 have HG := Fa.mk hG
 clear hG
 have hu26 := Tryz.underlying26
 have HR0_2 := Fa.mk hr0_2
 have HC0_2 := Fa.mk hc0_2
 clear hr0_2 hc0_2
 have HR1_2 := Fa.mk hr1_2
 have HC1_2 := Fa.mk hc1_2
 clear hr1_2 hc1_2
 have HB := Fa.mk (Below.refl w.heap.size w)
 have H : ((linear_join.f k (⟨#[43]⟩ : ByteArray) a0_0 a0_1 l0_2 a1_0 a1_1 l1_2).bind fun bt171 => (some (bt171.1, bt171.2.1, bt171.2.2.1, bt171.2.2.2))) = some (r1, r2, r3, r4) := h
 clear h
 replace H := Option.bind_eq_some_iff.mp H
 obtain ⟨⟨t171, t172, t173, t176⟩, A30, H⟩ := H
 (try dsimp only at H)
 have A3 := Fa.mk A30
 clear A30
 simp only [Option.some.injEq, Prod.mk.injEq] at H
 obtain ⟨rfl, rfl, rfl, rfl⟩ := H
 go_enter Tryz.func13, Tryz.ntmps13
 go_wp2_with (first | ((with_reducible refine gate_dst (N := 2) rfl ?_); refine boxF (N := 2) (cs := #[.int .i64 a0_0, .int .i64 a0_1, .slice A0_2 l0_2.length c0_2]) (t := 26) ?_; intro gb168 hg w4 hbox hb; have hS := Stp.mk hb; have BK168 := Fa.mk (hbox); have GW168 := Fa.mk (gle hg : w.heap.size ≤ gb168); have GE168 := GW168; clear hb hbox hg) | ((with_reducible refine gate_dst (N := 3) rfl ?_); refine boxF (N := 3) (cs := #[.int .i64 a1_0, .int .i64 a1_1, .slice A1_2 l1_2.length c1_2]) (t := 26) ?_; intro gb169 hg w5 hbox hb; have hS := Stp.mk hb; have BK169 := Fa.mk (hbox); have GW169 := Fa.mk (gle hg : w.heap.size ≤ gb169); have GE169 := GW169; have NB168_169 := Fa.mk (gne (o := .cells #[.int .i64 a0_0, .int .i64 a0_1, .slice A0_2 l0_2.length c0_2] 26 (0, 0)) hg : gb168 ≠ gb169); have NB169_168 := Fa.mk NB168_169.out.symm; clear hb hbox hg) | ((with_reducible refine gate_dst (N := 4) rfl ?_); refine boxF (N := 4) (cs := #[.int .i64 0, .int .i64 0, .slice none 0 0]) (t := 26) ?_; intro gb170 hg w6 hbox hb; have hS := Stp.mk hb; have BK168 := (⟨fa⟩ : Fa (w6.heap[gb168]? = some (.cells #[.int .i64 a0_0, .int .i64 a0_1, .slice A0_2 l0_2.length c0_2] 26 (0, 0)))); have BK169 := (⟨fa⟩ : Fa (w6.heap[gb169]? = some (.cells #[.int .i64 a1_0, .int .i64 a1_1, .slice A1_2 l1_2.length c1_2] 26 (0, 0)))); have BK170 := Fa.mk (hbox); have GW170 := Fa.mk (gle hg : w.heap.size ≤ gb170); have GE170 := GW170; have NB168_170 := Fa.mk (gne (o := .cells #[.int .i64 a0_0, .int .i64 a0_1, .slice A0_2 l0_2.length c0_2] 26 (0, 0)) hg : gb168 ≠ gb170); have NB170_168 := Fa.mk NB168_170.out.symm; have NB169_170 := Fa.mk (gne (o := .cells #[.int .i64 a1_0, .int .i64 a1_1, .slice A1_2 l1_2.length c1_2] 26 (0, 0)) hg : gb169 ≠ gb170); have NB170_169 := Fa.mk NB169_170.out.symm; clear hb hbox hg; have hnb7 := NB168_169.out; have hnc7 := NB169_168.out; have hnb8 := NB168_170.out; have hnc8 := NB170_168.out; have hcz9_0 := jcell BK168.out (i := 0) rfl; have hcz9_1 := jcell BK168.out (i := 1) rfl; have hcz9_2 := jcell BK168.out (i := 2) rfl; have hfz9_0 := blk_frozen BK168.out 0; have hfz9_1 := blk_frozen BK168.out 1; have hfz9_2 := blk_frozen BK168.out 2; have hnb10 := NB169_170.out; have hnc10 := NB170_169.out; have hcz11_0 := jcell BK169.out (i := 0) rfl; have hcz11_1 := jcell BK169.out (i := 1) rfl; have hcz11_2 := jcell BK169.out (i := 2) rfl; have hfz11_0 := blk_frozen BK169.out 0; have hfz11_1 := blk_frozen BK169.out 1; have hfz11_2 := blk_frozen BK169.out 2) | ((with_reducible refine gate_callee (f := 42) rfl ?_); refine goesA (some 8) rfl rfl Tryz.func42 (by kernel_rfl) rfl #[.string (⟨#[43]⟩ : ByteArray), .agg #[.int .i64 a0_0, .int .i64 a0_1, .slice A0_2 l0_2.length c0_2], .agg #[.int .i64 a1_0, .int .i64 a1_1, .slice A1_2 l1_2.length c1_2]] rfl ?_; (with_reducible refine (linear_join.calls k (⟨#[43]⟩ : ByteArray) a0_0 a0_1 _ _ l0_2 a1_0 a1_1 _ _ l1_2 t171 t172 t173 t176 _ ?side1 ?side2 ?side3 ?side4 A3.out (HG.out.below fa)).mono ?_); (case side1 => repeat (first | exact (Kd.C_below HR0_2.out fa) | (with_reducible refine Kd.C_alloc ?_ _) | (with_reducible refine Kd.C_drewN ?_ _) | (with_reducible refine Kd.C_drew ?_))); (case side2 => exact HC0_2.out); (case side3 => repeat (first | exact (Kd.C_below HR1_2.out fa) | (with_reducible refine Kd.C_alloc ?_ _) | (with_reducible refine Kd.C_drewN ?_ _) | (with_reducible refine Kd.C_drew ?_))); (case side4 => exact HC1_2.out); rintro e w12 ⟨v174, rfl, ho0, hb⟩; refine ⟨_, rfl, ?_⟩; have n0_ := Fa.mk (Kd.R_lower ho0 (bsz w)); have n1_ := Fa.mk (blk_below (g := gb168) (o := .cells #[.int .i64 a0_0, .int .i64 a0_1, .slice A0_2 l0_2.length c0_2] 26 (0, 0)) fa hb); have n2_ := Fa.mk (blk_below (g := gb169) (o := .cells #[.int .i64 a1_0, .int .i64 a1_1, .slice A1_2 l1_2.length c1_2] 26 (0, 0)) fa hb); have n3_ := Fa.mk (blk_below (g := gb170) (o := .cells #[.int .i64 0, .int .i64 0, .slice none 0 0] 26 (0, 0)) fa hb); have n4_ := Fa.mk (bst w hb); clear BK168; clear BK169; clear BK170; clear HB; have HO175 := n0_; have BK168 := n1_; have BK169 := n2_; have BK170 := n3_; have HB := n4_; clear n0_ n1_ n2_ n3_ n4_; (try clear hb); (try clear hb2); (try clear hk); (try clear hi); (try clear ho0); have hcz13_0 := jcell BK170.out (i := 0) rfl; have hcz13_1 := jcell BK170.out (i := 1) rfl; have hcz13_2 := jcell BK170.out (i := 2) rfl; have hfz13_0 := blk_frozen BK170.out 0; have hfz13_1 := blk_frozen BK170.out 1; have hfz13_2 := blk_frozen BK170.out 2; obtain ⟨Ao14, co14, eo14⟩ := Kd.R_slice HO175.out; subst eo14))
 refine bodyPost_ret (results_ct rfl _ _ gb170 26 #[.int .i64 t171, .int .i64 t172, .slice Ao14 t173.length co14] (0, 0) _ rfl (by (with_reducible repeat (first | refine blk_drewN ?_ _ | refine blk_drew ?_ | refine blk_alloc ?_ _)); refine blk_put (cs := #[.int .i64 t171, .int .i64 t172, .slice none 0 0]) ?_ 2 _ rfl; (with_reducible repeat (first | refine blk_drewN ?_ _ | refine blk_drew ?_ | refine blk_alloc ?_ _)); refine blk_put (cs := #[.int .i64 t171, .int .i64 0, .slice none 0 0]) ?_ 1 _ rfl; (with_reducible repeat (first | refine blk_drewN ?_ _ | refine blk_drew ?_ | refine blk_alloc ?_ _)); refine blk_put (cs := #[.int .i64 0, .int .i64 0, .slice none 0 0]) ?_ 0 _ rfl; (with_reducible repeat (first | refine blk_drewN ?_ _ | refine blk_drew ?_ | refine blk_alloc ?_ _)); exact fa) Tryz.underlying26 rfl (by kernel_rfl)) rfl ?_
 exact ⟨_, rfl, by (with_reducible repeat (first | apply Kd.R_alloc | apply Kd.R_drewN | apply Kd.R_drew)); exact Kd.R_mono (Kd.R_far (p := ⟨gb170, 2, none⟩) (Kd.R_far (p := ⟨gb170, 1, none⟩) (Kd.R_far (p := ⟨gb170, 0, none⟩) (Kd.R_types HO175.out BK170.out (by decide)) (fun _ hk => hk.2) (.int .i64 t171)) (fun _ hk => hk.2) (.int .i64 t172)) (fun _ hk => hk.2) (.slice Ao14 t173.length co14)) (fun _ hk => trivial), fa⟩
def linear_Sub.f (k : Nat) (a0_0 : Int) (a0_1 : Int) (l0_2 : List (S47)) (a1_0 : Int) (a1_1 : Int) (l1_2 : List (S47)) : Option (Int × Int × (List (S47)) × Int) := (linear_join.f k (⟨#[45]⟩ : ByteArray) a0_0 a0_1 l0_2 a1_0 a1_1 l1_2).bind fun bt180 => (some (bt180.1, bt180.2.1, bt180.2.2.1, bt180.2.2.2))
theorem linear_Sub.mono : ∀ a0 a1 a2 a3 a4 a5 k, LeO (linear_Sub.f k a0 a1 a2 a3 a4 a5) (linear_Sub.f (k + 1) a0 a1 a2 a3 a4 a5) := by
  intro a0 a1 a2 a3 a4 a5 k
  unfold linear_Sub.f
  repeat' first
      | (with_reducible exact linear_join.mono _ _ _ _ _ _ _ _)
      | (with_reducible exact LeO.refl _)
      | (with_reducible exact LeO.none _)
      | (with_reducible refine LeO.ite ?_ ?_)
      | (with_reducible refine LeO.bind ?_ (fun _ => ?_))
      | exact linear_join.mono _ _ _ _ _ _ _ _
      | exact LeO.none _
      | refine LeO.ite ?_ ?_
      | refine LeO.bind ?_ (fun _ => ?_)
set_option maxHeartbeats 8000000 in
set_option maxRecDepth 100000 in
theorem linear_Sub.calls (k : Nat) (a0_0 : Int) (a0_1 : Int) (A0_2 : Option Addr) (c0_2 : Nat) (l0_2 : List (S47)) (a1_0 : Int) (a1_1 : Int) (A1_2 : Option Addr) (c1_2 : Nat) (l1_2 : List (S47)) (r1 : Int) (r2 : Int) (r3 : List (S47)) (r4 : Int) (w : World) (hr0_2 : Kd.C k47 w A0_2 l0_2.length l0_2) (hc0_2 : l0_2.length ≤ c0_2) (hr1_2 : Kd.C k47 w A1_2 l1_2.length l1_2) (hc1_2 : l1_2.length ≤ c1_2) (h : linear_Sub.f k a0_0 a0_1 l0_2 a1_0 a1_1 l1_2 = some (r1, r2, r3, r4)) (hG : Glob w) :
  Calls Tryz.prog 15 #[.agg #[.int .i64 a0_0, .int .i64 a0_1, .slice A0_2 l0_2.length c0_2], .agg #[.int .i64 a1_0, .int .i64 a1_1, .slice A1_2 l1_2.length c1_2]] w fun e w' => ∃ v2_ : Value, e = .returned (.tuple #[.agg #[.int .i64 r1, .int .i64 r2, v2_], .int .i64 r4]) ∧ Kd.R k47 47 w' w.heap.size (fun _ => True) v2_ r3 ∧ Below w.heap.size w w' := by
 have HG := Fa.mk hG
 clear hG
 have hu26 := Tryz.underlying26
 have HR0_2 := Fa.mk hr0_2
 have HC0_2 := Fa.mk hc0_2
 clear hr0_2 hc0_2
 have HR1_2 := Fa.mk hr1_2
 have HC1_2 := Fa.mk hc1_2
 clear hr1_2 hc1_2
 have HB := Fa.mk (Below.refl w.heap.size w)
 have H : ((linear_join.f k (⟨#[45]⟩ : ByteArray) a0_0 a0_1 l0_2 a1_0 a1_1 l1_2).bind fun bt180 => (some (bt180.1, bt180.2.1, bt180.2.2.1, bt180.2.2.2))) = some (r1, r2, r3, r4) := h
 clear h
 replace H := Option.bind_eq_some_iff.mp H
 obtain ⟨⟨t180, t181, t182, t185⟩, A30, H⟩ := H
 (try dsimp only at H)
 have A3 := Fa.mk A30
 clear A30
 simp only [Option.some.injEq, Prod.mk.injEq] at H
 obtain ⟨rfl, rfl, rfl, rfl⟩ := H
 go_enter Tryz.func15, Tryz.ntmps15
 go_wp2_with (first | ((with_reducible refine gate_dst (N := 2) rfl ?_); refine boxF (N := 2) (cs := #[.int .i64 a0_0, .int .i64 a0_1, .slice A0_2 l0_2.length c0_2]) (t := 26) ?_; intro gb177 hg w4 hbox hb; have hS := Stp.mk hb; have BK177 := Fa.mk (hbox); have GW177 := Fa.mk (gle hg : w.heap.size ≤ gb177); have GE177 := GW177; clear hb hbox hg) | ((with_reducible refine gate_dst (N := 3) rfl ?_); refine boxF (N := 3) (cs := #[.int .i64 a1_0, .int .i64 a1_1, .slice A1_2 l1_2.length c1_2]) (t := 26) ?_; intro gb178 hg w5 hbox hb; have hS := Stp.mk hb; have BK178 := Fa.mk (hbox); have GW178 := Fa.mk (gle hg : w.heap.size ≤ gb178); have GE178 := GW178; have NB177_178 := Fa.mk (gne (o := .cells #[.int .i64 a0_0, .int .i64 a0_1, .slice A0_2 l0_2.length c0_2] 26 (0, 0)) hg : gb177 ≠ gb178); have NB178_177 := Fa.mk NB177_178.out.symm; clear hb hbox hg) | ((with_reducible refine gate_dst (N := 4) rfl ?_); refine boxF (N := 4) (cs := #[.int .i64 0, .int .i64 0, .slice none 0 0]) (t := 26) ?_; intro gb179 hg w6 hbox hb; have hS := Stp.mk hb; have BK177 := (⟨fa⟩ : Fa (w6.heap[gb177]? = some (.cells #[.int .i64 a0_0, .int .i64 a0_1, .slice A0_2 l0_2.length c0_2] 26 (0, 0)))); have BK178 := (⟨fa⟩ : Fa (w6.heap[gb178]? = some (.cells #[.int .i64 a1_0, .int .i64 a1_1, .slice A1_2 l1_2.length c1_2] 26 (0, 0)))); have BK179 := Fa.mk (hbox); have GW179 := Fa.mk (gle hg : w.heap.size ≤ gb179); have GE179 := GW179; have NB177_179 := Fa.mk (gne (o := .cells #[.int .i64 a0_0, .int .i64 a0_1, .slice A0_2 l0_2.length c0_2] 26 (0, 0)) hg : gb177 ≠ gb179); have NB179_177 := Fa.mk NB177_179.out.symm; have NB178_179 := Fa.mk (gne (o := .cells #[.int .i64 a1_0, .int .i64 a1_1, .slice A1_2 l1_2.length c1_2] 26 (0, 0)) hg : gb178 ≠ gb179); have NB179_178 := Fa.mk NB178_179.out.symm; clear hb hbox hg; have hnb7 := NB177_178.out; have hnc7 := NB178_177.out; have hnb8 := NB177_179.out; have hnc8 := NB179_177.out; have hcz9_0 := jcell BK177.out (i := 0) rfl; have hcz9_1 := jcell BK177.out (i := 1) rfl; have hcz9_2 := jcell BK177.out (i := 2) rfl; have hfz9_0 := blk_frozen BK177.out 0; have hfz9_1 := blk_frozen BK177.out 1; have hfz9_2 := blk_frozen BK177.out 2; have hnb10 := NB178_179.out; have hnc10 := NB179_178.out; have hcz11_0 := jcell BK178.out (i := 0) rfl; have hcz11_1 := jcell BK178.out (i := 1) rfl; have hcz11_2 := jcell BK178.out (i := 2) rfl; have hfz11_0 := blk_frozen BK178.out 0; have hfz11_1 := blk_frozen BK178.out 1; have hfz11_2 := blk_frozen BK178.out 2) | ((with_reducible refine gate_callee (f := 42) rfl ?_); refine goesA (some 8) rfl rfl Tryz.func42 (by kernel_rfl) rfl #[.string (⟨#[45]⟩ : ByteArray), .agg #[.int .i64 a0_0, .int .i64 a0_1, .slice A0_2 l0_2.length c0_2], .agg #[.int .i64 a1_0, .int .i64 a1_1, .slice A1_2 l1_2.length c1_2]] rfl ?_; (with_reducible refine (linear_join.calls k (⟨#[45]⟩ : ByteArray) a0_0 a0_1 _ _ l0_2 a1_0 a1_1 _ _ l1_2 t180 t181 t182 t185 _ ?side1 ?side2 ?side3 ?side4 A3.out (HG.out.below fa)).mono ?_); (case side1 => repeat (first | exact (Kd.C_below HR0_2.out fa) | (with_reducible refine Kd.C_alloc ?_ _) | (with_reducible refine Kd.C_drewN ?_ _) | (with_reducible refine Kd.C_drew ?_))); (case side2 => exact HC0_2.out); (case side3 => repeat (first | exact (Kd.C_below HR1_2.out fa) | (with_reducible refine Kd.C_alloc ?_ _) | (with_reducible refine Kd.C_drewN ?_ _) | (with_reducible refine Kd.C_drew ?_))); (case side4 => exact HC1_2.out); rintro e w12 ⟨v183, rfl, ho0, hb⟩; refine ⟨_, rfl, ?_⟩; have n0_ := Fa.mk (Kd.R_lower ho0 (bsz w)); have n1_ := Fa.mk (blk_below (g := gb177) (o := .cells #[.int .i64 a0_0, .int .i64 a0_1, .slice A0_2 l0_2.length c0_2] 26 (0, 0)) fa hb); have n2_ := Fa.mk (blk_below (g := gb178) (o := .cells #[.int .i64 a1_0, .int .i64 a1_1, .slice A1_2 l1_2.length c1_2] 26 (0, 0)) fa hb); have n3_ := Fa.mk (blk_below (g := gb179) (o := .cells #[.int .i64 0, .int .i64 0, .slice none 0 0] 26 (0, 0)) fa hb); have n4_ := Fa.mk (bst w hb); clear BK177; clear BK178; clear BK179; clear HB; have HO184 := n0_; have BK177 := n1_; have BK178 := n2_; have BK179 := n3_; have HB := n4_; clear n0_ n1_ n2_ n3_ n4_; (try clear hb); (try clear hb2); (try clear hk); (try clear hi); (try clear ho0); have hcz13_0 := jcell BK179.out (i := 0) rfl; have hcz13_1 := jcell BK179.out (i := 1) rfl; have hcz13_2 := jcell BK179.out (i := 2) rfl; have hfz13_0 := blk_frozen BK179.out 0; have hfz13_1 := blk_frozen BK179.out 1; have hfz13_2 := blk_frozen BK179.out 2; obtain ⟨Ao14, co14, eo14⟩ := Kd.R_slice HO184.out; subst eo14))
 refine bodyPost_ret (results_ct rfl _ _ gb179 26 #[.int .i64 t180, .int .i64 t181, .slice Ao14 t182.length co14] (0, 0) _ rfl (by (with_reducible repeat (first | refine blk_drewN ?_ _ | refine blk_drew ?_ | refine blk_alloc ?_ _)); refine blk_put (cs := #[.int .i64 t180, .int .i64 t181, .slice none 0 0]) ?_ 2 _ rfl; (with_reducible repeat (first | refine blk_drewN ?_ _ | refine blk_drew ?_ | refine blk_alloc ?_ _)); refine blk_put (cs := #[.int .i64 t180, .int .i64 0, .slice none 0 0]) ?_ 1 _ rfl; (with_reducible repeat (first | refine blk_drewN ?_ _ | refine blk_drew ?_ | refine blk_alloc ?_ _)); refine blk_put (cs := #[.int .i64 0, .int .i64 0, .slice none 0 0]) ?_ 0 _ rfl; (with_reducible repeat (first | refine blk_drewN ?_ _ | refine blk_drew ?_ | refine blk_alloc ?_ _)); exact fa) Tryz.underlying26 rfl (by kernel_rfl)) rfl ?_
 exact ⟨_, rfl, by (with_reducible repeat (first | apply Kd.R_alloc | apply Kd.R_drewN | apply Kd.R_drew)); exact Kd.R_mono (Kd.R_far (p := ⟨gb179, 2, none⟩) (Kd.R_far (p := ⟨gb179, 1, none⟩) (Kd.R_far (p := ⟨gb179, 0, none⟩) (Kd.R_types HO184.out BK179.out (by decide)) (fun _ hk => hk.2) (.int .i64 t180)) (fun _ hk => hk.2) (.int .i64 t181)) (fun _ hk => hk.2) (.slice Ao14 t182.length co14)) (fun _ hk => trivial), fa⟩
end Go.Proofs.YtilamkcpbibnmaaGreatDoor.P
