import Derived.Test.YtilamkcpbibnmaaGreatDoorZPx0
import Derived.Test.YtilamkcpbibnmaaGreatDoorZPxEq1
import Derived.Test.YtilamkcpbibnmaaGreatDoorZPxlinearrising
import Derived.Test.YtilamkcpbibnmaaGreatDoorZPxlinearjoin
import Derived.Test.YtilamkcpbibnmaaGreatDoorZPxfleuronref08Same
import Derived.Test.YtilamkcpbibnmaaGreatDoorZPxlineareach
import Derived.Test.YtilamkcpbibnmaaGreatDoorZPxlinearOver
import Derived.Test.YtilamkcpbibnmaaGreatDoorZPxlinearText
import Derived.Test.YtilamkcpbibnmaaGreatDoorZPxlinearParse
namespace Go.Proofs.YtilamkcpbibnmaaGreatDoor.P
open Go.RowKit Go.Proofs.YtilamkcpbibnmaaGreatDoorW.PrintWords Go.Proofs.YtilamkcpbibnmaaGreatDoorW.PrintLast Go.Proofs.YtilamkcpbibnmaaGreatDoorW.PrintMore
attribute [local go_sem] max2_int min2_int max_two min_two max_three min_three max_four min_four
set_option linter.unusedVariables false
set_option linter.unusedSimpArgs false
def fleuronlaw08_number.f (a0 : Int) (a1 : Int) : Option (Int × Int) := some (a0, a1)
set_option maxHeartbeats 8000000 in
set_option maxRecDepth 100000 in
theorem fleuronlaw08_number.calls (a0 : Int) (a1 : Int) (r1 : Int) (r2 : Int) (w : World) (h : fleuronlaw08_number.f a0 a1 = some (r1, r2)) :
  Calls Tryz.prog 41 #[.int .i64 a0, .int .i64 a1] w fun e w' => e = .returned (.agg #[.int .i64 r1, .int .i64 r2]) ∧ Below w.heap.size w w' := by
 have hu23 := Tryz.underlying23
 have HB := Fa.mk (Below.refl w.heap.size w)
 have H : (some (a0, a1)) = some (r1, r2) := h
 clear h
 simp only [Option.some.injEq, Prod.mk.injEq] at H
 obtain ⟨rfl, rfl⟩ := H
 go_enter Tryz.func41, Tryz.ntmps41
 go_wp2_with (first | ((with_reducible refine gate_dst (N := 4) rfl ?_); refine boxF (N := 4) (cs := #[.int .i64 0, .int .i64 0]) (t := 23) ?_; intro gb261 hg w3 hbox hb; have n0_ := Fa.mk (bst w hb); have n1_ := Fa.mk (hbox); have n2_ := Fa.mk (gle hg : w.heap.size ≤ gb261); have n3_ := n2_; clear HB; have HB := n0_; have BK261 := n1_; have GW261 := n2_; have GE261 := n3_; clear n0_ n1_ n2_ n3_; clear hb hbox hg; have hcz4_0 := jcell BK261.out (i := 0) rfl; have hcz4_1 := jcell BK261.out (i := 1) rfl; have hfz4_0 := blk_frozen BK261.out 0; have hfz4_1 := blk_frozen BK261.out 1))
 refine bodyPost_ret (results_cell_row rfl _ _ gb261 23 #[.int .i64 a0, .int .i64 a1] (0, 0) _ rfl (by (with_reducible repeat (first | refine blk_drewN ?_ _ | refine blk_drew ?_ | refine blk_alloc ?_ _)); refine blk_put (cs := #[.int .i64 a0, .int .i64 0]) ?_ 1 _ rfl; (with_reducible repeat (first | refine blk_drewN ?_ _ | refine blk_drew ?_ | refine blk_alloc ?_ _)); refine blk_put (cs := #[.int .i64 0, .int .i64 0]) ?_ 0 _ rfl; (with_reducible repeat (first | refine blk_drewN ?_ _ | refine blk_drew ?_ | refine blk_alloc ?_ _)); exact BK261.out) Tryz.underlying23 rfl (by kernel_rfl)) rfl ?_
 exact ⟨rfl, fa⟩
def Rw (w W : World) (v : Value) (l : List S47) : Prop := Kd.R k47 47 W w.heap.size (fun _ => True) v l ∨ ∃ A c, v = .slice A l.length c ∧ l.length ≤ c ∧ Kd.C k47 w A l.length l
structure AB (w W : World) (b : Nat × Int × Int × Value × List S47) : Prop where
  blk : W.heap[b.1]? = some (.cells #[.int .i64 b.2.1, .int .i64 b.2.2.1, b.2.2.2.1] 26 (0, 0))
  row : Rw w W b.2.2.2.1 b.2.2.2.2
  low : w.heap.size ≤ b.1
def AS (w : World) (M : List (Nat × Int × Int)) (L : List (Nat × Int × Int × Value × List S47)) (W : World) : Prop := Below w.heap.size w W ∧ (∀ b ∈ L, AB w W b) ∧ ∀ b ∈ M, W.heap[b.1]? = some (.cells #[.int .i64 b.2.1, .int .i64 b.2.2] 23 (0, 0)) ∧ w.heap.size ≤ b.1
section
variable {w W W' W1 : World} {M : List (Nat × Int × Int)} {L : List (Nat × Int × Int × Value × List S47)} {g n c : Nat} {p q : Int} {A : Option Addr} {v : Value} {l : List S47} {b : Nat × Int × Int × Value × List S47}
theorem Rw.below (h : Rw w W v l) (hb : Below W.heap.size W W') : Rw w W' v l := h.imp (fun h => Kd.R_below h hb) id
theorem Rw.drew (h : Rw w W v l) : Rw w W.drew v l := h.imp (fun h => Kd.R_drew h) id
theorem Rw.put {cs : Array Value} {t : TypeId} (h : Rw w W v l) (hb : W.heap[g]? = some (.cells cs t (0, 0))) (ht : ∀ q : Nat, q ∈ 47 :: k47.E → q ≠ t) (i : Nat) (u : Value) : Rw w (W.setCell ⟨g, i, none⟩ u) v l := h.imp (fun h => R_put h hb ht i u) id
theorem Rw.rd (h : Rw w W (.slice A n c) l) (hb : Below w.heap.size w W) : n = l.length ∧ n ≤ c ∧ Kd.C k47 W A l.length l := by
  rcases h with h | ⟨A', c', e, hl, hC⟩
  · exact Kd.R_reads' h
  · cases e; exact ⟨rfl, hl, Kd.C_below hC hb⟩
theorem AS.call (s : AS w M L W) (hb : Below W.heap.size W W') : AS w M L W' :=
  ⟨below_step s.1 hb, fun b m => ⟨blk_below (s.2.1 b m).blk hb, (s.2.1 b m).row.below hb, (s.2.1 b m).low⟩, fun b m => ⟨blk_below (s.2.2 b m).1 hb, (s.2.2 b m).2⟩⟩
theorem AS.below (s : AS w M L W) : Below w.heap.size w W := s.1
theorem AS.drew (s : AS w M L W) : AS w M L W.drew := ⟨below_drew1 s.1, fun b m => ⟨blk_drew (s.2.1 b m).blk, (s.2.1 b m).row.drew, (s.2.1 b m).low⟩, fun b m => ⟨blk_drew (s.2.2 b m).1, (s.2.2 b m).2⟩⟩
theorem AS.get (s : AS w M L W) (i : Nat) (h : L[i]? = some b) : AB w W b := s.2.1 b (List.mem_of_getElem? h)
theorem AS.rd (s : AS w M L W) (i : Nat) (h : L[i]? = some (g, p, q, .slice A n c, l)) : n = l.length ∧ n ≤ c ∧ Kd.C k47 W A l.length l := (s.get i h).row.rd s.1
theorem AS.num (s : AS w M L W) (i : Nat) (h : M[i]? = some (g, p, q)) : W.heap[g]? = some (.cells #[.int .i64 p, .int .i64 q] 23 (0, 0)) := (s.2.2 _ (List.mem_of_getElem? h)).1
theorem AS.tail (s : AS w M (b :: L) W) : AS w M L W := ⟨s.1, fun c m => s.2.1 c (List.mem_cons_of_mem _ m), s.2.2⟩
theorem AS.nil (w : World) : AS w [] [] w := ⟨Below.refl _ _, fun b m => by (cases m), fun b m => by (cases m)⟩
theorem AB.lt (a : AB w W b) : b.1 < W.heap.size := blk_lt a.blk
theorem AS.inp (s : AS w M L W) (hC : Kd.C k47 w A l.length l) (hc : l.length ≤ c) (hg : g = W.heap.size) (hb : Below W.heap.size W W') (h : W'.heap[g]? = some (.cells #[.int .i64 p, .int .i64 q, .slice A l.length c] 26 (0, 0))) : AS w M ((g, p, q, .slice A l.length c, l) :: L) W' := by
  have s1 := s.call hb
  refine ⟨s1.1, fun b m => ?_, s1.2.2⟩
  rcases List.mem_cons.mp m with rfl | m
  · exact ⟨h, .inr ⟨A, c, rfl, hc, hC⟩, by rw [hg]; exact s.1.size⟩
  · exact s1.2.1 b m
end
structure AQ (w : World) (M : List (Nat × Int × Int)) (L : List (Nat × Int × Int × Value × List S47)) (ro : Option (Value × List S47)) (bo : Option Nat) (W : World) : Prop where
  s : AS w M L W
  r : ∀ x, ro = some x → Kd.R k47 47 W w.heap.size (fun _ => True) x.1 x.2
  b : ∀ g, bo = some g → W.heap[g]? = some (.cells #[.int .i64 0, .int .i64 0, .slice none 0 0] 26 (0, 0)) ∧ w.heap.size ≤ g ∧ ∀ y ∈ L, y.1 ≠ g
section
variable {w W W' W1 : World} {M : List (Nat × Int × Int)} {L : List (Nat × Int × Int × Value × List S47)} {ro : Option (Value × List S47)} {bo : Option Nat} {g : Nat} {p q : Int} {v : Value} {l : List S47}
theorem AQ.start (s : AS w M L W) : AQ w M L none none W := ⟨s, fun _ h => (by cases h), fun _ h => (by cases h)⟩
theorem AQ.call (s : AQ w M L ro bo W) (hb : Below W.heap.size W W') : AQ w M L ro bo W' := ⟨s.s.call hb, fun x h => Kd.R_below (s.r x h) hb, fun g h => ⟨blk_below (s.b g h).1 hb, (s.b g h).2⟩⟩
theorem AQ.row (s : AQ w M L ro bo W) (hb : Below W.heap.size W W') (h : Kd.R k47 47 W' W.heap.size (fun _ => True) v l) : AQ w M L (some (v, l)) bo W' :=
  ⟨s.s.call hb, fun x e => by cases e; exact Kd.R_lower h s.s.1.size, fun g h => ⟨blk_below (s.b g h).1 hb, (s.b g h).2⟩⟩
theorem AQ.box (s : AQ w M L ro none W) (hg : g = W.heap.size) (hb : Below W.heap.size W W') (h : W'.heap[g]? = some (.cells #[.int .i64 0, .int .i64 0, .slice none 0 0] 26 (0, 0))) : AQ w M L ro (some g) W' :=
  ⟨s.s.call hb, fun x e => Kd.R_below (s.r x e) hb, fun g' e => by cases e; exact ⟨h, by rw [hg]; exact s.s.1.size, fun y m => by rw [hg]; exact Nat.ne_of_lt (s.s.2.1 y m).lt⟩⟩
theorem AQ.put (s : AQ w M L (some (v, l)) (some g) W) (p q : Int) : AS w M ((g, p, q, v, l) :: L) (((W.setCell ⟨g, 0, none⟩ (.int .i64 p)).setCell ⟨g, 1, none⟩ (.int .i64 q)).setCell ⟨g, 2, none⟩ v) := by
  obtain ⟨h1, lg, hn⟩ := s.b g rfl
  have b1 := blk_put h1 0 (.int .i64 p) rfl
  have b2 := blk_put b1 1 (.int .i64 q) rfl
  have put : ∀ {u : Value} {m : List S47}, Rw w W u m → Rw w (((W.setCell ⟨g, 0, none⟩ (.int .i64 p)).setCell ⟨g, 1, none⟩ (.int .i64 q)).setCell ⟨g, 2, none⟩ v) u m := fun h => ((h.put h1 (by decide) 0 _).put b1 (by decide) 1 _).put b2 (by decide) 2 _
  refine ⟨below_set (below_set (below_set s.s.1 lg) lg) lg, fun b m => ?_, fun b m => ?_⟩
  · rcases List.mem_cons.mp m with rfl | m
    · exact ⟨blk_put b2 2 v rfl, put (.inl (s.r _ rfl)), lg⟩
    · have a := s.s.2.1 b m
      have n := hn b m
      exact ⟨blk_far (blk_far (blk_far a.blk (p := ⟨g, 0, none⟩) n _) (p := ⟨g, 1, none⟩) n _) (p := ⟨g, 2, none⟩) n _, put a.row, a.low⟩
  · have a := s.s.2.2 b m
    have n := blk_ne a.1 h1 (by decide)
    exact ⟨blk_far (blk_far (blk_far a.1 (p := ⟨g, 0, none⟩) n _) (p := ⟨g, 1, none⟩) n _) (p := ⟨g, 2, none⟩) n _, a.2⟩
end
theorem zat1 {w W : World} {M : List (Nat × Int × Int)} {L : List (Nat × Int × Int × Value × List S47)} (s : AS w M L W) (i : Nat) {g : Nat} {p q : Int} {A : Option Addr} {c : Nat} {t : S47} {n : Nat} (h : L[i]? = some (g, p, q, .slice A n c, [t])) : ∃ ad, A = some ad := by
  obtain ⟨ad, e, _⟩ := jat rfl (s.rd i h).2.2 (Below.refl _ _)
  exact ⟨ad, e⟩
theorem zat2 {w W : World} {M : List (Nat × Int × Int)} {L : List (Nat × Int × Int × Value × List S47)} (s : AS w M L W) (i : Nat) {g : Nat} {p q : Int} {ad : Addr} {c : Nat} {t : S47} {n : Nat} (h : L[i]? = some (g, p, q, .slice (some ad) n c, [t])) : W.cell? ⟨ad.block, ad.off + 1, none⟩ = some (.int .i64 t.f1.f0) ∧ W.cell? ⟨ad.block, ad.off + 2, none⟩ = some (.int .i64 t.f1.f1) := by
  obtain ⟨a2, e, _, h1, h2, _⟩ := jat rfl (s.rd i h).2.2 (Below.refl _ _)
  cases e
  exact ⟨h1, h2⟩
section
variable {P : Program} {ops : Array Oper} {rest : List Oper} {oi : Oper} {a : Act} {Q : Exit → Act → World → Prop} {w : World}
theorem fewLit (N : Tmp) {xs : List S26} {inner : List Value} (hgd : oi.guard = none) (hd : oi.dst = some N)
    (hrun : (execOp a.eval oi).run P w = .ok (.value (.slice (some ⟨w.heap.size, 0, none⟩) xs.length xs.length)) (w.alloc (.cells inner.toArray 26)))
    (hrep : Reps (k26.K w) 3 xs inner) (hm : xs.length ≤ 9223372036854775807)
    (h : ∀ A c w1, Kd.C k26 w1 A xs.length xs → xs.length ≤ c → Below w.heap.size w w1 → wpList P ops Q rest (a.put oi.dst (.slice A xs.length c)) w1) : wpList P ops Q (oi :: rest) a w := by
  refine Kd.event_run hgd hrun (h _ _ _ ?_ (Nat.le_refl _) (below_alloc (Below.refl _ _) _))
  refine ⟨rfl, hm, fun _ => ⟨_, rfl, fun j p hj => ⟨(inner.drop (j * 3)).take 3, ?_, k26.K_below (below_alloc (Below.refl _ _) _) (hrep.2 j p hj), fun i u hu => ?_⟩⟩⟩
  · exact k26.K_len (hrep.2 j p hj)
  · have hi : i < 3 := by
      rcases Nat.lt_or_ge i 3 with h | h
      · exact h
      · rw [List.getElem?_eq_none (by rw [List.length_take]; omega)] at hu; cases hu
    rw [List.getElem?_take_of_lt hi, List.getElem?_drop] at hu
    have e : (⟨w.heap.size, 0, none⟩ : Addr).add (j * k26.sz + i) = ⟨w.heap.size, j * 3 + i, none⟩ := by
      show (if j * 3 + i = 0 then _ else _) = _
      split
      · rename_i h0; rw [h0]
      · exact congrArg (fun n => (⟨w.heap.size, n, none⟩ : Addr)) (Nat.zero_add _)
    rw [e, blk_cell (blk_new w _), List.getElem?_toArray]
    exact hu
end
def awF : List S47 := [⟨⟨#[120]⟩, ⟨2, 1⟩⟩, ⟨⟨#[121]⟩, ⟨-1, 3⟩⟩]
def awL : List S47 := [⟨⟨#[120]⟩, ⟨1, 1⟩⟩, ⟨⟨#[121]⟩, ⟨6, 1⟩⟩]
def fleuronlaw08_awake.f (k : Nat) : Option Bool :=
  (linear_Text.f k 5 1 awF).bind fun s => (linear_At.f k 5 1 awF awL).bind fun a => (linear_Var.f ⟨#[120]⟩).bind fun x => (linear_Sub.f k x.1 x.2.1 x.2.2.1 x.1 x.2.1 x.2.2.1).bind fun y =>
  (linear_Parse.f k ⟨#[45, 120]⟩).bind fun z => (linear_Over.f k x.1 x.2.1 x.2.2.1 0 1).bind fun l => (linear_Add.f k x.1 x.2.1 x.2.2.1 x.1 x.2.1 x.2.2.1).bind fun m => (linear_Times.f k x.1 x.2.1 x.2.2.1 2 1).bind fun o =>
  (linear_Of.f k 1 2).bind fun q => (fleuronref08_Same.f k a.1 a.2.1 a.2.2.1 5 1 []).bind fun s1 => (fleuronref08_Same.f k y.1 y.2.1 y.2.2.1 0 1 []).bind fun s2 => (fleuronref08_Same.f k m.1 m.2.1 m.2.2.1 o.1 o.2.1 o.2.2.1).bind fun s3 =>
  (linear_Valid.f k 5 1 awF).bind fun v =>
  if s.1.toList = [50, 42, 120, 45, 49, 47, 51, 42, 121, 43, 53] ∧ s.2 = 0 ∧ s1 = true ∧ a.2.2.2 = 0 ∧ x.2.2.2 = 0 ∧ s2 = true ∧ y.2.2.2 = 0 ∧ z.2.2.1.length = 1 ∧ (rd_T47 z.2.2.1 0).f1.f0 = -1 ∧ (rd_T47 z.2.2.1 0).f1.f1 = 1 ∧ z.2.2.2 = 0 ∧ l.2.2.2 = 18 ∧ s3 = true ∧ m.2.2.2 = 0 ∧ o.2.2.2 = 0 ∧ q.1 = 1 ∧ q.2.1 = 2 ∧ q.2.2.2 = 0 then some v else none
theorem fleuronlaw08_awake.mono : ∀ k, LeO (fleuronlaw08_awake.f k) (fleuronlaw08_awake.f (k + 1)) := by
  intro k
  unfold fleuronlaw08_awake.f
  repeat' first
    | (with_reducible exact linear_Text.mono _ _ _ _) | (with_reducible exact linear_At.mono _ _ _ _ _) | (with_reducible exact linear_Sub.mono _ _ _ _ _ _ _) | (with_reducible exact linear_Parse.mono _ _) | (with_reducible exact linear_Over.mono _ _ _ _ _ _) | (with_reducible exact linear_Add.mono _ _ _ _ _ _ _) | (with_reducible exact linear_Times.mono _ _ _ _ _ _) | (with_reducible exact linear_Of.mono _ _ _)
    | (with_reducible exact fleuronref08_Same.mono _ _ _ _ _ _ _) | (with_reducible exact linear_Valid.mono _ _ _ _) | (with_reducible exact LeO.refl _) | (with_reducible refine LeO.ite ?_ ?_) | (with_reducible refine LeO.bind ?_ (fun _ => ?_))
def fleuronlaw08_awake.T3 : Bool × List (List Nat × List Nat) := (true, [([], []), ([], []), ([1], [1]), ([1], []), ([3], [3]), ([2, 4], [2, 4]), ([0, 5, 3], [0, 5]), ([6], [6]), ([7], [7]), ([7], [7]), ([], []), ([10, 8, 6, 0, 1, 2, 3, 4, 5, 6, 7, 8, 10], [8, 10]), ([9, 11, 0, 1, 2, 3, 4, 5, 6, 7, 8, 9, 10, 11], [9])])
def fleuronlaw08_awake.B3 : List Nat := [0, 0, 2, 2, 10, 30, 63, 127, 255, 255, 0, 1535, 4095]
theorem fleuronlaw08_awake.tab3 : rtab .any (opsOf Tryz.f12 3) = fleuronlaw08_awake.T3 := by kernel_rfl
theorem fleuronlaw08_awake.bits3 : waitsOk fleuronlaw08_awake.T3.2 fleuronlaw08_awake.B3 = true := by kernel_rfl
def fleuronlaw08_awake.T7 : Bool × List (List Nat × List Nat) := (true, [([], []), ([], []), ([0, 1, 1], [0, 1]), ([2], [2]), ([3], [3]), ([3], [3]), ([], []), ([6, 4, 2, 0, 1, 2, 3, 4, 6], [4, 6]), ([5, 7, 0, 1, 2, 3, 4, 5, 6, 7], [5])])
def fleuronlaw08_awake.B7 : List Nat := [0, 0, 3, 7, 15, 15, 0, 95, 255]
theorem fleuronlaw08_awake.tab7 : rtab .any (opsOf Tryz.f12 7) = fleuronlaw08_awake.T7 := by kernel_rfl
theorem fleuronlaw08_awake.bits7 : waitsOk fleuronlaw08_awake.T7.2 fleuronlaw08_awake.B7 = true := by kernel_rfl
def fleuronlaw08_awake.T9 : Bool × List (List Nat × List Nat) := (true, [([], []), ([], []), ([0, 1, 1], [0, 1]), ([2], [2]), ([3], [3]), ([3], [3]), ([], []), ([6, 4, 2, 0, 1, 2, 3, 4, 6], [4, 6]), ([5, 7, 0, 1, 2, 3, 4, 5, 6, 7], [5])])
def fleuronlaw08_awake.B9 : List Nat := [0, 0, 3, 7, 15, 15, 0, 95, 255]
theorem fleuronlaw08_awake.tab9 : rtab .any (opsOf Tryz.f12 9) = fleuronlaw08_awake.T9 := by kernel_rfl
theorem fleuronlaw08_awake.bits9 : waitsOk fleuronlaw08_awake.T9.2 fleuronlaw08_awake.B9 = true := by kernel_rfl
def fleuronlaw08_awake.T11 : Bool × List (List Nat × List Nat) := (true, [([], []), ([0], [0]), ([1], [1]), ([2], [2]), ([3, 2], [2, 3]), ([2, 4], [2, 4]), ([5, 2], [5]), ([6], [6]), ([6, 6], [6]), ([8, 6], [6, 8]), ([7, 9, 8, 6], [6, 7, 9]), ([6, 10], [6, 10]), ([11, 10], [11]), ([12], [12]), ([13, 12], [12, 13]), ([12, 14], [12, 14]), ([15, 12], [15]), ([16], [16]), ([17, 16], [16, 17]), ([16, 18], [16, 18]), ([19, 16], [19]), ([20], [20]), ([20, 20], [20]), ([22, 20], [20, 22]), ([21, 23, 22, 20], [20, 21, 23]), ([20, 24], [20, 24]), ([25, 24], [25]), ([26], [26]), ([27, 26], [26, 27]), ([26, 28], [26, 28]), ([29, 26], [29]), ([30], [30]), ([31, 30], [30, 31]), ([32, 30], [30, 32]), ([33, 30], [30, 33]), ([30, 34], [30, 34]), ([35, 30], [35]), ([36], [36]), ([37, 36], [36, 37]), ([38, 36], [36, 38]), ([39, 36], [36, 39]), ([40, 36], [36, 40]), ([36, 36], [36]), ([41, 42, 36], [36, 41, 42]), ([36, 43], [36, 43]), ([44, 42], [44]), ([45], [45]), ([46, 45], [45, 46]), ([45, 47], [45, 47]), ([48, 45], [48]), ([49], [49]), ([50, 49], [49, 50]), ([49, 51], [49, 51]), ([52, 49], [52]), ([53], [53]), ([53], [53]), ([54, 55, 53, 53], [53, 54, 55]), ([53, 56], [53, 56]), ([57, 56], [57]), ([58], [58]), ([59, 58], [58, 59]), ([58, 60], [58, 60]), ([61, 58], [61]), ([62], [62]), ([63, 62], [62, 63]), ([62, 64], [62, 64]), ([65, 62], [65]), ([66], [66]), ([67, 66], [66, 67]), ([66, 66], [66]), ([68, 69, 66], [66, 68, 69]), ([66, 70], [66, 70]), ([71, 69], [71]), ([72], [72]), ([73, 72], [72, 73]), ([72, 74], [72, 74]), ([75, 72], [75]), ([76], [76]), ([77, 76, 76], [76, 77]), ([76, 78], [76, 78]), ([79, 78, 0, 1, 2, 3, 4, 5, 6, 7, 8, 9, 10, 11, 12, 13, 14, 15, 16, 17, 18, 19, 20, 21, 22, 23, 24, 25, 26, 27, 28, 29, 30, 31, 32, 33, 34, 35, 36, 37, 38, 39, 40, 41, 42, 43, 44, 45, 46, 47, 48, 49, 50, 51, 52, 53, 54, 55, 56, 57, 58, 59, 60, 61, 62, 63, 64, 65, 66, 67, 68, 69, 70, 71, 72, 73, 74, 75, 76, 77, 78, 79], [79])])
def fleuronlaw08_awake.B11 : List Nat := [0, 1, 3, 7, 15, 31, 63, 127, 127, 383, 1023, 2047, 4095, 8191, 16383, 32767, 65535, 131071, 262143, 524287, 1048575, 2097151, 2097151, 6291455, 16777215, 33554431, 67108863, 134217727, 268435455, 536870911, 1073741823, 2147483647, 4294967295, 8589934591, 17179869183, 34359738367, 68719476735, 137438953471, 274877906943, 549755813887, 1099511627775, 2199023255551, 137438953471, 8796093022207, 17592186044415, 35184372088831, 70368744177663, 140737488355327, 281474976710655, 562949953421311, 1125899906842623, 2251799813685247, 4503599627370495, 9007199254740991, 18014398509481983, 18014398509481983, 72057594037927935, 144115188075855871, 288230376151711743, 576460752303423487, 1152921504606846975, 2305843009213693951, 4611686018427387903, 9223372036854775807, 18446744073709551615, 36893488147419103231, 73786976294838206463, 147573952589676412927, 295147905179352825855, 147573952589676412927, 1180591620717411303423, 2361183241434822606847, 4722366482869645213695, 9444732965739290427391, 18889465931478580854783, 37778931862957161709567, 75557863725914323419135, 151115727451828646838271, 302231454903657293676543, 604462909807314587353087, 1208925819614629174706175]
theorem fleuronlaw08_awake.tab11 : rtab .any (opsOf Tryz.f12 11) = fleuronlaw08_awake.T11 := by kernel_rfl
theorem fleuronlaw08_awake.bits11 : waitsOk fleuronlaw08_awake.T11.2 fleuronlaw08_awake.B11 = true := by kernel_rfl
attribute [local go_sem] eqA23
attribute [local go_sem] gl_zero0 gl_zero1 gl_one0 gl_one1
set_option maxHeartbeats 8000000 in
set_option maxRecDepth 100000 in
theorem fleuronlaw08_awake.calls (k : Nat) (r : Bool) (w : World) (h : fleuronlaw08_awake.f k = some r) (hG : Glob w) :
  Calls Tryz.prog 12 #[] w fun e w' => e = .returned (.bool r) ∧ Below w.heap.size w w' := by
 have HG := Fa.mk hG
 clear hG
 have hu26 := Tryz.underlying26
 have hu23 := Tryz.underlying23
 have hu47 := Tryz.underlying47
 have hBs : Base w := Base.mk
 unfold fleuronlaw08_awake.f at h
 replace h := Option.bind_eq_some_iff.mp h
 obtain ⟨⟨s1, s2⟩, e_, h⟩ := h
 (try dsimp only at e_ h)
 have E1 := Fa.mk e_
 clear e_
 replace h := Option.bind_eq_some_iff.mp h
 obtain ⟨⟨a1, a2, a3, a4⟩, e_, h⟩ := h
 (try dsimp only at e_ h)
 have E2 := Fa.mk e_
 clear e_
 replace h := Option.bind_eq_some_iff.mp h
 obtain ⟨⟨x1, x2, x3, x4⟩, e_, h⟩ := h
 (try dsimp only at e_ h)
 have E3 := Fa.mk e_
 clear e_
 replace h := Option.bind_eq_some_iff.mp h
 obtain ⟨⟨y1, y2, y3, y4⟩, e_, h⟩ := h
 (try dsimp only at e_ h)
 have E4 := Fa.mk e_
 clear e_
 replace h := Option.bind_eq_some_iff.mp h
 obtain ⟨⟨z1, z2, z3, z4⟩, e_, h⟩ := h
 (try dsimp only at e_ h)
 have E5 := Fa.mk e_
 clear e_
 replace h := Option.bind_eq_some_iff.mp h
 obtain ⟨⟨l1, l2, l3, l4⟩, e_, h⟩ := h
 (try dsimp only at e_ h)
 have E6 := Fa.mk e_
 clear e_
 replace h := Option.bind_eq_some_iff.mp h
 obtain ⟨⟨m1, m2, m3, m4⟩, e_, h⟩ := h
 (try dsimp only at e_ h)
 have E7 := Fa.mk e_
 clear e_
 replace h := Option.bind_eq_some_iff.mp h
 obtain ⟨⟨o1, o2, o3, o4⟩, e_, h⟩ := h
 (try dsimp only at e_ h)
 have E8 := Fa.mk e_
 clear e_
 replace h := Option.bind_eq_some_iff.mp h
 obtain ⟨⟨q1, q2, q3, q4⟩, e_, h⟩ := h
 (try dsimp only at e_ h)
 have E9 := Fa.mk e_
 clear e_
 replace h := Option.bind_eq_some_iff.mp h
 obtain ⟨b1, e_, h⟩ := h
 (try dsimp only at e_ h)
 have E10 := Fa.mk e_
 clear e_
 replace h := Option.bind_eq_some_iff.mp h
 obtain ⟨b2, e_, h⟩ := h
 (try dsimp only at e_ h)
 have E11 := Fa.mk e_
 clear e_
 replace h := Option.bind_eq_some_iff.mp h
 obtain ⟨b3, e_, h⟩ := h
 (try dsimp only at e_ h)
 have E12 := Fa.mk e_
 clear e_
 replace h := Option.bind_eq_some_iff.mp h
 obtain ⟨v, e_, h⟩ := h
 (try dsimp only at e_ h)
 have E13 := Fa.mk e_
 clear e_
 split at h
 rotate_left
 ·
  cases h
 rename_i hc
 obtain ⟨c1, rfl, rfl, rfl, rfl, rfl, rfl, cz, cp, cq, rfl, rfl, rfl, rfl, rfl, rfl, rfl, rfl⟩ := hc
 obtain rfl := Option.some.inj h
 obtain ⟨zt, rfl⟩ := List.length_eq_one_iff.mp cz
 obtain ⟨zn, zp, zq⟩ := zt
 change zp = -1 at cp
 change zq = 1 at cq
 subst cp
 subst cq
 have CS := Fa.mk c1
 clear c1 cz h
 have S := Fa.mk (AS.nil w)
 have tok1 : True := trivial
 have tok2 : True := trivial
 have tok3 : True := trivial
 have tok4 : True := trivial
 go_enter Tryz.func12, Tryz.ntmps12
 go_upto_region 2 with (first | (have _t := tok1; go_at_call 41; (with_reducible refine (fleuronlaw08_number.calls 5 1 5 1 _ rfl).mono ?_); rintro e wn1 ⟨rfl, hb⟩; clear tok1; have S1 := Fa.mk (S.out.call hb); clear hb S; have S := S1; clear S1) | (have _t := tok2; go_at_call 41; (with_reducible refine (fleuronlaw08_number.calls 2 1 2 1 _ rfl).mono ?_); rintro e wn2 ⟨rfl, hb⟩; clear tok2; have S1 := Fa.mk (S.out.call hb); clear hb S; have S := S1; clear S1) | (have _t := tok3; go_at_call 41; (with_reducible refine (fleuronlaw08_number.calls (-1) 3 (-1) 3 _ rfl).mono ?_); rintro e wn3 ⟨rfl, hb⟩; clear tok3; have S1 := Fa.mk (S.out.call hb); clear hb S; have S := S1; clear S1) | ((with_reducible refine gate_dst (N := 25) rfl ?_); refine Kd.R_lit k47 _ 47 ?hg (N := 25) ?hd (xs := awF) (inner := [.string (⟨#[120]⟩ : ByteArray), .int .i64 2, .int .i64 1, .string (⟨#[121]⟩ : ByteArray), .int .i64 (-1), .int .i64 3]) (ok := fun _ => True) (okp := fun _ => True) ?hr ?hp (fun _ hk => hk) trivial (Below.refl _ _) (Nat.le_refl _) (by simp [awF, awL]) ?_; (case hd => rfl); (case hg => rfl); (case hr => first | (go_simp; done) | (go_simp; rfl)); (case hp => exact (Reps.c3 (show Kd.M k47 _ _ _ (⟨(⟨#[120]⟩ : ByteArray), (⟨2, 1⟩ : S23)⟩ : S47) [.string (⟨#[120]⟩ : ByteArray), .int .i64 2, .int .i64 1] from (k47_mkM _ _ _ _)) (Reps.c3 (show Kd.M k47 _ _ _ (⟨(⟨#[121]⟩ : ByteArray), (⟨(-1), 3⟩ : S23)⟩ : S47) [.string (⟨#[121]⟩ : ByteArray), .int .i64 (-1), .int .i64 3] from (k47_mkM _ _ _ _)) (Reps.none _ _)))); intro vf wlf ho hb hg_ hnew_; clear hg_ hnew_; obtain ⟨Af, cf, hv⟩ := Kd.R_slice ho; subst hv; have Q := Fa.mk ((AQ.start S.out).row hb ho); clear ho hb S) | ((with_reducible refine gate_dst (N := 1) rfl ?_); refine boxF (N := 1) (cs := #[.int .i64 0, .int .i64 0, .slice none 0 0]) (t := 26) ?_; intro gf hg wbf hx hb; have S := Fa.mk ((Q.out.box hg hb hx).put 5 1); have co0 := jcell hx (i := 0) rfl; have co1 := jcell hx (i := 1) rfl; have co2 := jcell hx (i := 2) rfl; have fo0 := blk_frozen hx 0; have fo1 := blk_frozen hx 1; have fo2 := blk_frozen hx 2; clear hg hb hx Q))
 generalize hW_ : (((wbf.setCell ⟨gf, 0, none⟩ (.int .i64 5)).setCell ⟨gf, 1, none⟩ (.int .i64 1)).setCell ⟨gf, 2, none⟩ (.slice Af awF.length cf)) = wwf at S ⊢
 clear hW_ co0 co1 co2 fo0 fo1 fo2
 have cl0_0 := jcell (S.out.get 0 rfl).blk (i := 0) rfl
 have cl0_1 := jcell (S.out.get 0 rfl).blk (i := 1) rfl
 have cl0_2 := jcell (S.out.get 0 rfl).blk (i := 2) rfl
 have rr0 := Fa.mk (S.out.rd 0 rfl)
 go_upto_region 3 with (go_at_call 30; (with_reducible refine (linear_Text.calls k 5 1 _ _ awF s1 0 _ rr0.out.2.2 rr0.out.2.1 E1.out (HG.out.below S.out.below)).mono ?_); rintro e wt ⟨rfl, hb⟩; have S1 := Fa.mk (S.out.call hb); clear hb S; have S := S1; clear S1)
 clear cl0_0 cl0_1 cl0_2 rr0
 refine startU 13 (S := AS w [] [(gf, 5, 1, .slice Af awF.length cf, awF)]) (ds := []) S.out.drew (fun hHeld => ?_); refine with_tabW fleuronlaw08_awake.tab3 fleuronlaw08_awake.bits3 (fun HT_ HW_ => ?_)
 clear S
 generalize World.drew _ = wd at hHeld ⊢
 have Q := Fa.mk (AQ.start hHeld)
 refine takeU 0 (some 33) (upto 13 1) HT_ HW_ hHeld rfl (by intro w' s_; have c0 := jcell (s_.get 0 rfl).blk (i := 0) rfl; have c1 := jcell (s_.get 0 rfl).blk (i := 1) rfl; have c2 := jcell (s_.get 0 rfl).blk (i := 2) rfl; clear s_; go_simp; with_reducible rfl) ?_
 refine join_ (σ := (Option Addr × Nat) × (Option Addr × Nat) × Nat) 2 (upto 13 11) (fun s_ => [(34, .agg #[.int .i64 1, .int .i64 1]), (35, .agg #[.string (⟨#[120]⟩ : ByteArray), .int .i64 1, .int .i64 1]), (36, .agg #[.int .i64 6, .int .i64 1]), (37, .agg #[.string (⟨#[121]⟩ : ByteArray), .int .i64 6, .int .i64 1]), (38, .slice s_.1.1 awL.length s_.1.2), (39, .tuple #[.agg #[.int .i64 a1, .int .i64 a2, .slice s_.2.1.1 a3.length s_.2.1.2], .int .i64 0]), (32, .tuple #[.agg #[.int .i64 a1, .int .i64 a2, .slice s_.2.1.1 a3.length s_.2.1.2], .int .i64 0]), (40, .agg #[.int .i64 a1, .int .i64 a2, .slice s_.2.1.1 a3.length s_.2.1.2]), (41, .int .i64 0), (4, .pointer (some ⟨s_.2.2, 0, none⟩))]) (fun s_ w' => AQ w [] [(gf, 5, 1, .slice Af awF.length cf, awF)] (some (.slice s_.2.1.1 a3.length s_.2.1.2, a3)) (some s_.2.2) w') ?_ ?_
 rotate_left
 ·
  intro hCont
  refine two_ (i := 1) (j := 10) (Ni := some 34) (Nj := some 4) (upto 13 2) #[true, false, false, false, false, false, false, false, false, false, true, false, false] rfl rfl rfl rfl (two_of HT_.out (by kernel_rfl)) (by decide) (by decide) (fun K hK => ?_) (fun K hK => ?_)
  ·
   refine goes_ Tryz.func41 (by kernel_rfl) rfl #[.int .i64 1, .int .i64 1] (by rfl) rfl rfl (by (try simp only [List.map_toArray, List.map_cons, List.map_nil]); first | done | rfl) ?_
   refine (fleuronlaw08_number.calls 1 1 1 1 _ rfl).mono ?_
   rintro e wd1 ⟨rfl, hb⟩
   refine ⟨_, rfl, ?_⟩
   have Q1 := Fa.mk (Q.out.call hb)
   clear hb Q
   refine hK.out _ _ Q1.out.s (fun hHeld => ?_)
   clear hK K
   have Q := Q1
   clear Q1
   refine normU (some 34) ?_
   refine pureU 2 (some 35) (upto 13 3) HT_ ?_
   refine two_ (i := 3) (j := 10) (Ni := some 36) (Nj := some 4) (upto 13 4) #[true, true, true, false, false, false, false, false, false, false, true, false, false] rfl rfl rfl rfl (two_of HT_.out (by kernel_rfl)) (by decide) (by decide) (fun K hK => ?_) (fun K hK => ?_)
   ·
    refine goes_ Tryz.func41 (by kernel_rfl) rfl #[.int .i64 6, .int .i64 1] (by rfl) rfl rfl (by (try simp only [List.map_toArray, List.map_cons, List.map_nil]); first | done | rfl) ?_
    refine (fleuronlaw08_number.calls 6 1 6 1 _ rfl).mono ?_
    rintro e wd2 ⟨rfl, hb⟩
    refine ⟨_, rfl, ?_⟩
    have Q1 := Fa.mk (Q.out.call hb)
    clear hb Q
    refine hK.out _ _ Q1.out.s (fun hHeld => ?_)
    clear hK K
    have Q := Q1
    clear Q1
    refine normU (some 36) ?_
    refine pureU 4 (some 37) (upto 13 5) HT_ ?_
    refine two_ (i := 5) (j := 10) (Ni := some 38) (Nj := some 4) (upto 13 6) #[true, true, true, true, true, false, false, false, false, false, true, false, false] rfl rfl rfl rfl (two_of HT_.out (by kernel_rfl)) (by decide) (by decide) (fun K hK => ?_) (fun K hK => ?_)
    ·
     refine Kd.R_lit_step k47 _ 47 ?hg (N := 38) ?hd (xs := awL) (inner := [.string (⟨#[120]⟩ : ByteArray), .int .i64 1, .int .i64 1, .string (⟨#[121]⟩ : ByteArray), .int .i64 6, .int .i64 1]) (ok := fun _ => True) (okp := fun _ => True) ?hr ?hp (fun _ hk => hk) trivial (Below.refl _ _) (Nat.le_refl _) (by simp [awF, awL]) ?_; (case hd => rfl); (case hg => rfl); (case hr => first | (go_simp; done) | (go_simp; rfl)); (case hp => exact (Reps.c3 (show Kd.M k47 _ _ _ (⟨(⟨#[120]⟩ : ByteArray), (⟨1, 1⟩ : S23)⟩ : S47) [.string (⟨#[120]⟩ : ByteArray), .int .i64 1, .int .i64 1] from (k47_mkM _ _ _ _)) (Reps.c3 (show Kd.M k47 _ _ _ (⟨(⟨#[121]⟩ : ByteArray), (⟨6, 1⟩ : S23)⟩ : S47) [.string (⟨#[121]⟩ : ByteArray), .int .i64 6, .int .i64 1] from (k47_mkM _ _ _ _)) (Reps.none _ _)))); intro v3 wl3 ho hb hg_ hnew_; clear hg_ hnew_; obtain ⟨A3, c3, hv⟩ := Kd.R_slice ho; subst hv
     have Q1 := Fa.mk (Q.out.row hb ho)
     clear hb ho Q
     refine hK.out _ _ Q1.out.s (fun hHeld => ?_)
     clear hK K
     have Q := Q1
     clear Q1
     refine normU (some 38) ?_
     refine two_ (i := 6) (j := 10) (Ni := some 39) (Nj := some 4) (upto 13 7) #[true, true, true, true, true, true, false, false, false, false, true, false, false] rfl rfl rfl rfl (two_of HT_.out (by kernel_rfl)) (by decide) (by decide) (fun K hK => ?_) (fun K hK => ?_)
     ·
      refine goes_ Tryz.func28 (by kernel_rfl) rfl #[.agg #[.int .i64 5, .int .i64 1, .slice Af awF.length cf], .slice A3 awL.length c3] (by rfl) rfl rfl (by (try simp only [List.map_toArray, List.map_cons, List.map_nil]); first | done | rfl) ?_
      refine (linear_At.calls k 5 1 Af cf awF A3 c3 awL a1 a2 a3 0 _ (Q.out.s.rd 0 rfl).2.2 (Q.out.s.rd 0 rfl).2.1 (Kd.R_reads' (Q.out.r _ rfl)).2.2 (Kd.R_reads' (Q.out.r _ rfl)).2.1 E2.out).mono ?_
      rintro e wd4 ⟨v4, rfl, ho, hb⟩
      obtain ⟨A4, c4, hv⟩ := Kd.R_slice ho
      subst hv
      refine ⟨_, rfl, ?_⟩
      have Q1 := Fa.mk (Q.out.row hb ho)
      clear hb ho Q
      refine hK.out _ _ Q1.out.s (fun hHeld => ?_)
      clear hK K
      have Q := Q1
      clear Q1
      refine normU (some 39) ?_
      refine pureU 7 (some 32) (upto 13 8) HT_ ?_
      refine pureU 8 (some 40) (upto 13 9) HT_ ?_
      refine pureU 9 (some 41) (upto 13 10) HT_ ?_
      refine oneU 10 (some 4) (upto 13 11) HT_ (fun K hK => ?_)
      refine box_step ?hg (N := 4) ?hd (cs := #[.int .i64 0, .int .i64 0, .slice none 0 0]) (t := 26) ?hr ?_; (case hd => rfl); (case hg => rfl); (case hr => first | (go_simp; done) | (go_simp; rfl))
      intro gN hg wd5 hx hb
      have Q1 := Fa.mk (Q.out.box hg hb hx)
      clear hg hb hx Q
      refine hK.out _ _ Q1.out.s (fun hHeld => ?_)
      clear hK K
      have Q := Q1
      clear Q1
      refine normU (some 4) ?_
      exact norm_ (by simp only [putAll, Act.put, List.setIfInBounds_toArray, List.set_cons_zero, List.set_cons_succ]) (hCont ((A3, c3), (A4, c4), gN) _ Q.out)
     ·
      refine box_step ?hg (N := 4) ?hd (cs := #[.int .i64 0, .int .i64 0, .slice none 0 0]) (t := 26) ?hr ?_; (case hd => rfl); (case hg => rfl); (case hr => first | (go_simp; done) | (go_simp; rfl))
      intro gN hg wd6 hx hb
      have Q1 := Fa.mk (Q.out.box hg hb hx)
      clear hg hb hx Q
      refine hK.out _ _ Q1.out.s (fun hHeld => ?_)
      clear hK K
      have Q := Q1
      clear Q1
      refine normU (some 4) ?_
      refine oneU 6 (some 39) #[true, true, true, true, true, true, true, false, false, false, true, false, false] HT_ (fun K hK => ?_)
      refine goes_ Tryz.func28 (by kernel_rfl) rfl #[.agg #[.int .i64 5, .int .i64 1, .slice Af awF.length cf], .slice A3 awL.length c3] (by rfl) rfl rfl (by (try simp only [List.map_toArray, List.map_cons, List.map_nil]); first | done | rfl) ?_
      refine (linear_At.calls k 5 1 Af cf awF A3 c3 awL a1 a2 a3 0 _ (Q.out.s.rd 0 rfl).2.2 (Q.out.s.rd 0 rfl).2.1 (Kd.R_reads' (Q.out.r _ rfl)).2.2 (Kd.R_reads' (Q.out.r _ rfl)).2.1 E2.out).mono ?_
      rintro e wd7 ⟨v7, rfl, ho, hb⟩
      obtain ⟨A7, c7, hv⟩ := Kd.R_slice ho
      subst hv
      refine ⟨_, rfl, ?_⟩
      have Q1 := Fa.mk (Q.out.row hb ho)
      clear hb ho Q
      refine hK.out _ _ Q1.out.s (fun hHeld => ?_)
      clear hK K
      have Q := Q1
      clear Q1
      refine normU (some 39) ?_
      refine pureU 7 (some 32) #[true, true, true, true, true, true, true, true, false, false, true, false, false] HT_ ?_
      refine pureU 8 (some 40) #[true, true, true, true, true, true, true, true, true, false, true, false, false] HT_ ?_
      refine pureU 9 (some 41) (upto 13 11) HT_ ?_
      exact norm_ (by simp only [putAll, Act.put, List.setIfInBounds_toArray, List.set_cons_zero, List.set_cons_succ]) (hCont ((A3, c3), (A7, c7), gN) _ Q.out)
    ·
     refine box_step ?hg (N := 4) ?hd (cs := #[.int .i64 0, .int .i64 0, .slice none 0 0]) (t := 26) ?hr ?_; (case hd => rfl); (case hg => rfl); (case hr => first | (go_simp; done) | (go_simp; rfl))
     intro gN hg wd8 hx hb
     have Q1 := Fa.mk (Q.out.box hg hb hx)
     clear hg hb hx Q
     refine hK.out _ _ Q1.out.s (fun hHeld => ?_)
     clear hK K
     have Q := Q1
     clear Q1
     refine normU (some 4) ?_
     refine oneU 5 (some 38) #[true, true, true, true, true, true, false, false, false, false, true, false, false] HT_ (fun K hK => ?_)
     refine Kd.R_lit_step k47 _ 47 ?hg (N := 38) ?hd (xs := awL) (inner := [.string (⟨#[120]⟩ : ByteArray), .int .i64 1, .int .i64 1, .string (⟨#[121]⟩ : ByteArray), .int .i64 6, .int .i64 1]) (ok := fun _ => True) (okp := fun _ => True) ?hr ?hp (fun _ hk => hk) trivial (Below.refl _ _) (Nat.le_refl _) (by simp [awF, awL]) ?_; (case hd => rfl); (case hg => rfl); (case hr => first | (go_simp; done) | (go_simp; rfl)); (case hp => exact (Reps.c3 (show Kd.M k47 _ _ _ (⟨(⟨#[120]⟩ : ByteArray), (⟨1, 1⟩ : S23)⟩ : S47) [.string (⟨#[120]⟩ : ByteArray), .int .i64 1, .int .i64 1] from (k47_mkM _ _ _ _)) (Reps.c3 (show Kd.M k47 _ _ _ (⟨(⟨#[121]⟩ : ByteArray), (⟨6, 1⟩ : S23)⟩ : S47) [.string (⟨#[121]⟩ : ByteArray), .int .i64 6, .int .i64 1] from (k47_mkM _ _ _ _)) (Reps.none _ _)))); intro v9 wl9 ho hb hg_ hnew_; clear hg_ hnew_; obtain ⟨A9, c9, hv⟩ := Kd.R_slice ho; subst hv
     have Q1 := Fa.mk (Q.out.row hb ho)
     clear hb ho Q
     refine hK.out _ _ Q1.out.s (fun hHeld => ?_)
     clear hK K
     have Q := Q1
     clear Q1
     refine normU (some 38) ?_
     refine oneU 6 (some 39) #[true, true, true, true, true, true, true, false, false, false, true, false, false] HT_ (fun K hK => ?_)
     refine goes_ Tryz.func28 (by kernel_rfl) rfl #[.agg #[.int .i64 5, .int .i64 1, .slice Af awF.length cf], .slice A9 awL.length c9] (by rfl) rfl rfl (by (try simp only [List.map_toArray, List.map_cons, List.map_nil]); first | done | rfl) ?_
     refine (linear_At.calls k 5 1 Af cf awF A9 c9 awL a1 a2 a3 0 _ (Q.out.s.rd 0 rfl).2.2 (Q.out.s.rd 0 rfl).2.1 (Kd.R_reads' (Q.out.r _ rfl)).2.2 (Kd.R_reads' (Q.out.r _ rfl)).2.1 E2.out).mono ?_
     rintro e wd10 ⟨v10, rfl, ho, hb⟩
     obtain ⟨A10, c10, hv⟩ := Kd.R_slice ho
     subst hv
     refine ⟨_, rfl, ?_⟩
     have Q1 := Fa.mk (Q.out.row hb ho)
     clear hb ho Q
     refine hK.out _ _ Q1.out.s (fun hHeld => ?_)
     clear hK K
     have Q := Q1
     clear Q1
     refine normU (some 39) ?_
     refine pureU 7 (some 32) #[true, true, true, true, true, true, true, true, false, false, true, false, false] HT_ ?_
     refine pureU 8 (some 40) #[true, true, true, true, true, true, true, true, true, false, true, false, false] HT_ ?_
     refine pureU 9 (some 41) (upto 13 11) HT_ ?_
     exact norm_ (by simp only [putAll, Act.put, List.setIfInBounds_toArray, List.set_cons_zero, List.set_cons_succ]) (hCont ((A9, c9), (A10, c10), gN) _ Q.out)
   ·
    refine box_step ?hg (N := 4) ?hd (cs := #[.int .i64 0, .int .i64 0, .slice none 0 0]) (t := 26) ?hr ?_; (case hd => rfl); (case hg => rfl); (case hr => first | (go_simp; done) | (go_simp; rfl))
    intro gN hg wd11 hx hb
    have Q1 := Fa.mk (Q.out.box hg hb hx)
    clear hg hb hx Q
    refine hK.out _ _ Q1.out.s (fun hHeld => ?_)
    clear hK K
    have Q := Q1
    clear Q1
    refine normU (some 4) ?_
    refine oneU 3 (some 36) #[true, true, true, true, false, false, false, false, false, false, true, false, false] HT_ (fun K hK => ?_)
    refine goes_ Tryz.func41 (by kernel_rfl) rfl #[.int .i64 6, .int .i64 1] (by rfl) rfl rfl (by (try simp only [List.map_toArray, List.map_cons, List.map_nil]); first | done | rfl) ?_
    refine (fleuronlaw08_number.calls 6 1 6 1 _ rfl).mono ?_
    rintro e wd12 ⟨rfl, hb⟩
    refine ⟨_, rfl, ?_⟩
    have Q1 := Fa.mk (Q.out.call hb)
    clear hb Q
    refine hK.out _ _ Q1.out.s (fun hHeld => ?_)
    clear hK K
    have Q := Q1
    clear Q1
    refine normU (some 36) ?_
    refine pureU 4 (some 37) #[true, true, true, true, true, false, false, false, false, false, true, false, false] HT_ ?_
    refine oneU 5 (some 38) #[true, true, true, true, true, true, false, false, false, false, true, false, false] HT_ (fun K hK => ?_)
    refine Kd.R_lit_step k47 _ 47 ?hg (N := 38) ?hd (xs := awL) (inner := [.string (⟨#[120]⟩ : ByteArray), .int .i64 1, .int .i64 1, .string (⟨#[121]⟩ : ByteArray), .int .i64 6, .int .i64 1]) (ok := fun _ => True) (okp := fun _ => True) ?hr ?hp (fun _ hk => hk) trivial (Below.refl _ _) (Nat.le_refl _) (by simp [awF, awL]) ?_; (case hd => rfl); (case hg => rfl); (case hr => first | (go_simp; done) | (go_simp; rfl)); (case hp => exact (Reps.c3 (show Kd.M k47 _ _ _ (⟨(⟨#[120]⟩ : ByteArray), (⟨1, 1⟩ : S23)⟩ : S47) [.string (⟨#[120]⟩ : ByteArray), .int .i64 1, .int .i64 1] from (k47_mkM _ _ _ _)) (Reps.c3 (show Kd.M k47 _ _ _ (⟨(⟨#[121]⟩ : ByteArray), (⟨6, 1⟩ : S23)⟩ : S47) [.string (⟨#[121]⟩ : ByteArray), .int .i64 6, .int .i64 1] from (k47_mkM _ _ _ _)) (Reps.none _ _)))); intro v13 wl13 ho hb hg_ hnew_; clear hg_ hnew_; obtain ⟨A13, c13, hv⟩ := Kd.R_slice ho; subst hv
    have Q1 := Fa.mk (Q.out.row hb ho)
    clear hb ho Q
    refine hK.out _ _ Q1.out.s (fun hHeld => ?_)
    clear hK K
    have Q := Q1
    clear Q1
    refine normU (some 38) ?_
    refine oneU 6 (some 39) #[true, true, true, true, true, true, true, false, false, false, true, false, false] HT_ (fun K hK => ?_)
    refine goes_ Tryz.func28 (by kernel_rfl) rfl #[.agg #[.int .i64 5, .int .i64 1, .slice Af awF.length cf], .slice A13 awL.length c13] (by rfl) rfl rfl (by (try simp only [List.map_toArray, List.map_cons, List.map_nil]); first | done | rfl) ?_
    refine (linear_At.calls k 5 1 Af cf awF A13 c13 awL a1 a2 a3 0 _ (Q.out.s.rd 0 rfl).2.2 (Q.out.s.rd 0 rfl).2.1 (Kd.R_reads' (Q.out.r _ rfl)).2.2 (Kd.R_reads' (Q.out.r _ rfl)).2.1 E2.out).mono ?_
    rintro e wd14 ⟨v14, rfl, ho, hb⟩
    obtain ⟨A14, c14, hv⟩ := Kd.R_slice ho
    subst hv
    refine ⟨_, rfl, ?_⟩
    have Q1 := Fa.mk (Q.out.row hb ho)
    clear hb ho Q
    refine hK.out _ _ Q1.out.s (fun hHeld => ?_)
    clear hK K
    have Q := Q1
    clear Q1
    refine normU (some 39) ?_
    refine pureU 7 (some 32) #[true, true, true, true, true, true, true, true, false, false, true, false, false] HT_ ?_
    refine pureU 8 (some 40) #[true, true, true, true, true, true, true, true, true, false, true, false, false] HT_ ?_
    refine pureU 9 (some 41) (upto 13 11) HT_ ?_
    exact norm_ (by simp only [putAll, Act.put, List.setIfInBounds_toArray, List.set_cons_zero, List.set_cons_succ]) (hCont ((A13, c13), (A14, c14), gN) _ Q.out)
  ·
   refine box_step ?hg (N := 4) ?hd (cs := #[.int .i64 0, .int .i64 0, .slice none 0 0]) (t := 26) ?hr ?_; (case hd => rfl); (case hg => rfl); (case hr => first | (go_simp; done) | (go_simp; rfl))
   intro gN hg wd15 hx hb
   have Q1 := Fa.mk (Q.out.box hg hb hx)
   clear hg hb hx Q
   refine hK.out _ _ Q1.out.s (fun hHeld => ?_)
   clear hK K
   have Q := Q1
   clear Q1
   refine normU (some 4) ?_
   refine oneU 1 (some 34) #[true, true, false, false, false, false, false, false, false, false, true, false, false] HT_ (fun K hK => ?_)
   refine goes_ Tryz.func41 (by kernel_rfl) rfl #[.int .i64 1, .int .i64 1] (by rfl) rfl rfl (by (try simp only [List.map_toArray, List.map_cons, List.map_nil]); first | done | rfl) ?_
   refine (fleuronlaw08_number.calls 1 1 1 1 _ rfl).mono ?_
   rintro e wd16 ⟨rfl, hb⟩
   refine ⟨_, rfl, ?_⟩
   have Q1 := Fa.mk (Q.out.call hb)
   clear hb Q
   refine hK.out _ _ Q1.out.s (fun hHeld => ?_)
   clear hK K
   have Q := Q1
   clear Q1
   refine normU (some 34) ?_
   refine pureU 2 (some 35) #[true, true, true, false, false, false, false, false, false, false, true, false, false] HT_ ?_
   refine oneU 3 (some 36) #[true, true, true, true, false, false, false, false, false, false, true, false, false] HT_ (fun K hK => ?_)
   refine goes_ Tryz.func41 (by kernel_rfl) rfl #[.int .i64 6, .int .i64 1] (by rfl) rfl rfl (by (try simp only [List.map_toArray, List.map_cons, List.map_nil]); first | done | rfl) ?_
   refine (fleuronlaw08_number.calls 6 1 6 1 _ rfl).mono ?_
   rintro e wd17 ⟨rfl, hb⟩
   refine ⟨_, rfl, ?_⟩
   have Q1 := Fa.mk (Q.out.call hb)
   clear hb Q
   refine hK.out _ _ Q1.out.s (fun hHeld => ?_)
   clear hK K
   have Q := Q1
   clear Q1
   refine normU (some 36) ?_
   refine pureU 4 (some 37) #[true, true, true, true, true, false, false, false, false, false, true, false, false] HT_ ?_
   refine oneU 5 (some 38) #[true, true, true, true, true, true, false, false, false, false, true, false, false] HT_ (fun K hK => ?_)
   refine Kd.R_lit_step k47 _ 47 ?hg (N := 38) ?hd (xs := awL) (inner := [.string (⟨#[120]⟩ : ByteArray), .int .i64 1, .int .i64 1, .string (⟨#[121]⟩ : ByteArray), .int .i64 6, .int .i64 1]) (ok := fun _ => True) (okp := fun _ => True) ?hr ?hp (fun _ hk => hk) trivial (Below.refl _ _) (Nat.le_refl _) (by simp [awF, awL]) ?_; (case hd => rfl); (case hg => rfl); (case hr => first | (go_simp; done) | (go_simp; rfl)); (case hp => exact (Reps.c3 (show Kd.M k47 _ _ _ (⟨(⟨#[120]⟩ : ByteArray), (⟨1, 1⟩ : S23)⟩ : S47) [.string (⟨#[120]⟩ : ByteArray), .int .i64 1, .int .i64 1] from (k47_mkM _ _ _ _)) (Reps.c3 (show Kd.M k47 _ _ _ (⟨(⟨#[121]⟩ : ByteArray), (⟨6, 1⟩ : S23)⟩ : S47) [.string (⟨#[121]⟩ : ByteArray), .int .i64 6, .int .i64 1] from (k47_mkM _ _ _ _)) (Reps.none _ _)))); intro v18 wl18 ho hb hg_ hnew_; clear hg_ hnew_; obtain ⟨A18, c18, hv⟩ := Kd.R_slice ho; subst hv
   have Q1 := Fa.mk (Q.out.row hb ho)
   clear hb ho Q
   refine hK.out _ _ Q1.out.s (fun hHeld => ?_)
   clear hK K
   have Q := Q1
   clear Q1
   refine normU (some 38) ?_
   refine oneU 6 (some 39) #[true, true, true, true, true, true, true, false, false, false, true, false, false] HT_ (fun K hK => ?_)
   refine goes_ Tryz.func28 (by kernel_rfl) rfl #[.agg #[.int .i64 5, .int .i64 1, .slice Af awF.length cf], .slice A18 awL.length c18] (by rfl) rfl rfl (by (try simp only [List.map_toArray, List.map_cons, List.map_nil]); first | done | rfl) ?_
   refine (linear_At.calls k 5 1 Af cf awF A18 c18 awL a1 a2 a3 0 _ (Q.out.s.rd 0 rfl).2.2 (Q.out.s.rd 0 rfl).2.1 (Kd.R_reads' (Q.out.r _ rfl)).2.2 (Kd.R_reads' (Q.out.r _ rfl)).2.1 E2.out).mono ?_
   rintro e wd19 ⟨v19, rfl, ho, hb⟩
   obtain ⟨A19, c19, hv⟩ := Kd.R_slice ho
   subst hv
   refine ⟨_, rfl, ?_⟩
   have Q1 := Fa.mk (Q.out.row hb ho)
   clear hb ho Q
   refine hK.out _ _ Q1.out.s (fun hHeld => ?_)
   clear hK K
   have Q := Q1
   clear Q1
   refine normU (some 39) ?_
   refine pureU 7 (some 32) #[true, true, true, true, true, true, true, true, false, false, true, false, false] HT_ ?_
   refine pureU 8 (some 40) #[true, true, true, true, true, true, true, true, true, false, true, false, false] HT_ ?_
   refine pureU 9 (some 41) (upto 13 11) HT_ ?_
   exact norm_ (by simp only [putAll, Act.put, List.setIfInBounds_toArray, List.set_cons_zero, List.set_cons_succ]) (hCont ((A18, c18), (A19, c19), gN) _ Q.out)
 clear Q hHeld
 rintro ⟨⟨Al, cl⟩, ⟨Aa, ca⟩, ga⟩ wj Q0
 have Q := Fa.mk Q0
 clear Q0
 have hHeld := Q.out.s
 refine norm_ (a' := ?_) ?_ ?_
 rotate_left
 ·
  simp only [putAll, Act.put, List.setIfInBounds_toArray, List.set_cons_zero, List.set_cons_succ]
  rfl
 (try dsimp only at Q)
 have hx := (Q.out.b _ rfl).1
 have co0 := jcell hx (i := 0) rfl
 have co1 := jcell hx (i := 1) rfl
 have co2 := jcell hx (i := 2) rfl
 have fo0 := blk_frozen hx 0
 have fo1 := blk_frozen hx 1
 have fo2 := blk_frozen hx 2
 clear hx
 have S := Fa.mk (Q.out.put a1 a2)
 clear Q
 refine oneU 11 none (upto 13 12) HT_ (fun K hK => ?_)
 refine skip_ (w1 := ?_) (by rfl) rfl ?_ ?_
 rotate_left
 ·
  go_simp
  rfl
 have hS := S.out.tail
 refine hK.out _ _ hS (fun hHeld => ?_)
 clear hK K hS co0 co1 co2 fo0 fo1 fo2
 generalize hW_ : (((wj.setCell ⟨ga, 0, none⟩ (.int .i64 a1)).setCell ⟨ga, 1, none⟩ (.int .i64 a2)).setCell ⟨ga, 2, none⟩ (.slice Aa a3.length ca)) = ww at S hHeld ⊢
 clear hW_ hHeld
 refine pureU 12 (some 5) (upto 13 13) HT_ ?_
 refine done_ (done_of HT_.out (by kernel_rfl)) ?_
 go_upto_region 5 with (first | (go_at_call 26; (with_reducible refine (linear_Var.calls (⟨#[120]⟩ : ByteArray) x1 x2 x3 0 _ E3.out (HG.out.below S.out.below)).mono ?_); rintro e wcx ⟨vx, rfl, ho, hb⟩; obtain ⟨Ax, cx, hv⟩ := Kd.R_slice ho; subst hv; have Q := Fa.mk ((AQ.start S.out).row hb ho); clear ho hb S) | ((with_reducible refine gate_dst (N := 6) rfl ?_); refine boxF (N := 6) (cs := #[.int .i64 0, .int .i64 0, .slice none 0 0]) (t := 26) ?_; intro gx hg wbx hx hb; have S := Fa.mk ((Q.out.box hg hb hx).put x1 x2); have co0 := jcell hx (i := 0) rfl; have co1 := jcell hx (i := 1) rfl; have co2 := jcell hx (i := 2) rfl; have fo0 := blk_frozen hx 0; have fo1 := blk_frozen hx 1; have fo2 := blk_frozen hx 2; clear hg hb hx Q))
 generalize hW_ : (((wbx.setCell ⟨gx, 0, none⟩ (.int .i64 x1)).setCell ⟨gx, 1, none⟩ (.int .i64 x2)).setCell ⟨gx, 2, none⟩ (.slice Ax x3.length cx)) = wwx at S ⊢
 clear hW_ co0 co1 co2 fo0 fo1 fo2
 have cl0_0 := jcell (S.out.get 0 rfl).blk (i := 0) rfl
 have cl0_1 := jcell (S.out.get 0 rfl).blk (i := 1) rfl
 have cl0_2 := jcell (S.out.get 0 rfl).blk (i := 2) rfl
 have rr0 := Fa.mk (S.out.rd 0 rfl)
 go_upto_region 6 with (first | (go_at_call 15; (with_reducible refine (linear_Sub.calls k x1 x2 _ _ x3 x1 x2 _ _ x3 y1 y2 y3 0 _ rr0.out.2.2 rr0.out.2.1 rr0.out.2.2 rr0.out.2.1 E4.out (HG.out.below S.out.below)).mono ?_); rintro e wcy ⟨vy, rfl, ho, hb⟩; obtain ⟨Ay, cy, hv⟩ := Kd.R_slice ho; subst hv; have Q := Fa.mk ((AQ.start S.out).row hb ho); clear ho hb S) | ((with_reducible refine gate_dst (N := 8) rfl ?_); refine boxF (N := 8) (cs := #[.int .i64 0, .int .i64 0, .slice none 0 0]) (t := 26) ?_; intro gy hg wby hx hb; have S := Fa.mk ((Q.out.box hg hb hx).put y1 y2); have co0 := jcell hx (i := 0) rfl; have co1 := jcell hx (i := 1) rfl; have co2 := jcell hx (i := 2) rfl; have fo0 := blk_frozen hx 0; have fo1 := blk_frozen hx 1; have fo2 := blk_frozen hx 2; clear hg hb hx Q))
 clear cl0_0 cl0_1 cl0_2 rr0
 generalize hW_ : (((wby.setCell ⟨gy, 0, none⟩ (.int .i64 y1)).setCell ⟨gy, 1, none⟩ (.int .i64 y2)).setCell ⟨gy, 2, none⟩ (.slice Ay y3.length cy)) = wwy at S ⊢
 clear hW_ co0 co1 co2 fo0 fo1 fo2
 go_upto_region 7 with (first | (go_at_call 32; (with_reducible refine (linear_Parse.calls k (⟨#[45, 120]⟩ : ByteArray) z1 z2 [(⟨zn, (⟨-1, 1⟩ : S23)⟩ : S47)] 0 _ E5.out (HG.out.below S.out.below)).mono ?_); rintro e wcz ⟨vz, rfl, ho, hb⟩; obtain ⟨Az, cz, hv⟩ := Kd.R_slice ho; subst hv; have Q := Fa.mk ((AQ.start S.out).row hb ho); clear ho hb S) | ((with_reducible refine gate_dst (N := 10) rfl ?_); refine boxF (N := 10) (cs := #[.int .i64 0, .int .i64 0, .slice none 0 0]) (t := 26) ?_; intro gz hg wbz hx hb; have S := Fa.mk ((Q.out.box hg hb hx).put z1 z2); have co0 := jcell hx (i := 0) rfl; have co1 := jcell hx (i := 1) rfl; have co2 := jcell hx (i := 2) rfl; have fo0 := blk_frozen hx 0; have fo1 := blk_frozen hx 1; have fo2 := blk_frozen hx 2; clear hg hb hx Q))
 generalize hW_ : (((wbz.setCell ⟨gz, 0, none⟩ (.int .i64 z1)).setCell ⟨gz, 1, none⟩ (.int .i64 z2)).setCell ⟨gz, 2, none⟩ (.slice Az [(⟨zn, (⟨-1, 1⟩ : S23)⟩ : S47)].length cz)) = wwz at S ⊢
 clear hW_ co0 co1 co2 fo0 fo1 fo2
 refine startU 9 (S := AS w [] [(gz, z1, z2, .slice Az [(⟨zn, (⟨-1, 1⟩ : S23)⟩ : S47)].length cz, [(⟨zn, (⟨-1, 1⟩ : S23)⟩ : S47)]), (gy, y1, y2, .slice Ay y3.length cy, y3), (gx, x1, x2, .slice Ax x3.length cx, x3), (ga, a1, a2, .slice Aa a3.length ca, a3), (gf, 5, 1, .slice Af awF.length cf, awF)]) (ds := []) S.out.drew (fun hHeld => ?_); refine with_tabW fleuronlaw08_awake.tab7 fleuronlaw08_awake.bits7 (fun HT_ HW_ => ?_)
 clear S
 generalize World.drew _ = wd at hHeld ⊢
 have Q := Fa.mk (AQ.start hHeld)
 refine takeU 0 (some 57) (upto 9 1) HT_ HW_ hHeld rfl (by intro w' s_; have c0 := jcell (s_.get 2 rfl).blk (i := 0) rfl; have c1 := jcell (s_.get 2 rfl).blk (i := 1) rfl; have c2 := jcell (s_.get 2 rfl).blk (i := 2) rfl; clear s_; go_simp; with_reducible rfl) ?_
 refine join_ (σ := (Option Addr × Nat) × Nat) 2 (upto 9 7) (fun s_ => [(58, .agg #[.int .i64 0, .int .i64 1]), (59, .tuple #[.agg #[.int .i64 l1, .int .i64 l2, .slice s_.1.1 l3.length s_.1.2], .int .i64 18]), (56, .tuple #[.agg #[.int .i64 l1, .int .i64 l2, .slice s_.1.1 l3.length s_.1.2], .int .i64 18]), (60, .agg #[.int .i64 l1, .int .i64 l2, .slice s_.1.1 l3.length s_.1.2]), (61, .int .i64 18), (12, .pointer (some ⟨s_.2, 0, none⟩))]) (fun s_ w' => AQ w [] [(gz, z1, z2, .slice Az [(⟨zn, (⟨-1, 1⟩ : S23)⟩ : S47)].length cz, [(⟨zn, (⟨-1, 1⟩ : S23)⟩ : S47)]), (gy, y1, y2, .slice Ay y3.length cy, y3), (gx, x1, x2, .slice Ax x3.length cx, x3), (ga, a1, a2, .slice Aa a3.length ca, a3), (gf, 5, 1, .slice Af awF.length cf, awF)] (some (.slice s_.1.1 l3.length s_.1.2, l3)) (some s_.2) w') ?_ ?_
 rotate_left
 ·
  intro hCont
  refine two_ (i := 1) (j := 6) (Ni := some 58) (Nj := some 12) (upto 9 2) #[true, false, false, false, false, false, true, false, false] rfl rfl rfl rfl (two_of HT_.out (by kernel_rfl)) (by decide) (by decide) (fun K hK => ?_) (fun K hK => ?_)
  ·
   refine goes_ Tryz.func41 (by kernel_rfl) rfl #[.int .i64 0, .int .i64 1] (by rfl) rfl rfl (by (try simp only [List.map_toArray, List.map_cons, List.map_nil]); first | done | rfl) ?_
   refine (fleuronlaw08_number.calls 0 1 0 1 _ rfl).mono ?_
   rintro e wd20 ⟨rfl, hb⟩
   refine ⟨_, rfl, ?_⟩
   have Q1 := Fa.mk (Q.out.call hb)
   clear hb Q
   refine hK.out _ _ Q1.out.s (fun hHeld => ?_)
   clear hK K
   have Q := Q1
   clear Q1
   refine normU (some 58) ?_
   refine two_ (i := 2) (j := 6) (Ni := some 59) (Nj := some 12) (upto 9 3) #[true, true, false, false, false, false, true, false, false] rfl rfl rfl rfl (two_of HT_.out (by kernel_rfl)) (by decide) (by decide) (fun K hK => ?_) (fun K hK => ?_)
   ·
    refine goes_ Tryz.func22 (by kernel_rfl) rfl #[.agg #[.int .i64 x1, .int .i64 x2, .slice Ax x3.length cx], .agg #[.int .i64 0, .int .i64 1]] (by rfl) rfl rfl (by (try simp only [List.map_toArray, List.map_cons, List.map_nil]); first | done | rfl) ?_
    refine (linear_Over.calls k x1 x2 Ax cx x3 0 1 l1 l2 l3 18 _ (Q.out.s.rd 2 rfl).2.2 (Q.out.s.rd 2 rfl).2.1 E6.out).mono ?_
    rintro e wd21 ⟨v21, rfl, ho, hb⟩
    obtain ⟨A21, c21, hv⟩ := Kd.R_slice ho
    subst hv
    refine ⟨_, rfl, ?_⟩
    have Q1 := Fa.mk (Q.out.row hb ho)
    clear hb ho Q
    refine hK.out _ _ Q1.out.s (fun hHeld => ?_)
    clear hK K
    have Q := Q1
    clear Q1
    refine normU (some 59) ?_
    refine pureU 3 (some 56) (upto 9 4) HT_ ?_
    refine pureU 4 (some 60) (upto 9 5) HT_ ?_
    refine pureU 5 (some 61) (upto 9 6) HT_ ?_
    refine oneU 6 (some 12) (upto 9 7) HT_ (fun K hK => ?_)
    refine box_step ?hg (N := 12) ?hd (cs := #[.int .i64 0, .int .i64 0, .slice none 0 0]) (t := 26) ?hr ?_; (case hd => rfl); (case hg => rfl); (case hr => first | (go_simp; done) | (go_simp; rfl))
    intro gN hg wd22 hx hb
    have Q1 := Fa.mk (Q.out.box hg hb hx)
    clear hg hb hx Q
    refine hK.out _ _ Q1.out.s (fun hHeld => ?_)
    clear hK K
    have Q := Q1
    clear Q1
    refine normU (some 12) ?_
    exact norm_ (by simp only [putAll, Act.put, List.setIfInBounds_toArray, List.set_cons_zero, List.set_cons_succ]) (hCont ((A21, c21), gN) _ Q.out)
   ·
    refine box_step ?hg (N := 12) ?hd (cs := #[.int .i64 0, .int .i64 0, .slice none 0 0]) (t := 26) ?hr ?_; (case hd => rfl); (case hg => rfl); (case hr => first | (go_simp; done) | (go_simp; rfl))
    intro gN hg wd23 hx hb
    have Q1 := Fa.mk (Q.out.box hg hb hx)
    clear hg hb hx Q
    refine hK.out _ _ Q1.out.s (fun hHeld => ?_)
    clear hK K
    have Q := Q1
    clear Q1
    refine normU (some 12) ?_
    refine oneU 2 (some 59) #[true, true, true, false, false, false, true, false, false] HT_ (fun K hK => ?_)
    refine goes_ Tryz.func22 (by kernel_rfl) rfl #[.agg #[.int .i64 x1, .int .i64 x2, .slice Ax x3.length cx], .agg #[.int .i64 0, .int .i64 1]] (by rfl) rfl rfl (by (try simp only [List.map_toArray, List.map_cons, List.map_nil]); first | done | rfl) ?_
    refine (linear_Over.calls k x1 x2 Ax cx x3 0 1 l1 l2 l3 18 _ (Q.out.s.rd 2 rfl).2.2 (Q.out.s.rd 2 rfl).2.1 E6.out).mono ?_
    rintro e wd24 ⟨v24, rfl, ho, hb⟩
    obtain ⟨A24, c24, hv⟩ := Kd.R_slice ho
    subst hv
    refine ⟨_, rfl, ?_⟩
    have Q1 := Fa.mk (Q.out.row hb ho)
    clear hb ho Q
    refine hK.out _ _ Q1.out.s (fun hHeld => ?_)
    clear hK K
    have Q := Q1
    clear Q1
    refine normU (some 59) ?_
    refine pureU 3 (some 56) #[true, true, true, true, false, false, true, false, false] HT_ ?_
    refine pureU 4 (some 60) #[true, true, true, true, true, false, true, false, false] HT_ ?_
    refine pureU 5 (some 61) (upto 9 7) HT_ ?_
    exact norm_ (by simp only [putAll, Act.put, List.setIfInBounds_toArray, List.set_cons_zero, List.set_cons_succ]) (hCont ((A24, c24), gN) _ Q.out)
  ·
   refine box_step ?hg (N := 12) ?hd (cs := #[.int .i64 0, .int .i64 0, .slice none 0 0]) (t := 26) ?hr ?_; (case hd => rfl); (case hg => rfl); (case hr => first | (go_simp; done) | (go_simp; rfl))
   intro gN hg wd25 hx hb
   have Q1 := Fa.mk (Q.out.box hg hb hx)
   clear hg hb hx Q
   refine hK.out _ _ Q1.out.s (fun hHeld => ?_)
   clear hK K
   have Q := Q1
   clear Q1
   refine normU (some 12) ?_
   refine oneU 1 (some 58) #[true, true, false, false, false, false, true, false, false] HT_ (fun K hK => ?_)
   refine goes_ Tryz.func41 (by kernel_rfl) rfl #[.int .i64 0, .int .i64 1] (by rfl) rfl rfl (by (try simp only [List.map_toArray, List.map_cons, List.map_nil]); first | done | rfl) ?_
   refine (fleuronlaw08_number.calls 0 1 0 1 _ rfl).mono ?_
   rintro e wd26 ⟨rfl, hb⟩
   refine ⟨_, rfl, ?_⟩
   have Q1 := Fa.mk (Q.out.call hb)
   clear hb Q
   refine hK.out _ _ Q1.out.s (fun hHeld => ?_)
   clear hK K
   have Q := Q1
   clear Q1
   refine normU (some 58) ?_
   refine oneU 2 (some 59) #[true, true, true, false, false, false, true, false, false] HT_ (fun K hK => ?_)
   refine goes_ Tryz.func22 (by kernel_rfl) rfl #[.agg #[.int .i64 x1, .int .i64 x2, .slice Ax x3.length cx], .agg #[.int .i64 0, .int .i64 1]] (by rfl) rfl rfl (by (try simp only [List.map_toArray, List.map_cons, List.map_nil]); first | done | rfl) ?_
   refine (linear_Over.calls k x1 x2 Ax cx x3 0 1 l1 l2 l3 18 _ (Q.out.s.rd 2 rfl).2.2 (Q.out.s.rd 2 rfl).2.1 E6.out).mono ?_
   rintro e wd27 ⟨v27, rfl, ho, hb⟩
   obtain ⟨A27, c27, hv⟩ := Kd.R_slice ho
   subst hv
   refine ⟨_, rfl, ?_⟩
   have Q1 := Fa.mk (Q.out.row hb ho)
   clear hb ho Q
   refine hK.out _ _ Q1.out.s (fun hHeld => ?_)
   clear hK K
   have Q := Q1
   clear Q1
   refine normU (some 59) ?_
   refine pureU 3 (some 56) #[true, true, true, true, false, false, true, false, false] HT_ ?_
   refine pureU 4 (some 60) #[true, true, true, true, true, false, true, false, false] HT_ ?_
   refine pureU 5 (some 61) (upto 9 7) HT_ ?_
   exact norm_ (by simp only [putAll, Act.put, List.setIfInBounds_toArray, List.set_cons_zero, List.set_cons_succ]) (hCont ((A27, c27), gN) _ Q.out)
 clear Q hHeld
 rintro ⟨⟨Al, cl⟩, gl⟩ wj Q0
 have Q := Fa.mk Q0
 clear Q0
 have hHeld := Q.out.s
 refine norm_ (a' := ?_) ?_ ?_
 rotate_left
 ·
  simp only [putAll, Act.put, List.setIfInBounds_toArray, List.set_cons_zero, List.set_cons_succ]
  rfl
 (try dsimp only at Q)
 have hx := (Q.out.b _ rfl).1
 have co0 := jcell hx (i := 0) rfl
 have co1 := jcell hx (i := 1) rfl
 have co2 := jcell hx (i := 2) rfl
 have fo0 := blk_frozen hx 0
 have fo1 := blk_frozen hx 1
 have fo2 := blk_frozen hx 2
 clear hx
 have S := Fa.mk (Q.out.put l1 l2)
 clear Q
 refine oneU 7 none (upto 9 8) HT_ (fun K hK => ?_)
 refine skip_ (w1 := ?_) (by rfl) rfl ?_ ?_
 rotate_left
 ·
  go_simp
  rfl
 have hS := S.out.tail
 refine hK.out _ _ hS (fun hHeld => ?_)
 clear hK K hS co0 co1 co2 fo0 fo1 fo2
 generalize hW_ : (((wj.setCell ⟨gl, 0, none⟩ (.int .i64 l1)).setCell ⟨gl, 1, none⟩ (.int .i64 l2)).setCell ⟨gl, 2, none⟩ (.slice Al l3.length cl)) = ww at S hHeld ⊢
 clear hW_ hHeld
 refine pureU 8 (some 13) (upto 9 9) HT_ ?_
 refine done_ (done_of HT_.out (by kernel_rfl)) ?_
 have cl3_0 := jcell (S.out.get 3 rfl).blk (i := 0) rfl
 have cl3_1 := jcell (S.out.get 3 rfl).blk (i := 1) rfl
 have cl3_2 := jcell (S.out.get 3 rfl).blk (i := 2) rfl
 have rr3 := Fa.mk (S.out.rd 3 rfl)
 go_upto_region 9 with (first | (go_at_call 13; (with_reducible refine (linear_Add.calls k x1 x2 _ _ x3 x1 x2 _ _ x3 m1 m2 m3 0 _ rr3.out.2.2 rr3.out.2.1 rr3.out.2.2 rr3.out.2.1 E7.out (HG.out.below S.out.below)).mono ?_); rintro e wcm ⟨vm, rfl, ho, hb⟩; obtain ⟨Am, cm, hv⟩ := Kd.R_slice ho; subst hv; have Q := Fa.mk ((AQ.start S.out).row hb ho); clear ho hb S) | ((with_reducible refine gate_dst (N := 14) rfl ?_); refine boxF (N := 14) (cs := #[.int .i64 0, .int .i64 0, .slice none 0 0]) (t := 26) ?_; intro gm hg wbm hx hb; have S := Fa.mk ((Q.out.box hg hb hx).put m1 m2); have co0 := jcell hx (i := 0) rfl; have co1 := jcell hx (i := 1) rfl; have co2 := jcell hx (i := 2) rfl; have fo0 := blk_frozen hx 0; have fo1 := blk_frozen hx 1; have fo2 := blk_frozen hx 2; clear hg hb hx Q))
 clear cl3_0 cl3_1 cl3_2 rr3
 generalize hW_ : (((wbm.setCell ⟨gm, 0, none⟩ (.int .i64 m1)).setCell ⟨gm, 1, none⟩ (.int .i64 m2)).setCell ⟨gm, 2, none⟩ (.slice Am m3.length cm)) = wwm at S ⊢
 clear hW_ co0 co1 co2 fo0 fo1 fo2
 refine startU 9 (S := AS w [] [(gm, m1, m2, .slice Am m3.length cm, m3), (gl, l1, l2, .slice Al l3.length cl, l3), (gz, z1, z2, .slice Az [(⟨zn, (⟨-1, 1⟩ : S23)⟩ : S47)].length cz, [(⟨zn, (⟨-1, 1⟩ : S23)⟩ : S47)]), (gy, y1, y2, .slice Ay y3.length cy, y3), (gx, x1, x2, .slice Ax x3.length cx, x3), (ga, a1, a2, .slice Aa a3.length ca, a3), (gf, 5, 1, .slice Af awF.length cf, awF)]) (ds := []) S.out.drew (fun hHeld => ?_); refine with_tabW fleuronlaw08_awake.tab9 fleuronlaw08_awake.bits9 (fun HT_ HW_ => ?_)
 clear S
 generalize World.drew _ = wd at hHeld ⊢
 have Q := Fa.mk (AQ.start hHeld)
 refine takeU 0 (some 69) (upto 9 1) HT_ HW_ hHeld rfl (by intro w' s_; have c0 := jcell (s_.get 4 rfl).blk (i := 0) rfl; have c1 := jcell (s_.get 4 rfl).blk (i := 1) rfl; have c2 := jcell (s_.get 4 rfl).blk (i := 2) rfl; clear s_; go_simp; with_reducible rfl) ?_
 refine join_ (σ := (Option Addr × Nat) × Nat) 2 (upto 9 7) (fun s_ => [(70, .agg #[.int .i64 2, .int .i64 1]), (71, .tuple #[.agg #[.int .i64 o1, .int .i64 o2, .slice s_.1.1 o3.length s_.1.2], .int .i64 0]), (68, .tuple #[.agg #[.int .i64 o1, .int .i64 o2, .slice s_.1.1 o3.length s_.1.2], .int .i64 0]), (72, .agg #[.int .i64 o1, .int .i64 o2, .slice s_.1.1 o3.length s_.1.2]), (73, .int .i64 0), (16, .pointer (some ⟨s_.2, 0, none⟩))]) (fun s_ w' => AQ w [] [(gm, m1, m2, .slice Am m3.length cm, m3), (gl, l1, l2, .slice Al l3.length cl, l3), (gz, z1, z2, .slice Az [(⟨zn, (⟨-1, 1⟩ : S23)⟩ : S47)].length cz, [(⟨zn, (⟨-1, 1⟩ : S23)⟩ : S47)]), (gy, y1, y2, .slice Ay y3.length cy, y3), (gx, x1, x2, .slice Ax x3.length cx, x3), (ga, a1, a2, .slice Aa a3.length ca, a3), (gf, 5, 1, .slice Af awF.length cf, awF)] (some (.slice s_.1.1 o3.length s_.1.2, o3)) (some s_.2) w') ?_ ?_
 rotate_left
 ·
  intro hCont
  refine two_ (i := 1) (j := 6) (Ni := some 70) (Nj := some 16) (upto 9 2) #[true, false, false, false, false, false, true, false, false] rfl rfl rfl rfl (two_of HT_.out (by kernel_rfl)) (by decide) (by decide) (fun K hK => ?_) (fun K hK => ?_)
  ·
   refine goes_ Tryz.func41 (by kernel_rfl) rfl #[.int .i64 2, .int .i64 1] (by rfl) rfl rfl (by (try simp only [List.map_toArray, List.map_cons, List.map_nil]); first | done | rfl) ?_
   refine (fleuronlaw08_number.calls 2 1 2 1 _ rfl).mono ?_
   rintro e wd28 ⟨rfl, hb⟩
   refine ⟨_, rfl, ?_⟩
   have Q1 := Fa.mk (Q.out.call hb)
   clear hb Q
   refine hK.out _ _ Q1.out.s (fun hHeld => ?_)
   clear hK K
   have Q := Q1
   clear Q1
   refine normU (some 70) ?_
   refine two_ (i := 2) (j := 6) (Ni := some 71) (Nj := some 16) (upto 9 3) #[true, true, false, false, false, false, true, false, false] rfl rfl rfl rfl (two_of HT_.out (by kernel_rfl)) (by decide) (by decide) (fun K hK => ?_) (fun K hK => ?_)
   ·
    refine goes_ Tryz.func20 (by kernel_rfl) rfl #[.agg #[.int .i64 x1, .int .i64 x2, .slice Ax x3.length cx], .agg #[.int .i64 2, .int .i64 1]] (by rfl) rfl rfl (by (try simp only [List.map_toArray, List.map_cons, List.map_nil]); first | done | rfl) ?_
    refine (linear_Times.calls k x1 x2 Ax cx x3 2 1 o1 o2 o3 0 _ (Q.out.s.rd 4 rfl).2.2 (Q.out.s.rd 4 rfl).2.1 E8.out).mono ?_
    rintro e wd29 ⟨v29, rfl, ho, hb⟩
    obtain ⟨A29, c29, hv⟩ := Kd.R_slice ho
    subst hv
    refine ⟨_, rfl, ?_⟩
    have Q1 := Fa.mk (Q.out.row hb ho)
    clear hb ho Q
    refine hK.out _ _ Q1.out.s (fun hHeld => ?_)
    clear hK K
    have Q := Q1
    clear Q1
    refine normU (some 71) ?_
    refine pureU 3 (some 68) (upto 9 4) HT_ ?_
    refine pureU 4 (some 72) (upto 9 5) HT_ ?_
    refine pureU 5 (some 73) (upto 9 6) HT_ ?_
    refine oneU 6 (some 16) (upto 9 7) HT_ (fun K hK => ?_)
    refine box_step ?hg (N := 16) ?hd (cs := #[.int .i64 0, .int .i64 0, .slice none 0 0]) (t := 26) ?hr ?_; (case hd => rfl); (case hg => rfl); (case hr => first | (go_simp; done) | (go_simp; rfl))
    intro gN hg wd30 hx hb
    have Q1 := Fa.mk (Q.out.box hg hb hx)
    clear hg hb hx Q
    refine hK.out _ _ Q1.out.s (fun hHeld => ?_)
    clear hK K
    have Q := Q1
    clear Q1
    refine normU (some 16) ?_
    exact norm_ (by simp only [putAll, Act.put, List.setIfInBounds_toArray, List.set_cons_zero, List.set_cons_succ]) (hCont ((A29, c29), gN) _ Q.out)
   ·
    refine box_step ?hg (N := 16) ?hd (cs := #[.int .i64 0, .int .i64 0, .slice none 0 0]) (t := 26) ?hr ?_; (case hd => rfl); (case hg => rfl); (case hr => first | (go_simp; done) | (go_simp; rfl))
    intro gN hg wd31 hx hb
    have Q1 := Fa.mk (Q.out.box hg hb hx)
    clear hg hb hx Q
    refine hK.out _ _ Q1.out.s (fun hHeld => ?_)
    clear hK K
    have Q := Q1
    clear Q1
    refine normU (some 16) ?_
    refine oneU 2 (some 71) #[true, true, true, false, false, false, true, false, false] HT_ (fun K hK => ?_)
    refine goes_ Tryz.func20 (by kernel_rfl) rfl #[.agg #[.int .i64 x1, .int .i64 x2, .slice Ax x3.length cx], .agg #[.int .i64 2, .int .i64 1]] (by rfl) rfl rfl (by (try simp only [List.map_toArray, List.map_cons, List.map_nil]); first | done | rfl) ?_
    refine (linear_Times.calls k x1 x2 Ax cx x3 2 1 o1 o2 o3 0 _ (Q.out.s.rd 4 rfl).2.2 (Q.out.s.rd 4 rfl).2.1 E8.out).mono ?_
    rintro e wd32 ⟨v32, rfl, ho, hb⟩
    obtain ⟨A32, c32, hv⟩ := Kd.R_slice ho
    subst hv
    refine ⟨_, rfl, ?_⟩
    have Q1 := Fa.mk (Q.out.row hb ho)
    clear hb ho Q
    refine hK.out _ _ Q1.out.s (fun hHeld => ?_)
    clear hK K
    have Q := Q1
    clear Q1
    refine normU (some 71) ?_
    refine pureU 3 (some 68) #[true, true, true, true, false, false, true, false, false] HT_ ?_
    refine pureU 4 (some 72) #[true, true, true, true, true, false, true, false, false] HT_ ?_
    refine pureU 5 (some 73) (upto 9 7) HT_ ?_
    exact norm_ (by simp only [putAll, Act.put, List.setIfInBounds_toArray, List.set_cons_zero, List.set_cons_succ]) (hCont ((A32, c32), gN) _ Q.out)
  ·
   refine box_step ?hg (N := 16) ?hd (cs := #[.int .i64 0, .int .i64 0, .slice none 0 0]) (t := 26) ?hr ?_; (case hd => rfl); (case hg => rfl); (case hr => first | (go_simp; done) | (go_simp; rfl))
   intro gN hg wd33 hx hb
   have Q1 := Fa.mk (Q.out.box hg hb hx)
   clear hg hb hx Q
   refine hK.out _ _ Q1.out.s (fun hHeld => ?_)
   clear hK K
   have Q := Q1
   clear Q1
   refine normU (some 16) ?_
   refine oneU 1 (some 70) #[true, true, false, false, false, false, true, false, false] HT_ (fun K hK => ?_)
   refine goes_ Tryz.func41 (by kernel_rfl) rfl #[.int .i64 2, .int .i64 1] (by rfl) rfl rfl (by (try simp only [List.map_toArray, List.map_cons, List.map_nil]); first | done | rfl) ?_
   refine (fleuronlaw08_number.calls 2 1 2 1 _ rfl).mono ?_
   rintro e wd34 ⟨rfl, hb⟩
   refine ⟨_, rfl, ?_⟩
   have Q1 := Fa.mk (Q.out.call hb)
   clear hb Q
   refine hK.out _ _ Q1.out.s (fun hHeld => ?_)
   clear hK K
   have Q := Q1
   clear Q1
   refine normU (some 70) ?_
   refine oneU 2 (some 71) #[true, true, true, false, false, false, true, false, false] HT_ (fun K hK => ?_)
   refine goes_ Tryz.func20 (by kernel_rfl) rfl #[.agg #[.int .i64 x1, .int .i64 x2, .slice Ax x3.length cx], .agg #[.int .i64 2, .int .i64 1]] (by rfl) rfl rfl (by (try simp only [List.map_toArray, List.map_cons, List.map_nil]); first | done | rfl) ?_
   refine (linear_Times.calls k x1 x2 Ax cx x3 2 1 o1 o2 o3 0 _ (Q.out.s.rd 4 rfl).2.2 (Q.out.s.rd 4 rfl).2.1 E8.out).mono ?_
   rintro e wd35 ⟨v35, rfl, ho, hb⟩
   obtain ⟨A35, c35, hv⟩ := Kd.R_slice ho
   subst hv
   refine ⟨_, rfl, ?_⟩
   have Q1 := Fa.mk (Q.out.row hb ho)
   clear hb ho Q
   refine hK.out _ _ Q1.out.s (fun hHeld => ?_)
   clear hK K
   have Q := Q1
   clear Q1
   refine normU (some 71) ?_
   refine pureU 3 (some 68) #[true, true, true, true, false, false, true, false, false] HT_ ?_
   refine pureU 4 (some 72) #[true, true, true, true, true, false, true, false, false] HT_ ?_
   refine pureU 5 (some 73) (upto 9 7) HT_ ?_
   exact norm_ (by simp only [putAll, Act.put, List.setIfInBounds_toArray, List.set_cons_zero, List.set_cons_succ]) (hCont ((A35, c35), gN) _ Q.out)
 clear Q hHeld
 rintro ⟨⟨Ao, co⟩, go⟩ wj Q0
 have Q := Fa.mk Q0
 clear Q0
 have hHeld := Q.out.s
 refine norm_ (a' := ?_) ?_ ?_
 rotate_left
 ·
  simp only [putAll, Act.put, List.setIfInBounds_toArray, List.set_cons_zero, List.set_cons_succ]
  rfl
 (try dsimp only at Q)
 have hx := (Q.out.b _ rfl).1
 have co0 := jcell hx (i := 0) rfl
 have co1 := jcell hx (i := 1) rfl
 have co2 := jcell hx (i := 2) rfl
 have fo0 := blk_frozen hx 0
 have fo1 := blk_frozen hx 1
 have fo2 := blk_frozen hx 2
 clear hx
 have S := Fa.mk (Q.out.put o1 o2)
 clear Q
 refine oneU 7 none (upto 9 8) HT_ (fun K hK => ?_)
 refine skip_ (w1 := ?_) (by rfl) rfl ?_ ?_
 rotate_left
 ·
  go_simp
  rfl
 have hS := S.out.tail
 refine hK.out _ _ hS (fun hHeld => ?_)
 clear hK K hS co0 co1 co2 fo0 fo1 fo2
 generalize hW_ : (((wj.setCell ⟨go, 0, none⟩ (.int .i64 o1)).setCell ⟨go, 1, none⟩ (.int .i64 o2)).setCell ⟨go, 2, none⟩ (.slice Ao o3.length co)) = ww at S hHeld ⊢
 clear hW_ hHeld
 refine pureU 8 (some 17) (upto 9 9) HT_ ?_
 refine done_ (done_of HT_.out (by kernel_rfl)) ?_
 go_upto_region 11 with (first | (have _t := tok4; go_at_call 41; (with_reducible refine (fleuronlaw08_number.calls 1 2 1 2 _ rfl).mono ?_); rintro e wn4 ⟨rfl, hb⟩; clear tok4; have S1 := Fa.mk (S.out.call hb); clear hb S; have S := S1; clear S1) | (go_at_call 24; (with_reducible refine (linear_Of.calls k 1 2 1 2 q3 0 _ E9.out).mono ?_); rintro e wcq ⟨vq, rfl, ho, hb⟩; obtain ⟨Aq, cq, hv⟩ := Kd.R_slice ho; subst hv; have Q := Fa.mk ((AQ.start S.out).row hb ho); clear ho hb S) | ((with_reducible refine gate_dst (N := 18) rfl ?_); refine boxF (N := 18) (cs := #[.int .i64 0, .int .i64 0, .slice none 0 0]) (t := 26) ?_; intro gq hg wbq hx hb; have S := Fa.mk ((Q.out.box hg hb hx).put 1 2); have co0 := jcell hx (i := 0) rfl; have co1 := jcell hx (i := 1) rfl; have co2 := jcell hx (i := 2) rfl; have fo0 := blk_frozen hx 0; have fo1 := blk_frozen hx 1; have fo2 := blk_frozen hx 2; clear hg hb hx Q))
 generalize hW_ : (((wbq.setCell ⟨gq, 0, none⟩ (.int .i64 1)).setCell ⟨gq, 1, none⟩ (.int .i64 2)).setCell ⟨gq, 2, none⟩ (.slice Aq q3.length cq)) = wwq at S ⊢
 clear hW_ co0 co1 co2 fo0 fo1 fo2
 obtain ⟨ad, hAz⟩ : ∃ ad, Az = some ad := zat1 S.out 4 rfl
 subst hAz
 have c1 := CS.out
 have c1b := eq_true c1
 refine startU 81 (S := AS w [] [(gq, 1, 2, .slice Aq q3.length cq, q3), (go, o1, o2, .slice Ao o3.length co, o3), (gm, m1, m2, .slice Am m3.length cm, m3), (gl, l1, l2, .slice Al l3.length cl, l3), (gz, z1, z2, .slice (some ad) [(⟨zn, (⟨-1, 1⟩ : S23)⟩ : S47)].length cz, [(⟨zn, (⟨-1, 1⟩ : S23)⟩ : S47)]), (gy, y1, y2, .slice Ay y3.length cy, y3), (gx, x1, x2, .slice Ax x3.length cx, x3), (ga, a1, a2, .slice Aa a3.length ca, a3), (gf, 5, 1, .slice Af awF.length cf, awF)]) (ds := []) S.out.drew (fun hHeld => ?_); refine with_tabW fleuronlaw08_awake.tab11 fleuronlaw08_awake.bits11 (fun HT_ HW_ => ?_)
 clear S
 generalize World.drew _ = wd at hHeld ⊢
 refine pureU 0 (some 79) (upto 81 1) HT_ ?_
 refine pureU 1 (some 80) (upto 81 2) HT_ ?_
 refine pureU 2 (some 81) (upto 81 3) HT_ ?_
 clear c1 c1b
 refine pureU 3 (some 82) (upto 81 4) HT_ ?_
 refine pureU 4 (some 83) (upto 81 5) HT_ ?_
 refine pureU 5 (some 84) (upto 81 6) HT_ ?_
 refine pureU 6 (some 85) (upto 81 7) HT_ ?_
 refine takeU 7 (some 86) (upto 81 8) HT_ HW_ hHeld rfl (by intro w' s_; have c0 := jcell (s_.get 7 rfl).blk (i := 0) rfl; have c1 := jcell (s_.get 7 rfl).blk (i := 1) rfl; have c2 := jcell (s_.get 7 rfl).blk (i := 2) rfl; clear s_; go_simp; with_reducible rfl) ?_
 refine oneU 8 (some 87) (upto 81 9) HT_ (fun K hK => ?_)
 refine goes_ Tryz.func41 (by kernel_rfl) rfl #[.int .i64 5, .int .i64 1] (by rfl) rfl rfl (by (try simp only [List.map_toArray, List.map_cons, List.map_nil]); first | done | rfl) ?_
 refine (fleuronlaw08_number.calls 5 1 5 1 _ rfl).mono ?_
 rintro e w8 ⟨rfl, hb⟩
 refine ⟨_, rfl, ?_⟩
 refine hK.out _ _ (hHeld.call hb) (fun hHeld1 => ?_)
 clear hK K hb hHeld
 have hHeld := hHeld1
 clear hHeld1
 refine normU (some 87) ?_
 refine pureU 9 (some 88) (upto 81 10) HT_ ?_
 refine oneU 10 (some 89) (upto 81 11) HT_ (fun K hK => ?_)
 refine goes_ Tryz.func19 (by kernel_rfl) rfl #[.agg #[.int .i64 a1, .int .i64 a2, .slice Aa a3.length ca], .agg #[.int .i64 5, .int .i64 1, .slice none 0 0]] (by rfl) rfl rfl (by (try simp only [List.map_toArray, List.map_cons, List.map_nil]); first | done | rfl) ?_
 refine (fleuronref08_Same.calls k a1 a2 Aa ca a3 5 1 none 0 [] true _ (hHeld.rd 7 rfl).2.2 (hHeld.rd 7 rfl).2.1 (Kd.R_reads' (Kd.R_nil k47 47 _ 0 (fun _ => True))).2.2 (Nat.le_refl _) E10.out).mono ?_
 rintro e w10 ⟨rfl, hb⟩
 refine ⟨_, rfl, ?_⟩
 refine hK.out _ _ (hHeld.call hb) (fun hHeld1 => ?_)
 clear hK K hb hHeld
 have hHeld := hHeld1
 clear hHeld1
 refine normU (some 89) ?_
 refine pureU 11 (some 90) (upto 81 12) HT_ ?_
 refine pureU 12 (some 91) (upto 81 13) HT_ ?_
 refine pureU 13 (some 92) (upto 81 14) HT_ ?_
 refine pureU 14 (some 93) (upto 81 15) HT_ ?_
 refine pureU 15 (some 94) (upto 81 16) HT_ ?_
 refine pureU 16 (some 95) (upto 81 17) HT_ ?_
 refine pureU 17 (some 96) (upto 81 18) HT_ ?_
 refine pureU 18 (some 97) (upto 81 19) HT_ ?_
 refine pureU 19 (some 98) (upto 81 20) HT_ ?_
 refine pureU 20 (some 99) (upto 81 21) HT_ ?_
 refine takeU 21 (some 100) (upto 81 22) HT_ HW_ hHeld rfl (by intro w' s_; have c0 := jcell (s_.get 5 rfl).blk (i := 0) rfl; have c1 := jcell (s_.get 5 rfl).blk (i := 1) rfl; have c2 := jcell (s_.get 5 rfl).blk (i := 2) rfl; clear s_; go_simp; with_reducible rfl) ?_
 refine oneU 22 (some 101) (upto 81 23) HT_ (fun K hK => ?_)
 refine goes_ Tryz.func41 (by kernel_rfl) rfl #[.int .i64 0, .int .i64 1] (by rfl) rfl rfl (by (try simp only [List.map_toArray, List.map_cons, List.map_nil]); first | done | rfl) ?_
 refine (fleuronlaw08_number.calls 0 1 0 1 _ rfl).mono ?_
 rintro e w22 ⟨rfl, hb⟩
 refine ⟨_, rfl, ?_⟩
 refine hK.out _ _ (hHeld.call hb) (fun hHeld1 => ?_)
 clear hK K hb hHeld
 have hHeld := hHeld1
 clear hHeld1
 refine normU (some 101) ?_
 refine pureU 23 (some 102) (upto 81 24) HT_ ?_
 refine oneU 24 (some 103) (upto 81 25) HT_ (fun K hK => ?_)
 refine goes_ Tryz.func19 (by kernel_rfl) rfl #[.agg #[.int .i64 y1, .int .i64 y2, .slice Ay y3.length cy], .agg #[.int .i64 0, .int .i64 1, .slice none 0 0]] (by rfl) rfl rfl (by (try simp only [List.map_toArray, List.map_cons, List.map_nil]); first | done | rfl) ?_
 refine (fleuronref08_Same.calls k y1 y2 Ay cy y3 0 1 none 0 [] true _ (hHeld.rd 5 rfl).2.2 (hHeld.rd 5 rfl).2.1 (Kd.R_reads' (Kd.R_nil k47 47 _ 0 (fun _ => True))).2.2 (Nat.le_refl _) E11.out).mono ?_
 rintro e w24 ⟨rfl, hb⟩
 refine ⟨_, rfl, ?_⟩
 refine hK.out _ _ (hHeld.call hb) (fun hHeld1 => ?_)
 clear hK K hb hHeld
 have hHeld := hHeld1
 clear hHeld1
 refine normU (some 103) ?_
 refine pureU 25 (some 104) (upto 81 26) HT_ ?_
 refine pureU 26 (some 105) (upto 81 27) HT_ ?_
 refine pureU 27 (some 106) (upto 81 28) HT_ ?_
 refine pureU 28 (some 107) (upto 81 29) HT_ ?_
 refine pureU 29 (some 108) (upto 81 30) HT_ ?_
 refine pureU 30 (some 109) (upto 81 31) HT_ ?_
 refine pureU 31 (some 110) (upto 81 32) HT_ ?_
 refine takeU 32 (some 111) (upto 81 33) HT_ HW_ hHeld rfl (by intro w' s_; have c0 := jcell (s_.get 4 rfl).blk (i := 2) rfl; clear s_; go_simp; with_reducible rfl) ?_
 refine pureU 33 (some 112) (upto 81 34) HT_ ?_
 refine pureU 34 (some 113) (upto 81 35) HT_ ?_
 refine pureU 35 (some 114) (upto 81 36) HT_ ?_
 refine pureU 36 (some 115) (upto 81 37) HT_ ?_
 refine pureU 37 (some 116) (upto 81 38) HT_ ?_
 refine takeU 38 (some 117) (upto 81 39) HT_ HW_ hHeld rfl (by intro w' s_; have c0 := jcell (s_.get 4 rfl).blk (i := 2) rfl; clear s_; go_simp; with_reducible rfl) ?_
 refine pureU 39 (some 118) (upto 81 40) HT_ ?_
 refine pureU 40 (some 119) (upto 81 41) HT_ ?_
 refine takeU 41 (some 120) (upto 81 42) HT_ HW_ hHeld rfl (by intro w' s_; obtain ⟨c1, c2⟩ := zat2 s_ 4 rfl; clear s_; go_simp; with_reducible rfl) ?_
 refine oneU 42 (some 121) (upto 81 43) HT_ (fun K hK => ?_)
 refine goes_ Tryz.func41 (by kernel_rfl) rfl #[.int .i64 (-1), .int .i64 1] (by rfl) rfl rfl (by (try simp only [List.map_toArray, List.map_cons, List.map_nil]); first | done | rfl) ?_
 refine (fleuronlaw08_number.calls (-1) 1 (-1) 1 _ rfl).mono ?_
 rintro e w42 ⟨rfl, hb⟩
 refine ⟨_, rfl, ?_⟩
 refine hK.out _ _ (hHeld.call hb) (fun hHeld1 => ?_)
 clear hK K hb hHeld
 have hHeld := hHeld1
 clear hHeld1
 refine normU (some 121) ?_
 refine pureU 43 (some 122) (upto 81 44) HT_ ?_
 refine pureU 44 (some 123) (upto 81 45) HT_ ?_
 refine pureU 45 (some 124) (upto 81 46) HT_ ?_
 refine pureU 46 (some 125) (upto 81 47) HT_ ?_
 refine pureU 47 (some 126) (upto 81 48) HT_ ?_
 refine pureU 48 (some 127) (upto 81 49) HT_ ?_
 refine pureU 49 (some 128) (upto 81 50) HT_ ?_
 refine pureU 50 (some 129) (upto 81 51) HT_ ?_
 refine pureU 51 (some 130) (upto 81 52) HT_ ?_
 refine pureU 52 (some 131) (upto 81 53) HT_ ?_
 refine pureU 53 (some 132) (upto 81 54) HT_ ?_
 refine takeU 54 (some 133) (upto 81 55) HT_ HW_ hHeld rfl (by intro w' s_; have c0 := jcell (s_.get 2 rfl).blk (i := 0) rfl; have c1 := jcell (s_.get 2 rfl).blk (i := 1) rfl; have c2 := jcell (s_.get 2 rfl).blk (i := 2) rfl; clear s_; go_simp; with_reducible rfl) ?_
 refine takeU 55 (some 134) (upto 81 56) HT_ HW_ hHeld rfl (by intro w' s_; have c0 := jcell (s_.get 1 rfl).blk (i := 0) rfl; have c1 := jcell (s_.get 1 rfl).blk (i := 1) rfl; have c2 := jcell (s_.get 1 rfl).blk (i := 2) rfl; clear s_; go_simp; with_reducible rfl) ?_
 refine oneU 56 (some 135) (upto 81 57) HT_ (fun K hK => ?_)
 refine goes_ Tryz.func19 (by kernel_rfl) rfl #[.agg #[.int .i64 m1, .int .i64 m2, .slice Am m3.length cm], .agg #[.int .i64 o1, .int .i64 o2, .slice Ao o3.length co]] (by rfl) rfl rfl (by (try simp only [List.map_toArray, List.map_cons, List.map_nil]); first | done | rfl) ?_
 refine (fleuronref08_Same.calls k m1 m2 Am cm m3 o1 o2 Ao co o3 true _ (hHeld.rd 2 rfl).2.2 (hHeld.rd 2 rfl).2.1 (hHeld.rd 1 rfl).2.2 (hHeld.rd 1 rfl).2.1 E12.out).mono ?_
 rintro e w56 ⟨rfl, hb⟩
 refine ⟨_, rfl, ?_⟩
 refine hK.out _ _ (hHeld.call hb) (fun hHeld1 => ?_)
 clear hK K hb hHeld
 have hHeld := hHeld1
 clear hHeld1
 refine normU (some 135) ?_
 refine pureU 57 (some 136) (upto 81 58) HT_ ?_
 refine pureU 58 (some 137) (upto 81 59) HT_ ?_
 refine pureU 59 (some 138) (upto 81 60) HT_ ?_
 refine pureU 60 (some 139) (upto 81 61) HT_ ?_
 refine pureU 61 (some 140) (upto 81 62) HT_ ?_
 refine pureU 62 (some 141) (upto 81 63) HT_ ?_
 refine pureU 63 (some 142) (upto 81 64) HT_ ?_
 refine pureU 64 (some 143) (upto 81 65) HT_ ?_
 refine pureU 65 (some 144) (upto 81 66) HT_ ?_
 refine pureU 66 (some 145) (upto 81 67) HT_ ?_
 refine pureU 67 (some 146) (upto 81 68) HT_ ?_
 refine takeU 68 (some 147) (upto 81 69) HT_ HW_ hHeld rfl (by intro w' s_; have c0 := jcell (s_.get 0 rfl).blk (i := 0) rfl; have c1 := jcell (s_.get 0 rfl).blk (i := 1) rfl; clear s_; go_simp; with_reducible rfl) ?_
 refine oneU 69 (some 148) (upto 81 70) HT_ (fun K hK => ?_)
 refine goes_ Tryz.func41 (by kernel_rfl) rfl #[.int .i64 1, .int .i64 2] (by rfl) rfl rfl (by (try simp only [List.map_toArray, List.map_cons, List.map_nil]); first | done | rfl) ?_
 refine (fleuronlaw08_number.calls 1 2 1 2 _ rfl).mono ?_
 rintro e w69 ⟨rfl, hb⟩
 refine ⟨_, rfl, ?_⟩
 refine hK.out _ _ (hHeld.call hb) (fun hHeld1 => ?_)
 clear hK K hb hHeld
 have hHeld := hHeld1
 clear hHeld1
 refine normU (some 148) ?_
 refine pureU 70 (some 149) (upto 81 71) HT_ ?_
 refine pureU 71 (some 150) (upto 81 72) HT_ ?_
 refine pureU 72 (some 151) (upto 81 73) HT_ ?_
 refine pureU 73 (some 152) (upto 81 74) HT_ ?_
 refine pureU 74 (some 153) (upto 81 75) HT_ ?_
 refine pureU 75 (some 154) (upto 81 76) HT_ ?_
 refine pureU 76 (some 155) (upto 81 77) HT_ ?_
 refine takeU 77 (some 156) (upto 81 78) HT_ HW_ hHeld rfl (by intro w' s_; have c0 := jcell (s_.get 8 rfl).blk (i := 0) rfl; have c1 := jcell (s_.get 8 rfl).blk (i := 1) rfl; have c2 := jcell (s_.get 8 rfl).blk (i := 2) rfl; clear s_; go_simp; with_reducible rfl) ?_
 refine oneU 78 (some 157) (upto 81 79) HT_ (fun K hK => ?_)
 refine goes_ Tryz.func17 (by kernel_rfl) rfl #[.agg #[.int .i64 5, .int .i64 1, .slice Af awF.length cf]] (by rfl) rfl rfl (by (try simp only [List.map_toArray, List.map_cons, List.map_nil]); first | done | rfl) ?_
 refine (linear_Valid.calls k 5 1 Af cf awF v _ (hHeld.rd 8 rfl).2.2 (hHeld.rd 8 rfl).2.1 E13.out).mono ?_
 rintro e w78 ⟨rfl, hb⟩
 refine ⟨_, rfl, ?_⟩
 refine hK.out _ _ (hHeld.call hb) (fun hHeld1 => ?_)
 clear hK K hb hHeld
 have hHeld := hHeld1
 clear hHeld1
 refine normU (some 157) ?_
 refine pureU 79 (some 158) (upto 81 80) HT_ ?_
 refine pureU 80 (some 0) (upto 81 81) HT_ ?_
 refine done_ (done_of HT_.out (by kernel_rfl)) ?_
 go_wp2
 go_ret
 exact ⟨rfl, hHeld.1⟩
end Go.Proofs.YtilamkcpbibnmaaGreatDoor.P
