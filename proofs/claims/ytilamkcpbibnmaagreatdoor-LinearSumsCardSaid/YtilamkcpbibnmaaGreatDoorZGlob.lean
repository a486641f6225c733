import Derived.Test.YtilamkcpbibnmaaGreatDoorZShelf
import Derived.Below
import Derived.WalkKit
import Derived.KernelRfl
import Derived.Test.YtilamkcpbibnmaaGreatDoorZWords
import Derived.Lib.AppendIntMem
import Derived.Lib.ParseIntB
namespace Go.Proofs.YtilamkcpbibnmaaGreatDoor.P
open Go.RowKit Go.Proofs.YtilamkcpbibnmaaGreatDoorW.PrintWords Go.Proofs.YtilamkcpbibnmaaGreatDoorW.PrintLast
def numCells (p q : Int) : Array Value := #[.int .i64 p, .int .i64 q]
def Glob (w : World) : Prop := (Lib.TabIs Tryz.prog w "internal/strconv.uint64pow10" .u64 Lib.pow10Tab ∧ (∃ tp p, w.var? Tryz.prog "strconv.ErrSyntax" = some #[.iface tp p]) ∧ (∃ tp p, w.var? Tryz.prog "strconv.ErrRange" = some #[.iface tp p])) ∧ w.var? Tryz.prog "fleuron/linear.zero" = some (numCells 0 1) ∧ w.var? Tryz.prog "fleuron/linear.one" = some (numCells 1 1)
theorem var_stays {w w' : World} {n : String} {cs : Array Value} (h : w.var? Tryz.prog n = some cs) (hb : Below w.heap.size w w') : w'.var? Tryz.prog n = some cs := by
  unfold World.var? at *
  cases hg : Program.globalNamed Tryz.prog n with
  | none => simp [hg] at h
  | some g =>
    simp only [hg, Option.bind_some] at h ⊢
    have hlt : g < w.heap.size := by
      rcases Nat.lt_or_ge g w.heap.size with h' | h'
      · exact h'
      · rw [Array.getElem?_eq_none h'] at h; simp at h
    rw [hb.block g hlt]
    exact h
theorem Glob.below {w w' : World} (h : Glob w) (hb : Below w.heap.size w w') : Glob w' :=
  ⟨⟨var_stays h.1.1 hb, h.1.2.1.imp fun _ h => h.imp fun _ h => var_stays h hb, h.1.2.2.imp fun _ h => h.imp fun _ h => var_stays h hb⟩, var_stays h.2.1 hb, var_stays h.2.2 hb⟩
theorem below_grow_drewN (w : World) (k : Nat) (os : Array Obj) : Below w.heap.size w (Sort.grow (w.drewN k) os) := Lib.below_grow _ w (Nat.le_refl _) k os
class Fa (p : Prop) : Prop where
  mk :: (out : p)
theorem fa {p : Prop} [h : Fa p] : p := h.out
section
variable {w W : World}
instance fa_alloc [h : Fa (Below w.heap.size w W)] (o : Obj) : Fa (Below w.heap.size w (W.alloc o)) := ⟨below_alloc h.out o⟩
instance fa_drewN [h : Fa (Below w.heap.size w W)] (n : Nat) : Fa (Below w.heap.size w (W.drewN n)) := ⟨pw_below_drewN h.out n⟩
instance fa_drew [h : Fa (Below w.heap.size w W)] : Fa (Below w.heap.size w W.drew) := ⟨below_drew1 h.out⟩
instance fa_set [h : Fa (Below w.heap.size w W)] (g j : Nat) (v : Value) [k : Fa (w.heap.size ≤ g)] : Fa (Below w.heap.size w (W.setCell ⟨g, j, none⟩ v)) := ⟨below_set h.out k.out⟩
instance fa_refl : Fa (Below w.heap.size w w) := ⟨Below.refl _ _⟩
instance fb_alloc {g : Nat} {o : Obj} [h : Fa (W.heap[g]? = some o)] (o' : Obj) : Fa ((W.alloc o').heap[g]? = some o) := ⟨blk_alloc h.out o'⟩
instance fb_drewN {g : Nat} {o : Obj} [h : Fa (W.heap[g]? = some o)] (n : Nat) : Fa ((W.drewN n).heap[g]? = some o) := ⟨blk_drewN h.out n⟩
instance fb_drew {g : Nat} {o : Obj} [h : Fa (W.heap[g]? = some o)] : Fa (W.drew.heap[g]? = some o) := ⟨blk_drew h.out⟩
theorem bst (w : World) {W w2 : World} [h : Fa (Below w.heap.size w W)] (hb : Below W.heap.size W w2) : Below w.heap.size w w2 := below_step h.out hb
theorem bsz (w : World) {W : World} [h : Fa (Below w.heap.size w W)] : w.heap.size ≤ W.heap.size := below_size h.out
theorem gle {g : Nat} [h : Fa (Below w.heap.size w W)] (hg : g = W.heap.size) : w.heap.size ≤ g := by rw [hg]; exact below_size h.out
theorem gne {g g' : Nat} {o : Obj} [h : Fa (W.heap[g]? = some o)] (hg : g' = W.heap.size) : g ≠ g' := by rw [hg]; exact Nat.ne_of_lt (blk_lt h.out)
end
section
variable {P : Program} {ops : Array Oper} {rest : List Oper} {oi : Oper} {a : Act} {Q : Exit → Act → World → Prop} {w : World}
theorem goesA (N : Option Tmp) (hd : oi.dst = N) (hg : oi.guard = none) {f : FuncId} {fn : Func} {as_ : Array Operand} {ts : Array TypeId} (hf : P.funcs[f]? = some fn) (hname : (fn.name == "runtime.NumGoroutine") = false) (hb : fn.body.isSome = true) (args : Array Value)
    (hop : oi.op = .call { callee := .value (.func f), args := as_, argTypes := ts })
    (h : Calls P f args w fun e w' => ∃ v, e = .returned v ∧ wpList P ops Q rest (a.put N v) w') (hargs : as_.map a.eval = args := by (try simp only [List.map_toArray, List.map_cons, List.map_nil]); first | done | rfl | (simp only [List.length_drop, List.length_take]; rfl)) : wpList P ops Q (oi :: rest) a w :=
  goesL_ N hd hg hf hname hb args hop hargs h
theorem boxF {N : Tmp} {cs : Array Value} {t : TypeId}
    (h : ∀ g, g = w.heap.size → ∀ w1, w1.heap[g]? = some (.cells cs t (0, 0)) → Below w.heap.size w w1 → wpList P ops Q rest (a.put oi.dst (.pointer (some ⟨g, 0, none⟩))) w1)
    (hgd : oi.guard = none := by rfl) (hd : oi.dst = some N := by rfl)
    (hrun : (execOp a.eval oi).run P w = .ok (.value (.pointer (some ⟨w.heap.size, 0, none⟩))) (w.alloc (.cells cs t (0, 0))) := by first | (go_simp; done) | (go_simp; rfl)) : wpList P ops Q (oi :: rest) a w :=
  box_event hgd hd hrun h
end
class Base (w : outParam World) : Prop where
  mk ::
class GlobI (W : World) : Prop where
  mk :: (out : Glob W)
instance gi {w W : World} [Base w] [g : Fa (Glob w)] [h : Fa (Below w.heap.size w W)] : GlobI W := ⟨g.out.below h.out⟩
theorem gl_zero0 {W : World} [h : GlobI W] : W.cell? ⟨0, 0, none⟩ = some (.int .i64 0) := by
  have := World.var?_cell (show Tryz.prog.globalNamed "fleuron/linear.zero" = some 0 by kernel_rfl) h.out.2.1 0
  simpa [numCells] using this
theorem gl_zero1 {W : World} [h : GlobI W] : W.cell? ⟨0, 1, none⟩ = some (.int .i64 1) := by
  have := World.var?_cell (show Tryz.prog.globalNamed "fleuron/linear.zero" = some 0 by kernel_rfl) h.out.2.1 1
  simpa [numCells] using this
theorem gl_one0 {W : World} [h : GlobI W] : W.cell? ⟨1, 0, none⟩ = some (.int .i64 1) := by
  have := World.var?_cell (show Tryz.prog.globalNamed "fleuron/linear.one" = some 1 by kernel_rfl) h.out.2.2 0
  simpa [numCells] using this
theorem gl_one1 {W : World} [h : GlobI W] : W.cell? ⟨1, 1, none⟩ = some (.int .i64 1) := by
  have := World.var?_cell (show Tryz.prog.globalNamed "fleuron/linear.one" = some 1 by kernel_rfl) h.out.2.2 1
  simpa [numCells] using this
end Go.Proofs.YtilamkcpbibnmaaGreatDoor.P
