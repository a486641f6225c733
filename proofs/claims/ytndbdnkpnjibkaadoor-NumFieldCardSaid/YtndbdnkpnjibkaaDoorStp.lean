/- Facts on blocks that a walk carries from world to world, by instances. -/
import Derived.Test.YtndbdnkpnjibkaaDoorGlob
namespace Go.Proofs.YtndbdnkpnjibkaaDoor.P
open Go.RowKit Go.Proofs.YtndbdnkpnjibkaaDoorW.PrintWords Go.Proofs.YtndbdnkpnjibkaaDoorW.PrintLast
class Stp (W : outParam World) (W' : World) : Prop where
  mk :: (out : Below W.heap.size W W')
instance fb_step {W W' : World} {g : Nat} {o : Obj} [s : Stp W W'] [h : Fa (W.heap[g]? = some o)] : Fa (W'.heap[g]? = some o) := ⟨blk_below h.out s.out⟩
instance fa_step {w W W' : World} [s : Stp W W'] [h : Fa (Below w.heap.size w W)] : Fa (Below w.heap.size w W') := ⟨bst w s.out⟩
instance fb_far {W : World} {g g' j : Nat} {t : TypeId} {cs : Array Value} {v : Value} [h : Fa (W.heap[g]? = some (.cells cs t (0, 0)))] [n : Fa (g ≠ g')] : Fa ((W.setCell ⟨g', j, none⟩ v).heap[g]? = some (.cells cs t (0, 0))) := ⟨blk_far h.out n.out _⟩
/-- A walk stands still at a test that its ways take apart. -/
structure Halt (p : Prop) : Prop where
  out : p
theorem halt_cond {P : Program} {c : Operand} {x y : Code} {a : Act} {w : World} {Q : Exit → Act → World → Prop} (h : Halt ((Code.cond c x y).wp P Q a w)) : (Code.cond c x y).wp P Q a w := h.out
end Go.Proofs.YtndbdnkpnjibkaaDoor.P
