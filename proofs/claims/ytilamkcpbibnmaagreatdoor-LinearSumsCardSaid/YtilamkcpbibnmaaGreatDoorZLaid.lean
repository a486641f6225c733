import Derived.Test.YtilamkcpbibnmaaGreatDoorZGlob
import Derived.Test.YtilamkcpbibnmaaGreatDoorTie
import Derived.LaidMore
import Derived.LaidLaws
import Derived.ChangeSame
import Derived.ChangeArms
import Derived.Deep.DeepLaidRun
import Derived.Lib.LaidTab
import Derived.Stop.LaidErr
namespace Go.Proofs.YtilamkcpbibnmaaGreatDoor.P
open Go Go.RowKit Go.ChangeShapes
set_option linter.unusedVariables false
set_option maxRecDepth 100000
noncomputable def laidL : List (String × DataW Unit) := Rows.linearSumsRow.laid
noncomputable def doorW (os : Os) : World := World.doorLaid Tryz.prog 80 os
theorem door_met (os : Os) (args : Array Value) : laidMet Tryz.prog laidL ((doorW os).forCall (fun _ _ => 0) ⟨#[], args, []⟩).memory :=
  laidMet_of_run3 8 (by kernel_rfl) (by kernel_rfl) (by kernel_rfl)
theorem star_es : "*" ++ "errors.errorString" = "*errors.errorString" := by decide
theorem row_es (u : TypeId) (h : Tryz.prog.typeName? 3 u = some "*errors.errorString") : u = 158 :=
  typeName_ptr_named (nm := "errors.errorString") (by rw [star_es]; kernel_rfl) (by kernel_rfl) (by decide) u (by rw [star_es]; exact h)
theorem laid_num {W : World} {n : String} {x y : Int} {rest : List (String × DataW Unit)} {g : Nat} (hg : Tryz.prog.globalNamed n = some g) (hty : (Tryz.prog.globals[g]?).map (·.type) = some 23)
    (h : laidMet Tryz.prog ((n, .agg [.lit (.int .i64 x), .lit (.int .i64 y)]) :: rest) W) : W.var? Tryz.prog n = some (numCells x y) := by
  obtain ⟨ps, ⟨g', t', cs, fuel, p, q, hg', ht', hvar, hd, _, _⟩, _⟩ := h
  obtain rfl := Option.some.inj (hg.symm.trans hg')
  obtain rfl := Option.some.inj (hty.symm.trans ht')
  obtain ⟨y0, y1, n, hx, hl, h0, h1⟩ := trod_struct2 Tryz.underlying23 hd
  have hl2 : cs.toList.length = 2 := hl.trans (by kernel_rfl)
  rcases cs with ⟨cs⟩
  match cs, hl2 with
  | [v0, v1], _ =>
    obtain ⟨a, e0, f0, _⟩ := DataW.trod_int Tryz.underlying2 h0
    obtain ⟨b, e1, f1, _⟩ := DataW.trod_int Tryz.underlying2 h1
    have c2 : Tryz.prog.cellsOf 2 = 1 := by kernel_rfl
    simp [c2] at e0 e1
    simp only [Prod.mk.injEq, DataW.agg.injEq, List.cons.injEq, and_true] at hx
    rw [f0, f1] at hx
    simp only [DataW.lit.injEq, Lit.int.injEq, true_and] at hx
    rw [hvar, e0, e1, ← hx.1.1, ← hx.1.2]; rfl
theorem glob_of_laid {W : World} (h : laidMet Tryz.prog laidL W) : Glob W := by
  have h3 := h.tail.tail.tail
  obtain ⟨a1, _, hv1, _⟩ := laid_sentinel h3 (show Tryz.prog.globalNamed "strconv.ErrRange" = some 5 by kernel_rfl) (show (Tryz.prog.globals[5]?).map (·.type) = some 75 by kernel_rfl) Tryz.underlying75 row_es Tryz.underlying158 Tryz.underlying160 rfl rfl Tryz.underlying9 (by kernel_rfl) (by kernel_rfl)
  obtain ⟨a2, _, hv2, _⟩ := laid_sentinel h3.tail (show Tryz.prog.globalNamed "strconv.ErrSyntax" = some 4 by kernel_rfl) (show (Tryz.prog.globals[4]?).map (·.type) = some 75 by kernel_rfl) Tryz.underlying75 row_es Tryz.underlying158 Tryz.underlying160 rfl rfl Tryz.underlying9 (by kernel_rfl) (by kernel_rfl)
  have h2 : laidMet Tryz.prog (("internal/strconv.uint64pow10", Lib.tabData .u64 Lib.pow10Tab) :: _) W := h.tail.tail
  have h5 : laidMet Tryz.prog (("fleuron/linear.zero", .agg [.lit (.int .i64 0), .lit (.int .i64 1)]) :: ("fleuron/linear.one", .agg [.lit (.int .i64 1), .lit (.int .i64 1)]) :: []) W := h3.tail.tail
  exact ⟨⟨Lib.tabIs_of_head (show Tryz.prog.globalNamed "internal/strconv.uint64pow10" = some 3 by kernel_rfl) (show (Tryz.prog.globals[3]?).map (·.type) = some 146 by kernel_rfl) Tryz.underlying146 Tryz.underlying88 (by kernel_rfl) (by kernel_rfl) h2, ⟨_, _, hv2⟩, ⟨_, _, hv1⟩⟩,
    laid_num (show Tryz.prog.globalNamed "fleuron/linear.zero" = some 0 by kernel_rfl) (by kernel_rfl) h5, laid_num (show Tryz.prog.globalNamed "fleuron/linear.one" = some 1 by kernel_rfl) (by kernel_rfl) h5.tail⟩
end Go.Proofs.YtilamkcpbibnmaaGreatDoor.P
