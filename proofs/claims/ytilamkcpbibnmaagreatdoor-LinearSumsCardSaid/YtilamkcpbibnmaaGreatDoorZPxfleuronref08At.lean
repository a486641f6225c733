import Derived.Test.YtilamkcpbibnmaaGreatDoorZPx0
import Derived.Test.YtilamkcpbibnmaaGreatDoorZPxfleuronlaw08few
import Derived.Test.YtilamkcpbibnmaaGreatDoorZPxfleuronref08Same
import Derived.Test.YtilamkcpbibnmaaGreatDoorZPxlinearOver
import Derived.Test.YtilamkcpbibnmaaGreatDoorZPxfleuronlaw08number
import Derived.Test.YtilamkcpbibnmaaGreatDoorZPxfleuronref08terms
import Derived.Test.YtilamkcpbibnmaaGreatDoorZPxfleuronref08Valid
import Derived.Test.YtilamkcpbibnmaaGreatDoorZPxfleuronref01Near
import Derived.Test.YtilamkcpbibnmaaGreatDoorZPxfleuronref08coef
namespace Go.Proofs.YtilamkcpbibnmaaGreatDoor.P
open Go.RowKit Go.Proofs.YtilamkcpbibnmaaGreatDoorW.PrintWords Go.Proofs.YtilamkcpbibnmaaGreatDoorW.PrintLast Go.Proofs.YtilamkcpbibnmaaGreatDoorW.PrintMore
attribute [local go_sem] max2_int min2_int max_two min_two max_three min_three max_four min_four
set_option linter.unusedVariables false
set_option linter.unusedSimpArgs false
theorem TB.tmp {w W W1 : World} {gr go gt g : Nat} {c0 c1 : Int} {ov : Value} {out : List S47} {t : S47} (s : TB w gr go gt c0 c1 ov out t W) (hg : g = W.heap.size) (hb : Below W.heap.size W W1) (h : W1.heap[g]? = some (.cells #[.string (⟨#[]⟩ : ByteArray), .int .i64 0, .int .i64 0] 47 (0, 0))) (u : S47) :
    TB w gr go gt c0 c1 ov out t (((W1.setCell ⟨g, 0, none⟩ (.string u.f0)).setCell ⟨g, 1, none⟩ (.int .i64 u.f1.f0)).setCell ⟨g, 2, none⟩ (.int .i64 u.f1.f1)) ∧ (((W1.setCell ⟨g, 0, none⟩ (.string u.f0)).setCell ⟨g, 1, none⟩ (.int .i64 u.f1.f0)).setCell ⟨g, 2, none⟩ (.int .i64 u.f1.f1)).heap[g]? = some (.cells #[.string u.f0, .int .i64 u.f1.f0, .int .i64 u.f1.f1] 47 (0, 0)) := by
  have n := TB.new s.s hg hb h u
  have nt : gt ≠ g := by rw [hg]; exact Nat.ne_of_lt (blk_lt s.bt)
  exact ⟨⟨n.s, blk_far (blk_far (blk_far (blk_below s.bt hb) (p := ⟨g, 0, none⟩) nt _) (p := ⟨g, 1, none⟩) nt _) (p := ⟨g, 2, none⟩) nt _, s.lt⟩, n.bt⟩
end Go.Proofs.YtilamkcpbibnmaaGreatDoor.P
