import Derived.Test.YtilamkcpbibnmaaGreatDoorZPx0
import Derived.Deep.Slices
import Derived.Lib.SmallJoins
import Derived.ChangeArms
import Derived.ChangeSame
import Derived.WideShapes
namespace Go.Proofs.YtilamkcpbibnmaaGreatDoor.P
open Go Go.RowKit Go.Proofs.YtilamkcpbibnmaaGreatDoorW.PrintWords Go.Proofs.YtilamkcpbibnmaaGreatDoorW.PrintLast Go.Proofs.YtilamkcpbibnmaaGreatDoorW.PrintMore Go.ChangeShapes Go.WideShapes
set_option linter.unusedVariables false
instance : Inhabited S47 := ⟨z47⟩
def TOk (t : S47) : Prop := (Lit.int .i64 t.f1.f0).wf = true ∧ (Lit.int .i64 t.f1.f1).wf = true ∧ t.f0.size ≤ 140737488351232
def TPre {H : Type} (d : DataW H) (ty : TypeId) (t : S47) : Prop := (Lit.int .i64 t.f1.f0).wf = true ∧ (Lit.int .i64 t.f1.f1).wf = true ∧ t.f0.size ∈ d.weights Tryz.prog ty
theorem TOk_of {H : Type} {d : DataW H} {ty : TypeId} {t : S47} (h : TPre d ty t) (hw : ∀ n ∈ d.weights Tryz.prog ty, n ≤ reachBytes) : TOk t := ⟨h.1, h.2.1, hw _ h.2.2⟩
theorem weightsAll_mem {H : Type} {e : TypeId} {n : Nat} : ∀ {l : List (DataW H)} {d : DataW H}, d ∈ l → n ∈ d.weights Tryz.prog e → n ∈ DataW.weightsAll Tryz.prog e l
  | d0 :: l, d, hd, hn => by
    simp only [DataW.weightsAll, List.mem_append]
    rcases List.mem_cons.mp hd with rfl | hd
    · exact .inl hn
    · exact .inr (weightsAll_mem hd hn)
section
variable {H : Type} {enc : TypeId × Value → H} {w : World} {base : Nat} {spare : Nat → Bool} {held : Bool}
set_option maxRecDepth 100000 in
theorem open_num {fuel : Nat} {cs : List Value} {x : DataW H × List MemPlace} (h : DataW.trod enc Tryz.prog w base spare held fuel 23 cs = some x) :
    ∃ p q, cs = [.int .i64 p, .int .i64 q] ∧ (Lit.int .i64 p).wf = true ∧ (Lit.int .i64 q).wf = true := by
  obtain ⟨y0, y1, n, _, hl, h0, h1⟩ := trod_struct2 Tryz.underlying23 h
  have hl2 : cs.length = 2 := hl.trans (by kernel_rfl)
  match cs, hl2 with
  | [v0, v1], _ =>
    obtain ⟨p, e0, _, w0⟩ := DataW.trod_int Tryz.underlying2 h0
    obtain ⟨q, e1, _, w1⟩ := DataW.trod_int Tryz.underlying2 h1
    have c2 : Tryz.prog.cellsOf 2 = 1 := by kernel_rfl
    simp [c2] at e0 e1
    exact ⟨p, q, by rw [e0, e1], w0, w1⟩
set_option maxRecDepth 100000 in
theorem open_term {fuel : Nat} {cs : List Value} {x : DataW H × List MemPlace} (h : DataW.trod enc Tryz.prog w base spare held fuel 47 cs = some x) :
    ∃ t : S47, cs = [.string t.f0, .int .i64 t.f1.f0, .int .i64 t.f1.f1] ∧ TPre x.1 47 t := by
  obtain ⟨y0, y1, n, hx, hl, h0, h1⟩ := trod_struct2 Tryz.underlying47 h
  have hl3 : cs.length = 3 := hl.trans (by kernel_rfl)
  match cs, hl3 with
  | [v0, v1, v2], _ =>
    obtain ⟨s, e0, ey, w0⟩ := DataW.trod_string Tryz.underlying9 h0
    obtain ⟨p, q, e1, w1, w2⟩ := open_num h1
    have c1 : Tryz.prog.cellsOf 9 = 1 := by kernel_rfl
    have c2 : Tryz.prog.cellsOf 23 = 2 := by kernel_rfl
    simp [c1] at e0
    simp [c2] at e1
    exact ⟨⟨s, ⟨p, q⟩⟩, by rw [e0, e1.1, e1.2], w1, w2, by rw [hx, ey]; simp [DataW.weights, DataW.weightsEach, Tryz.underlying47]⟩
set_option maxRecDepth 100000 in
theorem open_terms {fuel : Nat} {cs : List Value} {x : DataW H × List MemPlace} (h : DataW.trod enc Tryz.prog w base spare held fuel 24 cs = some x) :
    ∃ (A : Option Addr) (c : Nat) (l : List S47), cs = [.slice A l.length c] ∧ l.length ≤ c ∧ l.length ≤ 9223372036854775807 ∧ Kd.C k47 w A l.length l ∧ ∀ t ∈ l, TPre x.1 24 t := by
  rcases Deep.open_slice Tryz.underlying24 h with ⟨rfl, _⟩ | ⟨a, len, cap, m, n, D, Pl, rfl, hb, hl, hm, hmm, hxx, hx⟩
  · exact ⟨none, 0, [], rfl, Nat.le_refl _, by simp, ⟨rfl, by simp, fun h => absurd h (by simp)⟩, fun t h => by cases h⟩
  have hlm : len ≤ m := by rw [hmm]; split <;> omega
  have c3 : Tryz.prog.cellsOf 47 = 3 := by kernel_rfl
  rw [c3] at hx
  obtain ⟨f, hf⟩ := Deep.choose_lt (α := S47) (n := len) (p := fun i t => w.cells? base (a.add (i * 3)) 3 = some [.string t.f0, .int .i64 t.f1.f0, .int .i64 t.f1.f1] ∧ TPre (D i) 47 t) (fun i hi => by
    obtain ⟨cs', h1, h2⟩ := hx i (by omega)
    obtain ⟨t, rfl, ht⟩ := open_term h2
    exact ⟨t, h1, ht⟩)
  have hml : maxLen ≤ 9223372036854775807 := by unfold maxLen; omega
  have ll : ((List.range len).map f).length = len := by simp
  refine ⟨some a, cap, (List.range len).map f, by rw [ll], by omega, by omega, ⟨rfl, by omega, fun _ => ⟨a, rfl, fun j t hj => ?_⟩⟩, fun t ht => ?_⟩
  · rw [List.getElem?_map] at hj
    have hjl : j < len := by
      rcases Nat.lt_or_ge j len with h | h
      · exact h
      · rw [List.getElem?_eq_none (by simpa using h)] at hj; cases hj
    rw [List.getElem?_range hjl] at hj
    obtain rfl : f j = t := Option.some.inj hj
    obtain ⟨h1, _⟩ := hf j hjl
    obtain ⟨_, hlen, hcell⟩ := World.cells?_some h1
    refine ⟨_, hlen, k47_mk w (f j), fun i u hu => ?_⟩
    have hi : i < 3 := by
      rcases Nat.lt_or_ge i 3 with h | h
      · exact h
      · rw [List.getElem?_eq_none (by simpa using h)] at hu; cases hu
    have := hcell i hi
    rw [Addr.add_add] at this
    exact this.trans hu
  · obtain ⟨i, hi, rfl⟩ := List.mem_map.mp ht
    obtain ⟨a1, a2, a3⟩ := (hf i (List.mem_range.mp hi)).2
    refine ⟨a1, a2, ?_⟩
    rw [hxx]
    simp only [DataW.weights, Tryz.underlying24, List.mem_cons, List.mem_append]
    exact .inr (.inl (weightsAll_mem (List.mem_map.mpr ⟨i, hi, rfl⟩) a3))
set_option maxRecDepth 100000 in
theorem open_form {r : Reach} {b0 : Nat} {v : Value} {d : DataW H} {p : List MemPlace} (hv : Value.okWide Tryz.prog w r b0 26 v) (h : DataW.Trod enc Tryz.prog w base spare held 26 v d p) :
    ∃ (p q : Int) (A : Option Addr) (c : Nat) (l : List S47), v = .agg #[.int .i64 p, .int .i64 q, .slice A l.length c] ∧ (Lit.int .i64 p).wf = true ∧ (Lit.int .i64 q).wf = true ∧ l.length ≤ c ∧ l.length ≤ 9223372036854775807 ∧ Kd.C k47 w A l.length l ∧ ∀ t ∈ l, TPre d 26 t := by
  obtain ⟨cs, rfl, hsz⟩ := okWide_struct Tryz.underlying26 hv
  obtain ⟨fuel, hf⟩ := h
  obtain ⟨y0, y1, n, hx, hl, h0, h1⟩ := trod_struct2 Tryz.underlying26 hf
  simp only [Prod.mk.injEq] at hx
  have c0 : Tryz.prog.cellsOf 26 = 3 := by kernel_rfl
  have c1 : Tryz.prog.cellsOf 23 = 2 := by kernel_rfl
  have c2 : Tryz.prog.cellsOf 24 = 1 := by kernel_rfl
  obtain ⟨P, Q, e0, wp, wq⟩ := open_num h0
  obtain ⟨A, c, l, e1, h3, h4, h5, h6⟩ := open_terms h1
  rcases cs with ⟨cs⟩
  have hl3 : cs.length = 3 := hsz.trans c0
  match cs, hl3 with
  | [v0, v1, v2], _ =>
    simp [Value.cells, c1] at e0
    simp [Value.cells, c2] at e1
    exact ⟨P, Q, A, c, l, by rw [e0.1, e0.2, e1], wp, wq, h3, h4, h5, fun t ht => ⟨(h6 t ht).1, (h6 t ht).2.1, by
      rw [hx.1]
      simp only [DataW.weights, Tryz.underlying26, DataW.weightsEach, List.map_cons, List.map_nil, List.mem_append]
      exact .inr (.inl (h6 t ht).2.2)⟩⟩
end
end Go.Proofs.YtilamkcpbibnmaaGreatDoor.P
