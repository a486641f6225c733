-- PRINTED by print.py (a twelfth state) out of the translation. Not trusted: Lean checks it.
import Derived.Test.YtndbdnkpnjibkaaDoorPx0
import Derived.Test.YtndbdnkpnjibkaaDoorPxrationalsize
import Derived.Test.YtndbdnkpnjibkaaDoorPxnumdo
import Derived.Test.YtndbdnkpnjibkaaDoorPxnumParse
namespace Go.Proofs.YtndbdnkpnjibkaaDoor.P
open Go.RowKit Go.Proofs.YtndbdnkpnjibkaaDoorW.PrintWords Go.Proofs.YtndbdnkpnjibkaaDoorW.PrintLast Go.Proofs.YtndbdnkpnjibkaaDoorW.PrintMore
attribute [local go_sem] max2_int min2_int max_two min_two max_three min_three max_four min_four   -- for this text's walks alone
set_option linter.unusedVariables false
set_option linter.unusedSimpArgs false

/-! ### num_Decimal: function 36 -/
-- EXT
/-- Are these so many decimal digits? -/
def digs (l : List UInt8) (least most : Nat) : Bool := decide (least ≤ l.length) && decide (l.length ≤ most) && l.all fun c => decide (48 ≤ c.toNat) && decide (c.toNat ≤ 57)
def digVal (l : List UInt8) : Int := l.foldl (fun n c => 10 * n + ((c.toNat : Int) - 48)) 0
def num_Decimal.f (k : Nat) (a0 : ByteArray) : Option (Int × Int × Int) :=
  (strings_Cut.f a0 ⟨#[46]⟩).bind fun c =>
    if (if c.2.2 = true then digs c.1.data.toList 0 9 && digs c.2.1.data.toList 1 5 else digs c.1.data.toList 1 9) = true
    then rational_Exact.f k (digVal (c.1.data.toList ++ c.2.1.data.toList)) ((10 ^ c.2.1.data.toList.length : Nat) : Int)
    else some (0, 0, 30)
theorem num_Decimal.mono : ∀ a0 k, LeO (num_Decimal.f k a0) (num_Decimal.f (k + 1) a0) := by
  intro a0 k
  unfold num_Decimal.f
  refine LeO.bind (LeO.refl _) (fun _ => ?_)
  exact LeO.ite (rational_Exact.mono _ _ _) (LeO.refl _)
set_option maxHeartbeats 2000000 in
set_option maxRecDepth 100000 in
theorem Decimal_D0 (s whole part : ByteArray) (w : World)
    (hcut : Hid (∀ w, Calls Tryd.prog 59 #[.string s, .string ⟨#[46]⟩] w fun e w' => e = .returned (.tuple #[.string whole, .string part, .bool false]) ∧ Drawn0 w w'))
    (hd : Hid (∀ w, Calls Tryd.prog 63 #[.string whole, .int .i64 1, .int .i64 9] w fun e w' => e = .returned (.bool false) ∧ Below w.heap.size w w')) :
    Calls Tryd.prog 36 #[.string s] w fun e w' => e = .returned (.tuple #[.agg #[.int .i64 0, .int .i64 0], .int .i64 30]) ∧ Below w.heap.size w w' := by
  have hu23 := Tryd.underlying23
  go_enter Tryd.func36, Tryd.ntmps36
  go_wp2_with (first | (go_at_call 59; (with_reducible refine (hcut.out _).mono ?_); rintro e w1 ⟨rfl, ⟨n1, rfl⟩⟩) | (go_at_call 63; (with_reducible refine (hd.out _).mono ?_); rintro e w2 ⟨rfl, hb2⟩; have c20 := keep_c hb2 (b := w.heap.size) (o := 0) (v := .int .i64 0) (by go_simp); have c21 := keep_c hb2 (b := w.heap.size) (o := 1) (v := .int .i64 0) (by go_simp); have f20 := keep_f hb2 (b := w.heap.size) (o := 0) (v := .int .i64 0) (by go_simp) (by go_simp); have f21 := keep_f hb2 (b := w.heap.size) (o := 1) (v := .int .i64 0) (by go_simp) (by go_simp); have B2 : Below w.heap.size w w2 := below_step (pw_below_drewN (below_alloc (Below.refl _ _) _) _) hb2; clear hb2))
  refine bodyPost_ret (v := .tuple #[.agg #[.int .i64 0, .int .i64 0], .int .i64 30]) (by simp [results, Tryd.results36, go_sem, c20, c21]) rfl ⟨rfl, by repeat (first | exact B2 | refine below_set ?_ (Nat.le_refl _))⟩
set_option maxHeartbeats 2000000 in
set_option maxRecDepth 100000 in
theorem Decimal_D1 (s whole part : ByteArray) (w : World)
    (hcut : Hid (∀ w, Calls Tryd.prog 59 #[.string s, .string ⟨#[46]⟩] w fun e w' => e = .returned (.tuple #[.string whole, .string part, .bool true]) ∧ Drawn0 w w'))
    (hd : Hid (∀ w, Calls Tryd.prog 63 #[.string whole, .int .i64 0, .int .i64 9] w fun e w' => e = .returned (.bool false) ∧ Below w.heap.size w w')) :
    Calls Tryd.prog 36 #[.string s] w fun e w' => e = .returned (.tuple #[.agg #[.int .i64 0, .int .i64 0], .int .i64 30]) ∧ Below w.heap.size w w' := by
  have hu23 := Tryd.underlying23
  go_enter Tryd.func36, Tryd.ntmps36
  go_wp2_with (first | (go_at_call 59; (with_reducible refine (hcut.out _).mono ?_); rintro e w1 ⟨rfl, ⟨n1, rfl⟩⟩) | (go_at_call 63; (with_reducible refine (hd.out _).mono ?_); rintro e w2 ⟨rfl, hb2⟩; have c20 := keep_c hb2 (b := w.heap.size) (o := 0) (v := .int .i64 0) (by go_simp); have c21 := keep_c hb2 (b := w.heap.size) (o := 1) (v := .int .i64 0) (by go_simp); have f20 := keep_f hb2 (b := w.heap.size) (o := 0) (v := .int .i64 0) (by go_simp) (by go_simp); have f21 := keep_f hb2 (b := w.heap.size) (o := 1) (v := .int .i64 0) (by go_simp) (by go_simp); have B2 : Below w.heap.size w w2 := below_step (pw_below_drewN (below_alloc (Below.refl _ _) _) _) hb2; clear hb2))
  refine bodyPost_ret (v := .tuple #[.agg #[.int .i64 0, .int .i64 0], .int .i64 30]) (by simp [results, Tryd.results36, go_sem, c20, c21]) rfl ⟨rfl, by repeat (first | exact B2 | refine below_set ?_ (Nat.le_refl _))⟩
set_option maxHeartbeats 2000000 in
set_option maxRecDepth 100000 in
theorem Decimal_D2 (s whole part : ByteArray) (w : World)
    (hcut : Hid (∀ w, Calls Tryd.prog 59 #[.string s, .string ⟨#[46]⟩] w fun e w' => e = .returned (.tuple #[.string whole, .string part, .bool true]) ∧ Drawn0 w w'))
    (hd : Hid (∀ w, Calls Tryd.prog 63 #[.string whole, .int .i64 0, .int .i64 9] w fun e w' => e = .returned (.bool true) ∧ Below w.heap.size w w'))
    (hd2 : Hid (∀ w, Calls Tryd.prog 63 #[.string part, .int .i64 1, .int .i64 5] w fun e w' => e = .returned (.bool false) ∧ Below w.heap.size w w')) :
    Calls Tryd.prog 36 #[.string s] w fun e w' => e = .returned (.tuple #[.agg #[.int .i64 0, .int .i64 0], .int .i64 30]) ∧ Below w.heap.size w w' := by
  have hu23 := Tryd.underlying23
  go_enter Tryd.func36, Tryd.ntmps36
  go_wp2_with (first | (go_at_call 59; (with_reducible refine (hcut.out _).mono ?_); rintro e w1 ⟨rfl, ⟨n1, rfl⟩⟩) | (go_at_call 63; (with_reducible refine (hd.out _).mono ?_); rintro e w2 ⟨rfl, hb2⟩; have c20 := keep_c hb2 (b := w.heap.size) (o := 0) (v := .int .i64 0) (by go_simp); have c21 := keep_c hb2 (b := w.heap.size) (o := 1) (v := .int .i64 0) (by go_simp); have f20 := keep_f hb2 (b := w.heap.size) (o := 0) (v := .int .i64 0) (by go_simp) (by go_simp); have f21 := keep_f hb2 (b := w.heap.size) (o := 1) (v := .int .i64 0) (by go_simp) (by go_simp); have B2 : Below w.heap.size w w2 := below_step (pw_below_drewN (below_alloc (Below.refl _ _) _) _) hb2; clear hb2) | (go_at_call 63; (with_reducible refine (hd2.out _).mono ?_); rintro e w3 ⟨rfl, hb3⟩; have c30 := keep_c hb3 c20; have c31 := keep_c hb3 c21; have f30 := keep_f hb3 c20 f20; have f31 := keep_f hb3 c21 f21; have B3 : Below w.heap.size w w3 := below_step B2 hb3; clear hb3 B2 c20 c21 f20 f21))
  refine bodyPost_ret (v := .tuple #[.agg #[.int .i64 0, .int .i64 0], .int .i64 30]) (by simp [results, Tryd.results36, go_sem, c30, c31]) rfl ⟨rfl, by repeat (first | exact B3 | refine below_set ?_ (Nat.le_refl _))⟩
theorem iter_cell {W : World} {s : ByteArray} {p : Nat} {a : Addr} {v : Value} (h : W.cell? a = some v) : (W.iter s p).cell? a = some v := (World.cell?_alloc_lt _ _ _ (World.block_lt_of_cell? W _ h)).trans h
theorem iter_frozen {W : World} {s : ByteArray} {p : Nat} {b o : Nat} {v : Value} (h : W.cell? ⟨b, o, none⟩ = some v) (hf : W.frozen? ⟨b, o, none⟩ = false) : (W.iter s p).frozen? ⟨b, o, none⟩ = false := keep_f (W := W) (below_alloc (Below.refl _ W) _) h hf
theorem iterAt_below (W : World) (k : Nat) (s : ByteArray) (pos : Nat) : Below k W (W.iterAt k s pos) := ⟨rfl, rfl, rfl, by rw [Lib.iterAt_size]; exact Nat.le_refl _, fun i hi => Lib.iterAt_other W k i s pos (by omega)⟩
theorem iterAt_cell {W : World} {k : Nat} {s : ByteArray} {pos : Nat} {a : Addr} {v : Value} (h : W.cell? a = some v) (hk : a.block ≠ k) : (W.iterAt k s pos).cell? a = some v := by
  unfold World.cell? at *; rw [Lib.iterAt_other W k a.block s pos hk]; exact h
theorem iterAt_frozen {W : World} {k : Nat} {s : ByteArray} {pos : Nat} {a : Addr} (h : W.frozen? a = false) (hk : a.block ≠ k) : (W.iterAt k s pos).frozen? a = false := by
  unfold World.frozen? at *; rw [Lib.iterAt_other W k a.block s pos hk]; exact h
set_option maxHeartbeats 2000000 in
set_option maxRecDepth 100000 in
theorem Decimal_D3 (s whole part : ByteArray) (w : World)
    (hcut : Hid (∀ w, Calls Tryd.prog 59 #[.string s, .string ⟨#[46]⟩] w fun e w' => e = .returned (.tuple #[.string whole, .string part, .bool false]) ∧ Drawn0 w w'))
    (hd : Hid (∀ w, Calls Tryd.prog 63 #[.string whole, .int .i64 1, .int .i64 9] w fun e w' => e = .returned (.bool true) ∧ Below w.heap.size w w'))
    (r1 r2 r3 V QE : Int) (hQE : Hid (QE = ((10 ^ part.size : Nat) : Int))) (hps : part.size ≤ 5) (hws : whole.size ≤ 9) (hasc : ∀ (i : Nat) (h : i < part.size), (part[i]'h).toNat < 128)
    (hpi : Hid (∀ w, Calls Tryd.prog 60 #[.string (({ data := #[48] } ++ whole) ++ part), .int .i64 10, .int .i64 64] w fun e w' => e = .returned (.tuple #[.int .i64 V, .nilIface]) ∧ Below w.heap.size w w'))
    (hE : Hid (∀ w, Calls Tryd.prog 48 #[.int .i64 V, .int .i64 QE] w fun e w' => e = .returned (.tuple #[.agg #[.int .i64 r1, .int .i64 r2], .int .i64 r3]) ∧ Below w.heap.size w w')) :
    Calls Tryd.prog 36 #[.string s] w fun e w' => e = .returned (.tuple #[.agg #[.int .i64 r1, .int .i64 r2], .int .i64 r3]) ∧ Below w.heap.size w w' := by
  have hu23 := Tryd.underlying23
  go_enter Tryd.func36, Tryd.ntmps36
  go_wp2_with (first | (go_at_call 59; (with_reducible refine (hcut.out _).mono ?_); rintro e w1 ⟨rfl, ⟨n1, rfl⟩⟩) | (go_at_call 63; (with_reducible refine (hd.out _).mono ?_); rintro e w2 ⟨rfl, hb2⟩; have c20 := keep_c hb2 (b := w.heap.size) (o := 0) (v := .int .i64 0) (by go_simp); have c21 := keep_c hb2 (b := w.heap.size) (o := 1) (v := .int .i64 0) (by go_simp); have f20 := keep_f hb2 (b := w.heap.size) (o := 0) (v := .int .i64 0) (by go_simp) (by go_simp); have f21 := keep_f hb2 (b := w.heap.size) (o := 1) (v := .int .i64 0) (by go_simp) (by go_simp); have B2 : Below w.heap.size w w2 := below_step (pw_below_drewN (below_alloc (Below.refl _ _) _) _) hb2; clear hb2))
  have hk0 : (w2.iter part 0).heap[w2.heap.size]? = some (.stringIter part 0) := World.iter_heap w2 part 0
  have l0 : w.heap.size < w2.heap.size := World.block_lt_of_cell? _ _ c20
  have hadd1 := fun w => run_string_add_sum (P := Tryd.prog) (w := w) { data := #[48] } whole (by show 1 + whole.size ≤ _; omega)
  have hz1 : (({ data := #[48] } : ByteArray) ++ whole).size = 1 + whole.size := ByteArray.size_append
  have hadd2 := fun w => run_string_add_sum (P := Tryd.prog) (w := w) ({ data := #[48] } ++ whole) part (by omega)
  clear hz1
  go_loopw [7] (fun q wr => ∃ (pos : Nat) (Q : Int), pos ≤ part.size ∧ wr.heap[w2.heap.size]? = some (.stringIter part pos) ∧ q = .int .i64 Q ∧ Hid (Q = ((10 ^ pos : Nat) : Int)) ∧ 0 ≤ Q ∧ Q ≤ 100000 ∧ wr.cell? ⟨w.heap.size, 0, none⟩ = some (.int .i64 0) ∧ wr.cell? ⟨w.heap.size, 1, none⟩ = some (.int .i64 0) ∧ wr.frozen? ⟨w.heap.size, 0, none⟩ = false ∧ wr.frozen? ⟨w.heap.size, 1, none⟩ = false ∧ Below w.heap.size w wr)
    (fun _ wr => part.size - wr.iterPos w2.heap.size)
  case atStart => exact ⟨0, 1, Nat.zero_le _, hk0, rfl, Lib.hid rfl, by omega, by omega, iter_cell c20, iter_cell c21, iter_frozen c20 f20, iter_frozen c21 f21, below_alloc B2 _⟩
  case round =>
    obtain ⟨pos, Q, hps2, hk, rfl, HQ, hQ0, hQ1, d0, d1, g0, g1, BR⟩ := hrel
    clear hk0 c20 c21 f20 f21 B2
    by_cases hp : pos < part.size
    · have h128 := hasc pos hp
      have hQ2 : Q ≤ 10000 := by
        rw [HQ.out]
        have : (10 : Nat) ^ pos ≤ 10 ^ 4 := Nat.pow_le_pow_right (by decide) (by omega)
        omega
      have hnext : ∀ ty, (Instr.next (.pointer (some ⟨w2.heap.size, 0, none⟩)) true ty).run Tryd.prog wr = _ := fun ty => Lib.run_next_ascii_at wr w2.heap.size part pos ty hk hp h128
      have hk1 := Lib.iterAt_heap wr w2.heap.size part pos (pos + 1) hk
      have hmu : wr.iterPos w2.heap.size = pos := by simp [World.iterPos, hk]
      have BR1 : Below w.heap.size w (wr.iterAt w2.heap.size part (pos + 1)) := Lib.below_iterAt BR (by omega) part (pos + 1)
      have d01 := iterAt_cell (k := w2.heap.size) (s := part) (pos := pos + 1) d0 (by show w.heap.size ≠ _; omega)
      have d11 := iterAt_cell (k := w2.heap.size) (s := part) (pos := pos + 1) d1 (by show w.heap.size ≠ _; omega)
      have g01 := iterAt_frozen (k := w2.heap.size) (s := part) (pos := pos + 1) g0 (by show w.heap.size ≠ _; omega)
      have g11 := iterAt_frozen (k := w2.heap.size) (s := part) (pos := pos + 1) g1 (by show w.heap.size ≠ _; omega)
      clear hk d0 d1 g0 g1 BR
      generalize wr.iterAt w2.heap.size part (pos + 1) = W1 at *
      go_wp2
      go_roundw
      case rel =>
        refine ⟨pos + 1, Q * 10, by omega, hk1, rfl, Lib.hid ?_, by omega, by omega, d01, d11, g01, g11, BR1⟩
        rw [HQ.out, Nat.pow_succ]; omega
      case measure =>
        have hmu2 : W1.iterPos w2.heap.size = pos + 1 := by simp [World.iterPos, hk1]
        rw [hmu, hmu2]
        omega
    · have hnext : ∀ ty, (Instr.next (.pointer (some ⟨w2.heap.size, 0, none⟩)) true ty).run Tryd.prog wr = _ := fun ty => Lib.run_next_end_at wr w2.heap.size part pos ty hk hp
      obtain rfl : pos = part.size := by omega
      obtain rfl : Q = QE := HQ.out.trans hQE.out.symm
      clear HQ hk hQ0 hQ1 hp
      go_wp2_with (first | (go_at_call 60; (with_reducible refine (hpi.out _).mono ?_); rintro e w5 ⟨rfl, hb5⟩; have c50 := keep_c hb5 d0; have c51 := keep_c hb5 d1; have f50 := keep_f hb5 d0 g0; have f51 := keep_f hb5 d1 g1; have B5 : Below w.heap.size w w5 := below_step BR hb5; clear hb5) | (go_at_call 48; (with_reducible refine (hE.out _).mono ?_); rintro e w6 ⟨rfl, hb6⟩; have c60 := keep_c hb6 c50; have c61 := keep_c hb6 c51; have f60 := keep_f hb6 c50 f50; have f61 := keep_f hb6 c51 f51; have B6 : Below w.heap.size w w6 := below_step B5 hb6; clear hb6))
      refine bodyPost_ret (v := .tuple #[.agg #[.int .i64 r1, .int .i64 r2], .int .i64 r3]) (by simp [results, Tryd.results36, go_sem, c60, c61]) rfl ⟨rfl, by repeat (first | exact B6 | refine below_set ?_ (Nat.le_refl _))⟩
set_option maxHeartbeats 2000000 in
set_option maxRecDepth 100000 in
theorem Decimal_D4 (s whole part : ByteArray) (w : World)
    (hcut : Hid (∀ w, Calls Tryd.prog 59 #[.string s, .string ⟨#[46]⟩] w fun e w' => e = .returned (.tuple #[.string whole, .string part, .bool true]) ∧ Drawn0 w w'))
    (hd : Hid (∀ w, Calls Tryd.prog 63 #[.string whole, .int .i64 0, .int .i64 9] w fun e w' => e = .returned (.bool true) ∧ Below w.heap.size w w'))
    (hd2 : Hid (∀ w, Calls Tryd.prog 63 #[.string part, .int .i64 1, .int .i64 5] w fun e w' => e = .returned (.bool true) ∧ Below w.heap.size w w'))
    (r1 r2 r3 V QE : Int) (hQE : Hid (QE = ((10 ^ part.size : Nat) : Int))) (hps : part.size ≤ 5) (hws : whole.size ≤ 9) (hasc : ∀ (i : Nat) (h : i < part.size), (part[i]'h).toNat < 128)
    (hpi : Hid (∀ w, Calls Tryd.prog 60 #[.string (({ data := #[48] } ++ whole) ++ part), .int .i64 10, .int .i64 64] w fun e w' => e = .returned (.tuple #[.int .i64 V, .nilIface]) ∧ Below w.heap.size w w'))
    (hE : Hid (∀ w, Calls Tryd.prog 48 #[.int .i64 V, .int .i64 QE] w fun e w' => e = .returned (.tuple #[.agg #[.int .i64 r1, .int .i64 r2], .int .i64 r3]) ∧ Below w.heap.size w w')) :
    Calls Tryd.prog 36 #[.string s] w fun e w' => e = .returned (.tuple #[.agg #[.int .i64 r1, .int .i64 r2], .int .i64 r3]) ∧ Below w.heap.size w w' := by
  have hu23 := Tryd.underlying23
  go_enter Tryd.func36, Tryd.ntmps36
  go_wp2_with (first | (go_at_call 59; (with_reducible refine (hcut.out _).mono ?_); rintro e w1 ⟨rfl, ⟨n1, rfl⟩⟩) | (go_at_call 63; (with_reducible refine (hd.out _).mono ?_); rintro e w2 ⟨rfl, hb2⟩; have c20 := keep_c hb2 (b := w.heap.size) (o := 0) (v := .int .i64 0) (by go_simp); have c21 := keep_c hb2 (b := w.heap.size) (o := 1) (v := .int .i64 0) (by go_simp); have f20 := keep_f hb2 (b := w.heap.size) (o := 0) (v := .int .i64 0) (by go_simp) (by go_simp); have f21 := keep_f hb2 (b := w.heap.size) (o := 1) (v := .int .i64 0) (by go_simp) (by go_simp); have B2 : Below w.heap.size w w2 := below_step (pw_below_drewN (below_alloc (Below.refl _ _) _) _) hb2; clear hb2) | (go_at_call 63; (with_reducible refine (hd2.out _).mono ?_); rintro e w3 ⟨rfl, hb3⟩; have c30 := keep_c hb3 c20; have c31 := keep_c hb3 c21; have f30 := keep_f hb3 c20 f20; have f31 := keep_f hb3 c21 f21; have B3 : Below w.heap.size w w3 := below_step B2 hb3; clear hb3 B2 c20 c21 f20 f21))
  have hk0 : (w3.iter part 0).heap[w3.heap.size]? = some (.stringIter part 0) := World.iter_heap w3 part 0
  have l0 : w.heap.size < w3.heap.size := World.block_lt_of_cell? _ _ c30
  have hadd1 := fun w => run_string_add_sum (P := Tryd.prog) (w := w) { data := #[48] } whole (by show 1 + whole.size ≤ _; omega)
  have hz1 : (({ data := #[48] } : ByteArray) ++ whole).size = 1 + whole.size := ByteArray.size_append
  have hadd2 := fun w => run_string_add_sum (P := Tryd.prog) (w := w) ({ data := #[48] } ++ whole) part (by omega)
  clear hz1
  go_loopw [7] (fun q wr => ∃ (pos : Nat) (Q : Int), pos ≤ part.size ∧ wr.heap[w3.heap.size]? = some (.stringIter part pos) ∧ q = .int .i64 Q ∧ Hid (Q = ((10 ^ pos : Nat) : Int)) ∧ 0 ≤ Q ∧ Q ≤ 100000 ∧ wr.cell? ⟨w.heap.size, 0, none⟩ = some (.int .i64 0) ∧ wr.cell? ⟨w.heap.size, 1, none⟩ = some (.int .i64 0) ∧ wr.frozen? ⟨w.heap.size, 0, none⟩ = false ∧ wr.frozen? ⟨w.heap.size, 1, none⟩ = false ∧ Below w.heap.size w wr)
    (fun _ wr => part.size - wr.iterPos w3.heap.size)
  case atStart => exact ⟨0, 1, Nat.zero_le _, hk0, rfl, Lib.hid rfl, by omega, by omega, iter_cell c30, iter_cell c31, iter_frozen c30 f30, iter_frozen c31 f31, below_alloc B3 _⟩
  case round =>
    obtain ⟨pos, Q, hps2, hk, rfl, HQ, hQ0, hQ1, d0, d1, g0, g1, BR⟩ := hrel
    clear hk0 c30 c31 f30 f31 B3
    by_cases hp : pos < part.size
    · have h128 := hasc pos hp
      have hQ2 : Q ≤ 10000 := by
        rw [HQ.out]
        have : (10 : Nat) ^ pos ≤ 10 ^ 4 := Nat.pow_le_pow_right (by decide) (by omega)
        omega
      have hnext : ∀ ty, (Instr.next (.pointer (some ⟨w3.heap.size, 0, none⟩)) true ty).run Tryd.prog wr = _ := fun ty => Lib.run_next_ascii_at wr w3.heap.size part pos ty hk hp h128
      have hk1 := Lib.iterAt_heap wr w3.heap.size part pos (pos + 1) hk
      have hmu : wr.iterPos w3.heap.size = pos := by simp [World.iterPos, hk]
      have BR1 : Below w.heap.size w (wr.iterAt w3.heap.size part (pos + 1)) := Lib.below_iterAt BR (by omega) part (pos + 1)
      have d01 := iterAt_cell (k := w3.heap.size) (s := part) (pos := pos + 1) d0 (by show w.heap.size ≠ _; omega)
      have d11 := iterAt_cell (k := w3.heap.size) (s := part) (pos := pos + 1) d1 (by show w.heap.size ≠ _; omega)
      have g01 := iterAt_frozen (k := w3.heap.size) (s := part) (pos := pos + 1) g0 (by show w.heap.size ≠ _; omega)
      have g11 := iterAt_frozen (k := w3.heap.size) (s := part) (pos := pos + 1) g1 (by show w.heap.size ≠ _; omega)
      clear hk d0 d1 g0 g1 BR
      generalize wr.iterAt w3.heap.size part (pos + 1) = W1 at *
      go_wp2
      go_roundw
      case rel =>
        refine ⟨pos + 1, Q * 10, by omega, hk1, rfl, Lib.hid ?_, by omega, by omega, d01, d11, g01, g11, BR1⟩
        rw [HQ.out, Nat.pow_succ]; omega
      case measure =>
        have hmu2 : W1.iterPos w3.heap.size = pos + 1 := by simp [World.iterPos, hk1]
        rw [hmu, hmu2]
        omega
    · have hnext : ∀ ty, (Instr.next (.pointer (some ⟨w3.heap.size, 0, none⟩)) true ty).run Tryd.prog wr = _ := fun ty => Lib.run_next_end_at wr w3.heap.size part pos ty hk hp
      obtain rfl : pos = part.size := by omega
      obtain rfl : Q = QE := HQ.out.trans hQE.out.symm
      clear HQ hk hQ0 hQ1 hp
      go_wp2_with (first | (go_at_call 60; (with_reducible refine (hpi.out _).mono ?_); rintro e w5 ⟨rfl, hb5⟩; have c50 := keep_c hb5 d0; have c51 := keep_c hb5 d1; have f50 := keep_f hb5 d0 g0; have f51 := keep_f hb5 d1 g1; have B5 : Below w.heap.size w w5 := below_step BR hb5; clear hb5) | (go_at_call 48; (with_reducible refine (hE.out _).mono ?_); rintro e w6 ⟨rfl, hb6⟩; have c60 := keep_c hb6 c50; have c61 := keep_c hb6 c51; have f60 := keep_f hb6 c50 f50; have f61 := keep_f hb6 c51 f51; have B6 : Below w.heap.size w w6 := below_step B5 hb6; clear hb6))
      refine bodyPost_ret (v := .tuple #[.agg #[.int .i64 r1, .int .i64 r2], .int .i64 r3]) (by simp [results, Tryd.results36, go_sem, c60, c61]) rfl ⟨rfl, by repeat (first | exact B6 | refine below_set ?_ (Nat.le_refl _))⟩
theorem trimS_nil (l cs : List UInt8) : Lib.trimS l cs = [] ↔ ∀ c ∈ l, cs.contains c = true := by
  unfold Lib.trimS Lib.trimLeftS Lib.trimRightS
  have hd : ∀ (m : List UInt8), m.dropWhile (cs.contains ·) = [] ↔ ∀ c ∈ m, cs.contains c = true := by
    intro m
    induction m with
    | nil => simp
    | cons x m ih =>
      rw [List.dropWhile_cons]
      by_cases hx : cs.contains x = true
      · rw [if_pos hx, ih]; simp only [List.mem_cons, forall_eq_or_imp, hx, true_and]
      · rw [if_neg hx]; simp only [List.mem_cons, forall_eq_or_imp, hx, false_and, reduceCtorEq, Bool.false_eq_true]
  rw [hd]
  constructor
  · intro h
    by_cases hall : ∀ c ∈ l.reverse, cs.contains c = true
    · intro c hc; exact hall c (List.mem_reverse.mpr hc)
    · exfalso
      have hne : l.reverse.dropWhile (cs.contains ·) ≠ [] := fun e => hall ((hd _).mp e)
      obtain ⟨x, m, hxm⟩ := List.exists_cons_of_ne_nil hne
      have hx := List.head?_dropWhile_not (cs.contains ·) l.reverse
      rw [hxm] at hx
      simp only [List.head?_cons] at hx
      have := h x (by rw [hxm]; simp)
      rw [this] at hx
      cases hx
  · intro h c hc
    exact h c (by
      have h1 := List.mem_reverse.mp hc
      exact List.mem_reverse.mp ((List.dropWhile_suffix _).subset h1))
theorem digit_mem (c : UInt8) : ([48, 49, 50, 51, 52, 53, 54, 55, 56, 57] : List UInt8).contains c = (decide (48 ≤ c.toNat) && decide (c.toNat ≤ 57)) := by
  have h : ∀ n : Fin 256, ([48, 49, 50, 51, 52, 53, 54, 55, 56, 57] : List UInt8).contains (UInt8.ofNat n.val) = (decide (48 ≤ n.val) && decide (n.val ≤ 57)) := by decide +kernel
  have := h ⟨c.toNat, UInt8.toNat_lt c⟩
  simpa using this
theorem num_digits_eq (s : ByteArray) (hs : s.size ≤ 9223372036854775807) (l m : Nat) : num_digits.f s (l : Int) (m : Int) = some (digs s.data.toList l m) := by
  unfold num_digits.f digs strings_Trim.f
  have e : s.size = s.data.toList.length := Lib.size_eq s
  by_cases h1 : (s.size : Int) ≥ l
  · rw [if_pos h1]
    have h1' : decide (l ≤ s.data.toList.length) = true := decide_eq_true (by omega)
    by_cases h2 : (s.size : Int) ≤ m
    · rw [if_pos h2, if_pos ⟨hs, by decide, by decide⟩]
      have h2' : decide (s.data.toList.length ≤ m) = true := decide_eq_true (by omega)
      rw [h1', h2']
      simp only [Option.bind_some, Bool.true_and, Option.some.injEq]
      rw [Bool.eq_iff_iff, beq_iff_eq, Lib.toList_data]
      show Lib.trimS s.data.toList [48, 49, 50, 51, 52, 53, 54, 55, 56, 57] = [] ↔ _
      rw [trimS_nil, List.all_eq_true]
      constructor
      · intro h c hc; have := h c hc; rw [digit_mem] at this; exact this
      · intro h c hc; rw [digit_mem]; exact h c hc
    · rw [if_neg h2, show decide (s.data.toList.length ≤ m) = false from decide_eq_false (by omega)]
      simp
  · rw [if_neg h1, show decide (l ≤ s.data.toList.length) = false from decide_eq_false (by omega)]
    simp
theorem parseUintM_digs : ∀ (l : List UInt8) (acc e : Nat), (∀ c ∈ l, 48 ≤ c.toNat ∧ c.toNat ≤ 57) → acc < 10 ^ e → e + l.length ≤ 17 →
    Lib.parseUintM (2 ^ 64 - 1) acc l = .ok (l.foldl (fun n c => n * 10 + (c.toNat - 48)) acc) ∧ l.foldl (fun n c => n * 10 + (c.toNat - 48)) acc < 10 ^ (e + l.length)
  | [], acc, e, _, ha, _ => ⟨rfl, by simpa using ha⟩
  | c :: l, acc, e, hc, ha, hl => by
    have h0 := hc c (by simp)
    simp only [List.length_cons] at hl
    have hp : (10 : Nat) ^ e ≤ 10 ^ 16 := Nat.pow_le_pow_right (by decide) (by omega)
    have h1 : acc * 10 + (c.toNat - 48) < 10 ^ (e + 1) := by rw [Nat.pow_succ]; omega
    obtain ⟨i1, i2⟩ := parseUintM_digs l (acc * 10 + (c.toNat - 48)) (e + 1) (fun d hd => hc d (by simp [hd])) h1 (by omega)
    rw [Lib.parseUintM, if_pos h0, if_neg (by omega), if_neg (by omega), List.foldl_cons, List.length_cons, show e + (l.length + 1) = e + 1 + l.length by omega]
    exact ⟨i1, i2⟩
theorem digVal_nat : ∀ (l : List UInt8) (acc : Nat), (∀ c ∈ l, 48 ≤ c.toNat ∧ c.toNat ≤ 57) →
    l.foldl (fun (n : Int) c => 10 * n + ((c.toNat : Int) - 48)) (acc : Int) = ((l.foldl (fun n c => n * 10 + (c.toNat - 48)) acc : Nat) : Int)
  | [], _, _ => rfl
  | c :: l, acc, hc => by
    have h0 := hc c (by simp)
    rw [List.foldl_cons, List.foldl_cons, ← digVal_nat l _ (fun d hd => hc d (by simp [hd]))]
    congr 1
    omega
theorem parseVal_digs (l : List UInt8) (hl : l.length ≤ 14) (hc : ∀ c ∈ l, 48 ≤ c.toNat ∧ c.toNat ≤ 57) : parseVal (48 :: l) = (digVal l, true) := by
  have e : Lib.parseIntB 64 (48 :: l) = .ok (digVal l) := by
    unfold Lib.parseIntB
    simp only
    rw [if_neg (by decide)]
    unfold Lib.parseUintB
    rw [if_neg (by simp)]
    obtain ⟨i1, i2⟩ := parseUintM_digs l 0 0 hc (by decide) (by omega)
    have hp : (10 : Nat) ^ (0 + l.length) ≤ 10 ^ 14 := Nat.pow_le_pow_right (by decide) (by omega)
    have e1 : Lib.parseUintM (2 ^ 64 - 1) 0 (48 :: l) = Lib.parseUintM (2 ^ 64 - 1) 0 l := by
      rw [Lib.parseUintM, if_pos (by decide), if_neg (by decide), if_neg (by decide)]; rfl
    rw [e1, i1]
    simp only
    rw [if_neg (by rintro ⟨_, h⟩; omega), if_neg (by rintro ⟨h, _⟩; exact absurd h (by decide)), if_neg (by decide)]
    congr 1
    exact (digVal_nat l 0 hc).symm
  unfold parseVal
  rw [e]
theorem digs_all {l : List UInt8} {a b : Nat} (h : digs l a b = true) : a ≤ l.length ∧ l.length ≤ b ∧ ∀ c ∈ l, 48 ≤ c.toNat ∧ c.toNat ≤ 57 := by
  unfold digs at h
  simp only [Bool.and_eq_true, decide_eq_true_eq, List.all_eq_true] at h
  exact ⟨h.1.1, h.1.2, h.2⟩
theorem num_Decimal.calls (k : Nat) (a0 : ByteArray) (r1 r2 r3 : Int) (w : World) (h : num_Decimal.f k a0 = some (r1, r2, r3)) (hG : Glob w) :
    Calls Tryd.prog 36 #[.string a0] w fun e w' => e = .returned (.tuple #[.agg #[.int .i64 r1, .int .i64 r2], .int .i64 r3]) ∧ Below w.heap.size w w' := by
  unfold num_Decimal.f at h
  obtain ⟨⟨whole, part, there⟩, hcut, h⟩ := Option.bind_eq_some_iff.mp h
  obtain ⟨z1, z2⟩ := cut_size hcut
  have hC := Lib.hid (fun w => strings_Cut.calls a0 ⟨#[46]⟩ whole part there w hcut)
  have hD : ∀ (s : ByteArray) (l m : Nat) (b : Bool), s.size ≤ 4294967280 → digs s.data.toList l m = b → ∀ w, Calls Tryd.prog 63 #[.string s, .int .i64 l, .int .i64 m] w fun e w' => e = .returned (.bool b) ∧ Below w.heap.size w w' :=
    fun s l m b hs hb w => num_digits.calls s l m b w (by rw [num_digits_eq s (by omega), hb])
  simp only at h
  have hok : ∀ (h9 : whole.data.toList.length ≤ 9) (h5 : part.data.toList.length ≤ 5) (hw : ∀ c ∈ whole.data.toList, 48 ≤ c.toNat ∧ c.toNat ≤ 57) (hp : ∀ c ∈ part.data.toList, 48 ≤ c.toNat ∧ c.toNat ≤ 57),
      ∀ w, Calls Tryd.prog 60 #[.string (({ data := #[48] } ++ whole) ++ part), .int .i64 10, .int .i64 64] w fun e w' => e = .returned (.tuple #[.int .i64 (digVal (whole.data.toList ++ part.data.toList)), .nilIface]) ∧ Below w.heap.size w w' := by
    intro h9 h5 hw hp w
    have ed : (({ data := #[48] } ++ whole) ++ part : ByteArray).data.toList = 48 :: (whole.data.toList ++ part.data.toList) := by simp
    have ez : (({ data := #[48] } ++ whole) ++ part : ByteArray).size = 1 + (whole.data.toList.length + part.data.toList.length) := by
      rw [Lib.size_eq, ed, List.length_cons, List.length_append]; omega
    have ev := parseVal_digs (whole.data.toList ++ part.data.toList) (by rw [List.length_append]; omega) (by
      intro c hc
      rcases List.mem_append.mp hc with h | h
      · exact hw c h
      · exact hp c h)
    rw [← ed] at ev
    have := PI_ok (({ data := #[48] } ++ whole) ++ part) (by rw [ez]; omega) (by rw [ev]) w
    rw [ev] at this
    exact this
  have hz1 : whole.size = whole.data.toList.length := Lib.size_eq whole
  have hz2 : part.size = part.data.toList.length := Lib.size_eq part
  have hX := fun w (g : rational_Exact.f k (digVal (whole.data.toList ++ part.data.toList)) ((10 ^ part.data.toList.length : Nat) : Int) = some (r1, r2, r3)) => rational_Exact.calls k _ _ r1 r2 r3 w g
  have hasc : ∀ (hp : ∀ c ∈ part.data.toList, 48 ≤ c.toNat ∧ c.toNat ≤ 57), ∀ (i : Nat) (h : i < part.size), (part[i]'h).toNat < 128 := by
    intro hp i h
    have := hp (part[i]'h) (by
      show part.data[i] ∈ part.data.toList
      exact Array.mem_toList_iff.mpr (Array.getElem_mem _))
    omega
  cases there with
  | false =>
    simp only [Bool.false_eq_true, if_false] at h
    cases hd : digs whole.data.toList 1 9 with
    | false =>
      rw [hd, if_neg (by decide)] at h
      simp only [Option.some.injEq, Prod.mk.injEq] at h
      obtain ⟨rfl, rfl, rfl⟩ := h
      exact Decimal_D0 a0 whole part w hC (Lib.hid (hD whole 1 9 false z1 hd))
    | true =>
      rw [hd, if_pos rfl] at h
      obtain ⟨d1, d2, d3⟩ := digs_all hd
      have hpart : part.data.toList = [] := by
        unfold strings_Cut.f at hcut
        split at hcut
        case isFalse => cases hcut
        simp only [Option.some.injEq, Prod.mk.injEq] at hcut
        obtain ⟨_, rfl, g3⟩ := hcut
        unfold Lib.cut at g3 ⊢
        split at g3
        · cases g3
        · rename_i hn; rw [if_neg hn]
      have hp : ∀ c ∈ part.data.toList, 48 ≤ c.toNat ∧ c.toNat ≤ 57 := by rw [hpart]; intro c hc; cases hc
      refine Decimal_D3 a0 whole part w hC (Lib.hid (hD whole 1 9 true z1 hd)) r1 r2 r3 _ _ (Lib.hid rfl) (by rw [hz2, hpart]; decide) (by omega) (hasc hp) (Lib.hid (hok d2 (by rw [hpart]; decide) d3 hp)) (Lib.hid fun w => ?_)
      rw [hz2]
      exact hX w h
  | true =>
    simp only [if_true] at h
    cases hd : digs whole.data.toList 0 9 with
    | false =>
      rw [hd, if_neg (by simp)] at h
      simp only [Option.some.injEq, Prod.mk.injEq] at h
      obtain ⟨rfl, rfl, rfl⟩ := h
      exact Decimal_D1 a0 whole part w hC (Lib.hid (hD whole 0 9 false z1 hd))
    | true =>
      cases hd2 : digs part.data.toList 1 5 with
      | false =>
        rw [hd, hd2, if_neg (by simp)] at h
        simp only [Option.some.injEq, Prod.mk.injEq] at h
        obtain ⟨rfl, rfl, rfl⟩ := h
        exact Decimal_D2 a0 whole part w hC (Lib.hid (hD whole 0 9 true z1 hd)) (Lib.hid (hD part 1 5 false z2 hd2))
      | true =>
        rw [hd, hd2, if_pos (by simp)] at h
        obtain ⟨d1, d2, d3⟩ := digs_all hd
        obtain ⟨e1, e2, e3⟩ := digs_all hd2
        refine Decimal_D4 a0 whole part w hC (Lib.hid (hD whole 0 9 true z1 hd)) (Lib.hid (hD part 1 5 true z2 hd2)) r1 r2 r3 _ _ (Lib.hid rfl) (by omega) (by omega) (hasc e3) (Lib.hid (hok d2 e2 d3 e3)) (Lib.hid fun w => ?_)
        rw [hz2]
        exact hX w h

/-! ### num_Floor: function 39 -/
def num_Floor.f (k : Nat) (a0_0 : Int) (a0_1 : Int) : Option (Int × Int) := (num_Valid.f k a0_0 a0_1).bind fun t191 => (if t191 = true then ((rational_Floor.f a0_0 a0_1).bind fun bt192 => (some (bt192.1, 0))) else (some (0, 2)))
theorem num_Floor.mono : ∀ a0 a1 k, LeO (num_Floor.f k a0 a1) (num_Floor.f (k + 1) a0 a1) := by
  intro a0 a1 k
  unfold num_Floor.f
  repeat' first
      | (with_reducible exact num_Valid.mono _ _ _)
      | (with_reducible exact LeO.refl _)
      | (with_reducible exact LeO.none _)
      | (with_reducible refine LeO.ite ?_ ?_)
      | (with_reducible refine LeO.bind ?_ (fun _ => ?_))
      | exact num_Valid.mono _ _ _
      | exact LeO.none _
      | refine LeO.ite ?_ ?_
      | refine LeO.bind ?_ (fun _ => ?_)
set_option maxHeartbeats 8000000 in
set_option maxRecDepth 100000 in
theorem num_Floor.calls (k : Nat) (a0_0 : Int) (a0_1 : Int) (r1 : Int) (r2 : Int) (w : World) (h : num_Floor.f k a0_0 a0_1 = some (r1, r2)) :
    Calls Tryd.prog 39 #[.agg #[.int .i64 a0_0, .int .i64 a0_1]] w fun e w' => e = .returned (.tuple #[.int .i64 r1, .int .i64 r2]) ∧ Below w.heap.size w w' := by
  have hu23 := Tryd.underlying23
  have HB := Fa.mk (Below.refl w.heap.size w)
  have H : ((num_Valid.f k a0_0 a0_1).bind fun t191 => (if t191 = true then ((rational_Floor.f a0_0 a0_1).bind fun bt192 => (some (bt192.1, 0))) else (some (0, 2)))) = some (r1, r2) := h
  clear h
  replace H := Option.bind_eq_some_iff.mp H
  obtain ⟨t191, A20, H⟩ := H
  replace H : (if t191 = true then ((rational_Floor.f a0_0 a0_1).bind fun bt192 => (some (bt192.1, 0))) else (some (0, 2))) = some (r1, r2) := H
  have A2 := Fa.mk A20
  clear A20
  by_cases c3 : t191 = true
  · subst c3
    have H1 : ((rational_Floor.f a0_0 a0_1).bind fun bt192 => (some (bt192.1, 0))) = some (r1, r2) := by rw [if_pos rfl] at H; exact H
    clear H
    have H := H1
    clear H1
    replace H := Option.bind_eq_some_iff.mp H
    obtain ⟨⟨t192, t193⟩, A40, H⟩ := H
    replace H : (some (t192, 0)) = some (r1, r2) := H
    have A4 := Fa.mk A40
    clear A40
    simp only [Option.some.injEq, Prod.mk.injEq] at H
    obtain ⟨rfl, rfl⟩ := H
    go_enter Tryd.func39, Tryd.ntmps39
    go_wp2_with (first | ((with_reducible refine gate_dst (N := 1) rfl ?_); refine boxF (N := 1) (cs := #[.int .i64 a0_0, .int .i64 a0_1]) (t := 23) ?_; intro gb190 hg w5 hbox hb; have n0_ := Fa.mk (bst w hb); have n1_ := Fa.mk (hbox); have n2_ := Fa.mk (gle hg : w.heap.size ≤ gb190); have n3_ := n2_; clear HB; have HB := n0_; have BK190 := n1_; have GW190 := n2_; have GE190 := n3_; clear n0_ n1_ n2_ n3_; clear hb hbox hg; have hcz6_0 : w5.cell? ⟨gb190, 0, none⟩ = some (.int .i64 a0_0) := (blk_cell BK190.out 0).trans rfl; have hcz6_1 : w5.cell? ⟨gb190, 1, none⟩ = some (.int .i64 a0_1) := (blk_cell BK190.out 1).trans rfl; have hfz6_0 := blk_frozen BK190.out 0; have hfz6_1 := blk_frozen BK190.out 1) | ((with_reducible refine gate_callee (f := 15) rfl ?_); refine goesA (some 7) rfl rfl Tryd.func15 (by kernel_rfl) rfl #[.agg #[.int .i64 a0_0, .int .i64 a0_1]] rfl ?_; (with_reducible refine (num_Valid.calls k a0_0 a0_1 true _ A2.out).mono ?_); rintro e w7 ⟨rfl, hb⟩; refine ⟨_, rfl, ?_⟩; have n0_ := Fa.mk (blk_below (g := gb190) (o := .cells #[.int .i64 a0_0, .int .i64 a0_1] 23 (0, 0)) fa hb); have n1_ := Fa.mk (bst w hb); clear BK190; clear HB; have BK190 := n0_; have HB := n1_; clear n0_ n1_; (try clear hb); (try clear hb2); (try clear hk); (try clear hi); have hcz8_0 : w7.cell? ⟨gb190, 0, none⟩ = some (.int .i64 a0_0) := (blk_cell BK190.out 0).trans rfl; have hcz8_1 : w7.cell? ⟨gb190, 1, none⟩ = some (.int .i64 a0_1) := (blk_cell BK190.out 1).trans rfl; have hfz8_0 := blk_frozen BK190.out 0; have hfz8_1 := blk_frozen BK190.out 1) | ((with_reducible refine gate_callee (f := 65) rfl ?_); refine goesA (some 14) rfl rfl Tryd.func65 (by kernel_rfl) rfl #[.int .i64 a0_0, .int .i64 a0_1] rfl ?_; (with_reducible refine (rational_Floor.calls a0_0 a0_1 t192 t193 _ A4.out).mono ?_); rintro e w' ⟨rfl, ⟨nd, rfl⟩⟩; refine ⟨_, rfl, ?_⟩))
    go_ret2
    exact ⟨by first | rfl | (simp [errW_none, errW_some] <;> rfl) | (simp [*, errW_none, errW_some] <;> rfl), fa⟩
  · replace c3 := Bool.eq_false_iff.mpr c3
    subst c3
    have H1 : (some (0, 2)) = some (r1, r2) := by rw [if_neg (show ¬ (false = true) by decide)] at H; exact H
    clear H
    have H := H1
    clear H1
    simp only [Option.some.injEq, Prod.mk.injEq] at H
    obtain ⟨rfl, rfl⟩ := H
    go_enter Tryd.func39, Tryd.ntmps39
    go_wp2_with (first | ((with_reducible refine gate_dst (N := 1) rfl ?_); refine boxF (N := 1) (cs := #[.int .i64 a0_0, .int .i64 a0_1]) (t := 23) ?_; intro gb190 hg w9 hbox hb; have n0_ := Fa.mk (bst w hb); have n1_ := Fa.mk (hbox); have n2_ := Fa.mk (gle hg : w.heap.size ≤ gb190); have n3_ := n2_; clear HB; have HB := n0_; have BK190 := n1_; have GW190 := n2_; have GE190 := n3_; clear n0_ n1_ n2_ n3_; clear hb hbox hg; have hcz10_0 : w9.cell? ⟨gb190, 0, none⟩ = some (.int .i64 a0_0) := (blk_cell BK190.out 0).trans rfl; have hcz10_1 : w9.cell? ⟨gb190, 1, none⟩ = some (.int .i64 a0_1) := (blk_cell BK190.out 1).trans rfl; have hfz10_0 := blk_frozen BK190.out 0; have hfz10_1 := blk_frozen BK190.out 1) | ((with_reducible refine gate_callee (f := 15) rfl ?_); refine goesA (some 7) rfl rfl Tryd.func15 (by kernel_rfl) rfl #[.agg #[.int .i64 a0_0, .int .i64 a0_1]] rfl ?_; (with_reducible refine (num_Valid.calls k a0_0 a0_1 false _ A2.out).mono ?_); rintro e w11 ⟨rfl, hb⟩; refine ⟨_, rfl, ?_⟩; have n0_ := Fa.mk (blk_below (g := gb190) (o := .cells #[.int .i64 a0_0, .int .i64 a0_1] 23 (0, 0)) fa hb); have n1_ := Fa.mk (bst w hb); clear BK190; clear HB; have BK190 := n0_; have HB := n1_; clear n0_ n1_; (try clear hb); (try clear hb2); (try clear hk); (try clear hi)))
    go_ret2
    exact ⟨by first | rfl | (simp [errW_none, errW_some] <;> rfl) | (simp [*, errW_none, errW_some] <;> rfl), fa⟩

/-! ### num_Left: function 66 -/
def num_Left.f (k : Nat) (a0_0 : Int) (a0_1 : Int) (a1_0 : Int) (a1_1 : Int) : Option (Int × Int × Int) := (num_valid.f k (([(⟨a0_0, a0_1⟩ : S23), (⟨a1_0, a1_1⟩ : S23)] : List (S23)))).bind fun t199 => (if t199 = true then (if a1_0 = 0 then (some (0, 0, 18)) else (if (wrap64 (a1_0 * a0_1)) = 0 then (none) else (if (Int.tmod (wrap64 (a0_0 * a1_1)) (wrap64 (a1_0 * a0_1))) = 0 then (some (Int.tmod (wrap64 (a0_0 * a1_1)) (wrap64 (a1_0 * a0_1)), wrap64 (a0_1 * a1_1), 0)) else (if ((decide ((Int.tmod (wrap64 (a0_0 * a1_1)) (wrap64 (a1_0 * a0_1))) < 0)) != (decide ((wrap64 (a1_0 * a0_1)) < 0))) = true then (some (wrap64 ((Int.tmod (wrap64 (a0_0 * a1_1)) (wrap64 (a1_0 * a0_1))) + (wrap64 (a1_0 * a0_1))), wrap64 (a0_1 * a1_1), 0)) else (some (Int.tmod (wrap64 (a0_0 * a1_1)) (wrap64 (a1_0 * a0_1)), wrap64 (a0_1 * a1_1), 0)))))) else (some (0, 0, 2)))
theorem num_Left.mono : ∀ a0 a1 a2 a3 k, LeO (num_Left.f k a0 a1 a2 a3) (num_Left.f (k + 1) a0 a1 a2 a3) := by
  intro a0 a1 a2 a3 k
  unfold num_Left.f
  repeat' first
      | (with_reducible exact num_valid.mono _ _)
      | (with_reducible exact LeO.refl _)
      | (with_reducible exact LeO.none _)
      | (with_reducible refine LeO.ite ?_ ?_)
      | (with_reducible refine LeO.bind ?_ (fun _ => ?_))
      | exact num_valid.mono _ _
      | exact LeO.none _
      | refine LeO.ite ?_ ?_
      | refine LeO.bind ?_ (fun _ => ?_)
set_option maxHeartbeats 8000000 in
set_option maxRecDepth 100000 in
theorem num_Left.calls (k : Nat) (a0_0 : Int) (a0_1 : Int) (a1_0 : Int) (a1_1 : Int) (r1 : Int) (r2 : Int) (r3 : Int) (w : World) (h : num_Left.f k a0_0 a0_1 a1_0 a1_1 = some (r1, r2, r3)) :
    Calls Tryd.prog 66 #[.agg #[.int .i64 a0_0, .int .i64 a0_1], .agg #[.int .i64 a1_0, .int .i64 a1_1]] w fun e w' => e = .returned (.tuple #[.int .i64 r1, .int .i64 r2, .int .i64 r3]) ∧ Below w.heap.size w w' := by
  have hu23 := Tryd.underlying23
  have HB := Fa.mk (Below.refl w.heap.size w)
  have H : ((num_valid.f k (([(⟨a0_0, a0_1⟩ : S23), (⟨a1_0, a1_1⟩ : S23)] : List (S23)))).bind fun t199 => (if t199 = true then (if a1_0 = 0 then (some (0, 0, 18)) else (if (wrap64 (a1_0 * a0_1)) = 0 then (none) else (if (Int.tmod (wrap64 (a0_0 * a1_1)) (wrap64 (a1_0 * a0_1))) = 0 then (some (Int.tmod (wrap64 (a0_0 * a1_1)) (wrap64 (a1_0 * a0_1)), wrap64 (a0_1 * a1_1), 0)) else (if ((decide ((Int.tmod (wrap64 (a0_0 * a1_1)) (wrap64 (a1_0 * a0_1))) < 0)) != (decide ((wrap64 (a1_0 * a0_1)) < 0))) = true then (some (wrap64 ((Int.tmod (wrap64 (a0_0 * a1_1)) (wrap64 (a1_0 * a0_1))) + (wrap64 (a1_0 * a0_1))), wrap64 (a0_1 * a1_1), 0)) else (some (Int.tmod (wrap64 (a0_0 * a1_1)) (wrap64 (a1_0 * a0_1)), wrap64 (a0_1 * a1_1), 0)))))) else (some (0, 0, 2)))) = some (r1, r2, r3) := h
  clear h
  obtain ⟨y196, hy196⟩ : ∃ y_ : List (S23), y_ = (([(⟨a0_0, a0_1⟩ : S23), (⟨a1_0, a1_1⟩ : S23)] : List (S23))) := ⟨_, rfl⟩
  replace H : ((num_valid.f k y196).bind fun t199 => (if t199 = true then (if a1_0 = 0 then (some (0, 0, 18)) else (if (wrap64 (a1_0 * a0_1)) = 0 then (none) else (if (Int.tmod (wrap64 (a0_0 * a1_1)) (wrap64 (a1_0 * a0_1))) = 0 then (some (Int.tmod (wrap64 (a0_0 * a1_1)) (wrap64 (a1_0 * a0_1)), wrap64 (a0_1 * a1_1), 0)) else (if ((decide ((Int.tmod (wrap64 (a0_0 * a1_1)) (wrap64 (a1_0 * a0_1))) < 0)) != (decide ((wrap64 (a1_0 * a0_1)) < 0))) = true then (some (wrap64 ((Int.tmod (wrap64 (a0_0 * a1_1)) (wrap64 (a1_0 * a0_1))) + (wrap64 (a1_0 * a0_1))), wrap64 (a0_1 * a1_1), 0)) else (some (Int.tmod (wrap64 (a0_0 * a1_1)) (wrap64 (a1_0 * a0_1)), wrap64 (a0_1 * a1_1), 0)))))) else (some (0, 0, 2)))) = some (r1, r2, r3) := by first | (rw [hy196]; with_reducible exact H) | (have H2_ := (Option.bind_some _ _).symm.trans H; rw [hy196]; with_reducible exact H2_) | (have H2_ := (Option.bind_some _ _).symm.trans H; with_reducible exact H2_) | with_reducible exact H | (rw [hy196]; exact H) | exact H
  have Ny196 := Fa.mk hy196
  clear hy196
  replace H := Option.bind_eq_some_iff.mp H
  obtain ⟨t199, A30, H⟩ := H
  replace H : (if t199 = true then (if a1_0 = 0 then (some (0, 0, 18)) else (if (wrap64 (a1_0 * a0_1)) = 0 then (none) else (if (Int.tmod (wrap64 (a0_0 * a1_1)) (wrap64 (a1_0 * a0_1))) = 0 then (some (Int.tmod (wrap64 (a0_0 * a1_1)) (wrap64 (a1_0 * a0_1)), wrap64 (a0_1 * a1_1), 0)) else (if ((decide ((Int.tmod (wrap64 (a0_0 * a1_1)) (wrap64 (a1_0 * a0_1))) < 0)) != (decide ((wrap64 (a1_0 * a0_1)) < 0))) = true then (some (wrap64 ((Int.tmod (wrap64 (a0_0 * a1_1)) (wrap64 (a1_0 * a0_1))) + (wrap64 (a1_0 * a0_1))), wrap64 (a0_1 * a1_1), 0)) else (some (Int.tmod (wrap64 (a0_0 * a1_1)) (wrap64 (a1_0 * a0_1)), wrap64 (a0_1 * a1_1), 0)))))) else (some (0, 0, 2))) = some (r1, r2, r3) := H
  have A3 := Fa.mk A30
  clear A30
  by_cases c4 : t199 = true
  · subst c4
    have H1 : (if a1_0 = 0 then (some (0, 0, 18)) else (if (wrap64 (a1_0 * a0_1)) = 0 then (none) else (if (Int.tmod (wrap64 (a0_0 * a1_1)) (wrap64 (a1_0 * a0_1))) = 0 then (some (Int.tmod (wrap64 (a0_0 * a1_1)) (wrap64 (a1_0 * a0_1)), wrap64 (a0_1 * a1_1), 0)) else (if ((decide ((Int.tmod (wrap64 (a0_0 * a1_1)) (wrap64 (a1_0 * a0_1))) < 0)) != (decide ((wrap64 (a1_0 * a0_1)) < 0))) = true then (some (wrap64 ((Int.tmod (wrap64 (a0_0 * a1_1)) (wrap64 (a1_0 * a0_1))) + (wrap64 (a1_0 * a0_1))), wrap64 (a0_1 * a1_1), 0)) else (some (Int.tmod (wrap64 (a0_0 * a1_1)) (wrap64 (a1_0 * a0_1)), wrap64 (a0_1 * a1_1), 0)))))) = some (r1, r2, r3) := by rw [if_pos rfl] at H; exact H
    clear H
    have H := H1
    clear H1
    by_cases c5 : a1_0 = 0
    · rw [if_pos c5] at H
      have c5b0 : (a1_0 == 0) = true := beq_iff_eq.mpr c5
      have c5b1 : (a1_0 != 0) = false := bne_eq_false_iff_eq.mpr c5
      clear c5
      simp only [Option.some.injEq, Prod.mk.injEq] at H
      obtain ⟨rfl, rfl, rfl⟩ := H
      go_enter Tryd.func66, Tryd.ntmps66
      iterate 4 (go_wp2_with (first | ((with_reducible refine gate_dst (N := 2) rfl ?_); refine boxF (N := 2) (cs := #[.int .i64 a0_0, .int .i64 a0_1]) (t := 23) ?_; intro gb194 hg w6 hbox hb; have n0_ := Fa.mk (bst w hb); have n1_ := Fa.mk (hbox); have n2_ := Fa.mk (gle hg : w.heap.size ≤ gb194); have n3_ := n2_; clear HB; have HB := n0_; have BK194 := n1_; have GW194 := n2_; have GE194 := n3_; clear n0_ n1_ n2_ n3_; clear hb hbox hg) | ((with_reducible refine gate_dst (N := 3) rfl ?_); refine boxF (N := 3) (cs := #[.int .i64 a1_0, .int .i64 a1_1]) (t := 23) ?_; intro gb195 hg w7 hbox hb; have n0_ := Fa.mk (blk_below (g := gb194) (o := .cells #[.int .i64 a0_0, .int .i64 a0_1] 23 (0, 0)) fa hb); have n1_ := Fa.mk (bst w hb); have n2_ := Fa.mk (hbox); have n3_ := Fa.mk (gle hg : w.heap.size ≤ gb195); have n4_ := n3_; have n5_ := Fa.mk (gne (o := .cells #[.int .i64 a0_0, .int .i64 a0_1] 23 (0, 0)) hg : gb194 ≠ gb195); have n6_ := Fa.mk n5_.out.symm; clear BK194; clear HB; have BK194 := n0_; have HB := n1_; have BK195 := n2_; have GW195 := n3_; have GE195 := n4_; have NB194_195 := n5_; have NB195_194 := n6_; clear n0_ n1_ n2_ n3_ n4_ n5_ n6_; clear hb hbox hg; have hnb8 := NB194_195.out; have hnc8 := NB195_194.out; have hcz9_0 : w7.cell? ⟨gb194, 0, none⟩ = some (.int .i64 a0_0) := (blk_cell BK194.out 0).trans rfl; have hcz9_1 : w7.cell? ⟨gb194, 1, none⟩ = some (.int .i64 a0_1) := (blk_cell BK194.out 1).trans rfl; have hfz9_0 := blk_frozen BK194.out 0; have hfz9_1 := blk_frozen BK194.out 1; have hcz10_0 : w7.cell? ⟨gb195, 0, none⟩ = some (.int .i64 a1_0) := (blk_cell BK195.out 0).trans rfl; have hcz10_1 : w7.cell? ⟨gb195, 1, none⟩ = some (.int .i64 a1_1) := (blk_cell BK195.out 1).trans rfl; have hfz10_0 := blk_frozen BK195.out 0; have hfz10_1 := blk_frozen BK195.out 1) | ((with_reducible refine gate_dst (N := 12) rfl ?_); refine Kd.R_lit k23 _ 23 ?hg (N := 12) ?hd (xs := ([(⟨a0_0, a0_1⟩ : S23), (⟨a1_0, a1_1⟩ : S23)] : List (S23))) (inner := [.int .i64 a0_0, .int .i64 a0_1, .int .i64 a1_0, .int .i64 a1_1]) (ok := fun _ => True) (okp := fun _ => True) ?hr ?hp (fun _ hk => hk) trivial (Below.refl _ _) (Nat.le_refl _) (by simp) ?_; (case hd => rfl); (case hg => rfl); (case hr => first | (go_simp; done) | (go_simp; rfl)); (case hp => exact (Reps.c2 (show Kd.M k23 _ _ _ (⟨a0_0, a0_1⟩ : S23) [.int .i64 a0_0, .int .i64 a0_1] from (k23_mkM _ _ _ (⟨a0_0, a0_1⟩ : S23) )) (Reps.c2 (show Kd.M k23 _ _ _ (⟨a1_0, a1_1⟩ : S23) [.int .i64 a1_0, .int .i64 a1_1] from (k23_mkM _ _ _ (⟨a1_0, a1_1⟩ : S23) )) (Reps.none _ _)))); intro v197 w11 ho12 hb hg_ hnew_; clear hg_ hnew_; (first | rw [← Ny196.out] at ho12 | (simp only [Int.reduceToNat] at ho12; rw [← Ny196.out] at ho12)); have n0_ := Fa.mk (Kd.R_lower (Kd.R_newB (Kd.R_newB ho12 (g := gb194) (o := .cells #[.int .i64 a0_0, .int .i64 a0_1] 23 (0, 0)) fa) (g := gb195) (o := .cells #[.int .i64 a1_0, .int .i64 a1_1] 23 (0, 0)) fa) (bsz w)); have n1_ := Fa.mk (blk_below (g := gb194) (o := .cells #[.int .i64 a0_0, .int .i64 a0_1] 23 (0, 0)) fa hb); have n2_ := Fa.mk (blk_below (g := gb195) (o := .cells #[.int .i64 a1_0, .int .i64 a1_1] 23 (0, 0)) fa hb); have n3_ := Fa.mk (bst w hb); clear BK194; clear BK195; clear HB; have HO198 := n0_; have BK194 := n1_; have BK195 := n2_; have HB := n3_; clear n0_ n1_ n2_ n3_; clear hb ho12; obtain ⟨Ao13, co13, eo13⟩ := Kd.R_slice HO198.out; subst eo13) | (go_at_call 64; (with_reducible refine (num_valid.calls k _ _ y196 true _ ?side1 ?side2 A3.out).mono ?_); (case side1 => repeat (first | exact (Kd.R_reads' HO198.out).2.2 | (with_reducible refine Kd.C_alloc ?_ _) | (with_reducible refine Kd.C_drewN ?_ _) | (with_reducible refine Kd.C_drew ?_))); (case side2 => exact (Kd.R_reads' HO198.out).2.1); rintro e w14 ⟨rfl, hb⟩; have n0_ := Fa.mk (Kd.R_below (by (with_reducible repeat (first | apply Kd.R_alloc | apply Kd.R_drewN | apply Kd.R_drew)); exact HO198.out) hb); have n1_ := Fa.mk (blk_below (g := gb194) (o := .cells #[.int .i64 a0_0, .int .i64 a0_1] 23 (0, 0)) fa hb); have n2_ := Fa.mk (blk_below (g := gb195) (o := .cells #[.int .i64 a1_0, .int .i64 a1_1] 23 (0, 0)) fa hb); have n3_ := Fa.mk (bst w hb); clear HO198; clear BK194; clear BK195; clear HB; have HO198 := n0_; have BK194 := n1_; have BK195 := n2_; have HB := n3_; clear n0_ n1_ n2_ n3_; (try clear hb); (try clear hb2); (try clear hk); (try clear hi); have hcz15_0 : w14.cell? ⟨gb195, 0, none⟩ = some (.int .i64 a1_0) := (blk_cell BK195.out 0).trans rfl; have hcz15_1 : w14.cell? ⟨gb195, 1, none⟩ = some (.int .i64 a1_1) := (blk_cell BK195.out 1).trans rfl; have hfz15_0 := blk_frozen BK195.out 0; have hfz15_1 := blk_frozen BK195.out 1)); (try go_quiet (fail)))
      go_ret3
      exact ⟨by first | rfl | (simp [errW_none, errW_some] <;> rfl) | (simp [*, errW_none, errW_some] <;> rfl), fa⟩
    · rw [if_neg c5] at H
      have c5b0 : (a1_0 == 0) = false := beq_eq_false_iff_ne.mpr c5
      have c5b1 : (a1_0 != 0) = true := bne_iff_ne.mpr c5
      by_cases c16 : (wrap64 (a1_0 * a0_1)) = 0
      · rw [if_pos c16] at H
        exact absurd H (by simp)
      · rw [if_neg c16] at H
        have c16b0 : ((wrap64 (a1_0 * a0_1)) == 0) = false := beq_eq_false_iff_ne.mpr c16
        have c16b1 : ((wrap64 (a1_0 * a0_1)) != 0) = true := bne_iff_ne.mpr c16
        by_cases c17 : (Int.tmod (wrap64 (a0_0 * a1_1)) (wrap64 (a1_0 * a0_1))) = 0
        · rw [if_pos c17] at H
          have c17b0 : ((Int.tmod (wrap64 (a0_0 * a1_1)) (wrap64 (a1_0 * a0_1))) == 0) = true := beq_iff_eq.mpr c17
          have c17b1 : ((Int.tmod (wrap64 (a0_0 * a1_1)) (wrap64 (a1_0 * a0_1))) != 0) = false := bne_eq_false_iff_eq.mpr c17
          clear c17
          simp only [Option.some.injEq, Prod.mk.injEq] at H
          obtain ⟨rfl, rfl, rfl⟩ := H
          go_enter Tryd.func66, Tryd.ntmps66
          iterate 4 (go_wp2_with (first | ((with_reducible refine gate_dst (N := 2) rfl ?_); refine boxF (N := 2) (cs := #[.int .i64 a0_0, .int .i64 a0_1]) (t := 23) ?_; intro gb194 hg w18 hbox hb; have n0_ := Fa.mk (bst w hb); have n1_ := Fa.mk (hbox); have n2_ := Fa.mk (gle hg : w.heap.size ≤ gb194); have n3_ := n2_; clear HB; have HB := n0_; have BK194 := n1_; have GW194 := n2_; have GE194 := n3_; clear n0_ n1_ n2_ n3_; clear hb hbox hg) | ((with_reducible refine gate_dst (N := 3) rfl ?_); refine boxF (N := 3) (cs := #[.int .i64 a1_0, .int .i64 a1_1]) (t := 23) ?_; intro gb195 hg w19 hbox hb; have n0_ := Fa.mk (blk_below (g := gb194) (o := .cells #[.int .i64 a0_0, .int .i64 a0_1] 23 (0, 0)) fa hb); have n1_ := Fa.mk (bst w hb); have n2_ := Fa.mk (hbox); have n3_ := Fa.mk (gle hg : w.heap.size ≤ gb195); have n4_ := n3_; have n5_ := Fa.mk (gne (o := .cells #[.int .i64 a0_0, .int .i64 a0_1] 23 (0, 0)) hg : gb194 ≠ gb195); have n6_ := Fa.mk n5_.out.symm; clear BK194; clear HB; have BK194 := n0_; have HB := n1_; have BK195 := n2_; have GW195 := n3_; have GE195 := n4_; have NB194_195 := n5_; have NB195_194 := n6_; clear n0_ n1_ n2_ n3_ n4_ n5_ n6_; clear hb hbox hg; have hnb20 := NB194_195.out; have hnc20 := NB195_194.out; have hcz21_0 : w19.cell? ⟨gb194, 0, none⟩ = some (.int .i64 a0_0) := (blk_cell BK194.out 0).trans rfl; have hcz21_1 : w19.cell? ⟨gb194, 1, none⟩ = some (.int .i64 a0_1) := (blk_cell BK194.out 1).trans rfl; have hfz21_0 := blk_frozen BK194.out 0; have hfz21_1 := blk_frozen BK194.out 1; have hcz22_0 : w19.cell? ⟨gb195, 0, none⟩ = some (.int .i64 a1_0) := (blk_cell BK195.out 0).trans rfl; have hcz22_1 : w19.cell? ⟨gb195, 1, none⟩ = some (.int .i64 a1_1) := (blk_cell BK195.out 1).trans rfl; have hfz22_0 := blk_frozen BK195.out 0; have hfz22_1 := blk_frozen BK195.out 1) | ((with_reducible refine gate_dst (N := 12) rfl ?_); refine Kd.R_lit k23 _ 23 ?hg (N := 12) ?hd (xs := ([(⟨a0_0, a0_1⟩ : S23), (⟨a1_0, a1_1⟩ : S23)] : List (S23))) (inner := [.int .i64 a0_0, .int .i64 a0_1, .int .i64 a1_0, .int .i64 a1_1]) (ok := fun _ => True) (okp := fun _ => True) ?hr ?hp (fun _ hk => hk) trivial (Below.refl _ _) (Nat.le_refl _) (by simp) ?_; (case hd => rfl); (case hg => rfl); (case hr => first | (go_simp; done) | (go_simp; rfl)); (case hp => exact (Reps.c2 (show Kd.M k23 _ _ _ (⟨a0_0, a0_1⟩ : S23) [.int .i64 a0_0, .int .i64 a0_1] from (k23_mkM _ _ _ (⟨a0_0, a0_1⟩ : S23) )) (Reps.c2 (show Kd.M k23 _ _ _ (⟨a1_0, a1_1⟩ : S23) [.int .i64 a1_0, .int .i64 a1_1] from (k23_mkM _ _ _ (⟨a1_0, a1_1⟩ : S23) )) (Reps.none _ _)))); intro v197 w23 ho24 hb hg_ hnew_; clear hg_ hnew_; (first | rw [← Ny196.out] at ho24 | (simp only [Int.reduceToNat] at ho24; rw [← Ny196.out] at ho24)); have n0_ := Fa.mk (Kd.R_lower (Kd.R_newB (Kd.R_newB ho24 (g := gb194) (o := .cells #[.int .i64 a0_0, .int .i64 a0_1] 23 (0, 0)) fa) (g := gb195) (o := .cells #[.int .i64 a1_0, .int .i64 a1_1] 23 (0, 0)) fa) (bsz w)); have n1_ := Fa.mk (blk_below (g := gb194) (o := .cells #[.int .i64 a0_0, .int .i64 a0_1] 23 (0, 0)) fa hb); have n2_ := Fa.mk (blk_below (g := gb195) (o := .cells #[.int .i64 a1_0, .int .i64 a1_1] 23 (0, 0)) fa hb); have n3_ := Fa.mk (bst w hb); clear BK194; clear BK195; clear HB; have HO198 := n0_; have BK194 := n1_; have BK195 := n2_; have HB := n3_; clear n0_ n1_ n2_ n3_; clear hb ho24; obtain ⟨Ao25, co25, eo25⟩ := Kd.R_slice HO198.out; subst eo25) | (go_at_call 64; (with_reducible refine (num_valid.calls k _ _ y196 true _ ?side1 ?side2 A3.out).mono ?_); (case side1 => repeat (first | exact (Kd.R_reads' HO198.out).2.2 | (with_reducible refine Kd.C_alloc ?_ _) | (with_reducible refine Kd.C_drewN ?_ _) | (with_reducible refine Kd.C_drew ?_))); (case side2 => exact (Kd.R_reads' HO198.out).2.1); rintro e w26 ⟨rfl, hb⟩; have n0_ := Fa.mk (Kd.R_below (by (with_reducible repeat (first | apply Kd.R_alloc | apply Kd.R_drewN | apply Kd.R_drew)); exact HO198.out) hb); have n1_ := Fa.mk (blk_below (g := gb194) (o := .cells #[.int .i64 a0_0, .int .i64 a0_1] 23 (0, 0)) fa hb); have n2_ := Fa.mk (blk_below (g := gb195) (o := .cells #[.int .i64 a1_0, .int .i64 a1_1] 23 (0, 0)) fa hb); have n3_ := Fa.mk (bst w hb); clear HO198; clear BK194; clear BK195; clear HB; have HO198 := n0_; have BK194 := n1_; have BK195 := n2_; have HB := n3_; clear n0_ n1_ n2_ n3_; (try clear hb); (try clear hb2); (try clear hk); (try clear hi); have hcz27_0 : w26.cell? ⟨gb195, 0, none⟩ = some (.int .i64 a1_0) := (blk_cell BK195.out 0).trans rfl; have hcz27_1 : w26.cell? ⟨gb195, 1, none⟩ = some (.int .i64 a1_1) := (blk_cell BK195.out 1).trans rfl; have hfz27_0 := blk_frozen BK195.out 0; have hfz27_1 := blk_frozen BK195.out 1; have hcz28_0 : w26.cell? ⟨gb194, 0, none⟩ = some (.int .i64 a0_0) := (blk_cell BK194.out 0).trans rfl; have hcz28_1 : w26.cell? ⟨gb194, 1, none⟩ = some (.int .i64 a0_1) := (blk_cell BK194.out 1).trans rfl; have hfz28_0 := blk_frozen BK194.out 0; have hfz28_1 := blk_frozen BK194.out 1)); (try go_quiet (fail)))
          go_ret3
          exact ⟨by first | rfl | (simp [errW_none, errW_some] <;> rfl) | (simp [*, errW_none, errW_some] <;> rfl), fa⟩
        · rw [if_neg c17] at H
          have c17b0 : ((Int.tmod (wrap64 (a0_0 * a1_1)) (wrap64 (a1_0 * a0_1))) == 0) = false := beq_eq_false_iff_ne.mpr c17
          have c17b1 : ((Int.tmod (wrap64 (a0_0 * a1_1)) (wrap64 (a1_0 * a0_1))) != 0) = true := bne_iff_ne.mpr c17
          by_cases c29 : ((decide ((Int.tmod (wrap64 (a0_0 * a1_1)) (wrap64 (a1_0 * a0_1))) < 0)) != (decide ((wrap64 (a1_0 * a0_1)) < 0))) = true
          · rw [if_pos c29] at H
            have c29b0 : ((decide ((Int.tmod (wrap64 (a0_0 * a1_1)) (wrap64 (a1_0 * a0_1))) < 0)) != (decide ((wrap64 (a1_0 * a0_1)) < 0))) = true := c29
            (try (have c29b1 : decide ((decide ((Int.tmod (wrap64 (a0_0 * a1_1)) (wrap64 (a1_0 * a0_1))) < 0)) = (decide ((wrap64 (a1_0 * a0_1)) < 0))) = false := by simpa using c29))
            (try (have c29b2 : ((decide ((Int.tmod (wrap64 (a0_0 * a1_1)) (wrap64 (a1_0 * a0_1))) < 0)) == (decide ((wrap64 (a1_0 * a0_1)) < 0))) = false := by simpa using c29))
            (try (have c29b3 : ¬ ((decide ((Int.tmod (wrap64 (a0_0 * a1_1)) (wrap64 (a1_0 * a0_1))) < 0)) = (decide ((wrap64 (a1_0 * a0_1)) < 0))) := by simpa using c29))
            clear c29
            simp only [Option.some.injEq, Prod.mk.injEq] at H
            obtain ⟨rfl, rfl, rfl⟩ := H
            go_enter Tryd.func66, Tryd.ntmps66
            iterate 4 (go_wp2_with (first | ((with_reducible refine gate_dst (N := 2) rfl ?_); refine boxF (N := 2) (cs := #[.int .i64 a0_0, .int .i64 a0_1]) (t := 23) ?_; intro gb194 hg w30 hbox hb; have n0_ := Fa.mk (bst w hb); have n1_ := Fa.mk (hbox); have n2_ := Fa.mk (gle hg : w.heap.size ≤ gb194); have n3_ := n2_; clear HB; have HB := n0_; have BK194 := n1_; have GW194 := n2_; have GE194 := n3_; clear n0_ n1_ n2_ n3_; clear hb hbox hg) | ((with_reducible refine gate_dst (N := 3) rfl ?_); refine boxF (N := 3) (cs := #[.int .i64 a1_0, .int .i64 a1_1]) (t := 23) ?_; intro gb195 hg w31 hbox hb; have n0_ := Fa.mk (blk_below (g := gb194) (o := .cells #[.int .i64 a0_0, .int .i64 a0_1] 23 (0, 0)) fa hb); have n1_ := Fa.mk (bst w hb); have n2_ := Fa.mk (hbox); have n3_ := Fa.mk (gle hg : w.heap.size ≤ gb195); have n4_ := n3_; have n5_ := Fa.mk (gne (o := .cells #[.int .i64 a0_0, .int .i64 a0_1] 23 (0, 0)) hg : gb194 ≠ gb195); have n6_ := Fa.mk n5_.out.symm; clear BK194; clear HB; have BK194 := n0_; have HB := n1_; have BK195 := n2_; have GW195 := n3_; have GE195 := n4_; have NB194_195 := n5_; have NB195_194 := n6_; clear n0_ n1_ n2_ n3_ n4_ n5_ n6_; clear hb hbox hg; have hnb32 := NB194_195.out; have hnc32 := NB195_194.out; have hcz33_0 : w31.cell? ⟨gb194, 0, none⟩ = some (.int .i64 a0_0) := (blk_cell BK194.out 0).trans rfl; have hcz33_1 : w31.cell? ⟨gb194, 1, none⟩ = some (.int .i64 a0_1) := (blk_cell BK194.out 1).trans rfl; have hfz33_0 := blk_frozen BK194.out 0; have hfz33_1 := blk_frozen BK194.out 1; have hcz34_0 : w31.cell? ⟨gb195, 0, none⟩ = some (.int .i64 a1_0) := (blk_cell BK195.out 0).trans rfl; have hcz34_1 : w31.cell? ⟨gb195, 1, none⟩ = some (.int .i64 a1_1) := (blk_cell BK195.out 1).trans rfl; have hfz34_0 := blk_frozen BK195.out 0; have hfz34_1 := blk_frozen BK195.out 1) | ((with_reducible refine gate_dst (N := 12) rfl ?_); refine Kd.R_lit k23 _ 23 ?hg (N := 12) ?hd (xs := ([(⟨a0_0, a0_1⟩ : S23), (⟨a1_0, a1_1⟩ : S23)] : List (S23))) (inner := [.int .i64 a0_0, .int .i64 a0_1, .int .i64 a1_0, .int .i64 a1_1]) (ok := fun _ => True) (okp := fun _ => True) ?hr ?hp (fun _ hk => hk) trivial (Below.refl _ _) (Nat.le_refl _) (by simp) ?_; (case hd => rfl); (case hg => rfl); (case hr => first | (go_simp; done) | (go_simp; rfl)); (case hp => exact (Reps.c2 (show Kd.M k23 _ _ _ (⟨a0_0, a0_1⟩ : S23) [.int .i64 a0_0, .int .i64 a0_1] from (k23_mkM _ _ _ (⟨a0_0, a0_1⟩ : S23) )) (Reps.c2 (show Kd.M k23 _ _ _ (⟨a1_0, a1_1⟩ : S23) [.int .i64 a1_0, .int .i64 a1_1] from (k23_mkM _ _ _ (⟨a1_0, a1_1⟩ : S23) )) (Reps.none _ _)))); intro v197 w35 ho36 hb hg_ hnew_; clear hg_ hnew_; (first | rw [← Ny196.out] at ho36 | (simp only [Int.reduceToNat] at ho36; rw [← Ny196.out] at ho36)); have n0_ := Fa.mk (Kd.R_lower (Kd.R_newB (Kd.R_newB ho36 (g := gb194) (o := .cells #[.int .i64 a0_0, .int .i64 a0_1] 23 (0, 0)) fa) (g := gb195) (o := .cells #[.int .i64 a1_0, .int .i64 a1_1] 23 (0, 0)) fa) (bsz w)); have n1_ := Fa.mk (blk_below (g := gb194) (o := .cells #[.int .i64 a0_0, .int .i64 a0_1] 23 (0, 0)) fa hb); have n2_ := Fa.mk (blk_below (g := gb195) (o := .cells #[.int .i64 a1_0, .int .i64 a1_1] 23 (0, 0)) fa hb); have n3_ := Fa.mk (bst w hb); clear BK194; clear BK195; clear HB; have HO198 := n0_; have BK194 := n1_; have BK195 := n2_; have HB := n3_; clear n0_ n1_ n2_ n3_; clear hb ho36; obtain ⟨Ao37, co37, eo37⟩ := Kd.R_slice HO198.out; subst eo37) | (go_at_call 64; (with_reducible refine (num_valid.calls k _ _ y196 true _ ?side1 ?side2 A3.out).mono ?_); (case side1 => repeat (first | exact (Kd.R_reads' HO198.out).2.2 | (with_reducible refine Kd.C_alloc ?_ _) | (with_reducible refine Kd.C_drewN ?_ _) | (with_reducible refine Kd.C_drew ?_))); (case side2 => exact (Kd.R_reads' HO198.out).2.1); rintro e w38 ⟨rfl, hb⟩; have n0_ := Fa.mk (Kd.R_below (by (with_reducible repeat (first | apply Kd.R_alloc | apply Kd.R_drewN | apply Kd.R_drew)); exact HO198.out) hb); have n1_ := Fa.mk (blk_below (g := gb194) (o := .cells #[.int .i64 a0_0, .int .i64 a0_1] 23 (0, 0)) fa hb); have n2_ := Fa.mk (blk_below (g := gb195) (o := .cells #[.int .i64 a1_0, .int .i64 a1_1] 23 (0, 0)) fa hb); have n3_ := Fa.mk (bst w hb); clear HO198; clear BK194; clear BK195; clear HB; have HO198 := n0_; have BK194 := n1_; have BK195 := n2_; have HB := n3_; clear n0_ n1_ n2_ n3_; (try clear hb); (try clear hb2); (try clear hk); (try clear hi); have hcz39_0 : w38.cell? ⟨gb195, 0, none⟩ = some (.int .i64 a1_0) := (blk_cell BK195.out 0).trans rfl; have hcz39_1 : w38.cell? ⟨gb195, 1, none⟩ = some (.int .i64 a1_1) := (blk_cell BK195.out 1).trans rfl; have hfz39_0 := blk_frozen BK195.out 0; have hfz39_1 := blk_frozen BK195.out 1; have hcz40_0 : w38.cell? ⟨gb194, 0, none⟩ = some (.int .i64 a0_0) := (blk_cell BK194.out 0).trans rfl; have hcz40_1 : w38.cell? ⟨gb194, 1, none⟩ = some (.int .i64 a0_1) := (blk_cell BK194.out 1).trans rfl; have hfz40_0 := blk_frozen BK194.out 0; have hfz40_1 := blk_frozen BK194.out 1)); (try go_quiet (fail)))
            go_ret3
            exact ⟨by first | rfl | (simp [errW_none, errW_some] <;> rfl) | (simp [*, errW_none, errW_some] <;> rfl), fa⟩
          · rw [if_neg c29] at H
            have c29b0 : ((decide ((Int.tmod (wrap64 (a0_0 * a1_1)) (wrap64 (a1_0 * a0_1))) < 0)) != (decide ((wrap64 (a1_0 * a0_1)) < 0))) = false := by simpa using c29
            (try (have c29b1 : decide ((decide ((Int.tmod (wrap64 (a0_0 * a1_1)) (wrap64 (a1_0 * a0_1))) < 0)) = (decide ((wrap64 (a1_0 * a0_1)) < 0))) = true := by simpa using c29))
            (try (have c29b2 : ((decide ((Int.tmod (wrap64 (a0_0 * a1_1)) (wrap64 (a1_0 * a0_1))) < 0)) == (decide ((wrap64 (a1_0 * a0_1)) < 0))) = true := by simpa using c29))
            clear c29
            simp only [Option.some.injEq, Prod.mk.injEq] at H
            obtain ⟨rfl, rfl, rfl⟩ := H
            go_enter Tryd.func66, Tryd.ntmps66
            iterate 4 (go_wp2_with (first | ((with_reducible refine gate_dst (N := 2) rfl ?_); refine boxF (N := 2) (cs := #[.int .i64 a0_0, .int .i64 a0_1]) (t := 23) ?_; intro gb194 hg w41 hbox hb; have n0_ := Fa.mk (bst w hb); have n1_ := Fa.mk (hbox); have n2_ := Fa.mk (gle hg : w.heap.size ≤ gb194); have n3_ := n2_; clear HB; have HB := n0_; have BK194 := n1_; have GW194 := n2_; have GE194 := n3_; clear n0_ n1_ n2_ n3_; clear hb hbox hg) | ((with_reducible refine gate_dst (N := 3) rfl ?_); refine boxF (N := 3) (cs := #[.int .i64 a1_0, .int .i64 a1_1]) (t := 23) ?_; intro gb195 hg w42 hbox hb; have n0_ := Fa.mk (blk_below (g := gb194) (o := .cells #[.int .i64 a0_0, .int .i64 a0_1] 23 (0, 0)) fa hb); have n1_ := Fa.mk (bst w hb); have n2_ := Fa.mk (hbox); have n3_ := Fa.mk (gle hg : w.heap.size ≤ gb195); have n4_ := n3_; have n5_ := Fa.mk (gne (o := .cells #[.int .i64 a0_0, .int .i64 a0_1] 23 (0, 0)) hg : gb194 ≠ gb195); have n6_ := Fa.mk n5_.out.symm; clear BK194; clear HB; have BK194 := n0_; have HB := n1_; have BK195 := n2_; have GW195 := n3_; have GE195 := n4_; have NB194_195 := n5_; have NB195_194 := n6_; clear n0_ n1_ n2_ n3_ n4_ n5_ n6_; clear hb hbox hg; have hnb43 := NB194_195.out; have hnc43 := NB195_194.out; have hcz44_0 : w42.cell? ⟨gb194, 0, none⟩ = some (.int .i64 a0_0) := (blk_cell BK194.out 0).trans rfl; have hcz44_1 : w42.cell? ⟨gb194, 1, none⟩ = some (.int .i64 a0_1) := (blk_cell BK194.out 1).trans rfl; have hfz44_0 := blk_frozen BK194.out 0; have hfz44_1 := blk_frozen BK194.out 1; have hcz45_0 : w42.cell? ⟨gb195, 0, none⟩ = some (.int .i64 a1_0) := (blk_cell BK195.out 0).trans rfl; have hcz45_1 : w42.cell? ⟨gb195, 1, none⟩ = some (.int .i64 a1_1) := (blk_cell BK195.out 1).trans rfl; have hfz45_0 := blk_frozen BK195.out 0; have hfz45_1 := blk_frozen BK195.out 1) | ((with_reducible refine gate_dst (N := 12) rfl ?_); refine Kd.R_lit k23 _ 23 ?hg (N := 12) ?hd (xs := ([(⟨a0_0, a0_1⟩ : S23), (⟨a1_0, a1_1⟩ : S23)] : List (S23))) (inner := [.int .i64 a0_0, .int .i64 a0_1, .int .i64 a1_0, .int .i64 a1_1]) (ok := fun _ => True) (okp := fun _ => True) ?hr ?hp (fun _ hk => hk) trivial (Below.refl _ _) (Nat.le_refl _) (by simp) ?_; (case hd => rfl); (case hg => rfl); (case hr => first | (go_simp; done) | (go_simp; rfl)); (case hp => exact (Reps.c2 (show Kd.M k23 _ _ _ (⟨a0_0, a0_1⟩ : S23) [.int .i64 a0_0, .int .i64 a0_1] from (k23_mkM _ _ _ (⟨a0_0, a0_1⟩ : S23) )) (Reps.c2 (show Kd.M k23 _ _ _ (⟨a1_0, a1_1⟩ : S23) [.int .i64 a1_0, .int .i64 a1_1] from (k23_mkM _ _ _ (⟨a1_0, a1_1⟩ : S23) )) (Reps.none _ _)))); intro v197 w46 ho47 hb hg_ hnew_; clear hg_ hnew_; (first | rw [← Ny196.out] at ho47 | (simp only [Int.reduceToNat] at ho47; rw [← Ny196.out] at ho47)); have n0_ := Fa.mk (Kd.R_lower (Kd.R_newB (Kd.R_newB ho47 (g := gb194) (o := .cells #[.int .i64 a0_0, .int .i64 a0_1] 23 (0, 0)) fa) (g := gb195) (o := .cells #[.int .i64 a1_0, .int .i64 a1_1] 23 (0, 0)) fa) (bsz w)); have n1_ := Fa.mk (blk_below (g := gb194) (o := .cells #[.int .i64 a0_0, .int .i64 a0_1] 23 (0, 0)) fa hb); have n2_ := Fa.mk (blk_below (g := gb195) (o := .cells #[.int .i64 a1_0, .int .i64 a1_1] 23 (0, 0)) fa hb); have n3_ := Fa.mk (bst w hb); clear BK194; clear BK195; clear HB; have HO198 := n0_; have BK194 := n1_; have BK195 := n2_; have HB := n3_; clear n0_ n1_ n2_ n3_; clear hb ho47; obtain ⟨Ao48, co48, eo48⟩ := Kd.R_slice HO198.out; subst eo48) | (go_at_call 64; (with_reducible refine (num_valid.calls k _ _ y196 true _ ?side1 ?side2 A3.out).mono ?_); (case side1 => repeat (first | exact (Kd.R_reads' HO198.out).2.2 | (with_reducible refine Kd.C_alloc ?_ _) | (with_reducible refine Kd.C_drewN ?_ _) | (with_reducible refine Kd.C_drew ?_))); (case side2 => exact (Kd.R_reads' HO198.out).2.1); rintro e w49 ⟨rfl, hb⟩; have n0_ := Fa.mk (Kd.R_below (by (with_reducible repeat (first | apply Kd.R_alloc | apply Kd.R_drewN | apply Kd.R_drew)); exact HO198.out) hb); have n1_ := Fa.mk (blk_below (g := gb194) (o := .cells #[.int .i64 a0_0, .int .i64 a0_1] 23 (0, 0)) fa hb); have n2_ := Fa.mk (blk_below (g := gb195) (o := .cells #[.int .i64 a1_0, .int .i64 a1_1] 23 (0, 0)) fa hb); have n3_ := Fa.mk (bst w hb); clear HO198; clear BK194; clear BK195; clear HB; have HO198 := n0_; have BK194 := n1_; have BK195 := n2_; have HB := n3_; clear n0_ n1_ n2_ n3_; (try clear hb); (try clear hb2); (try clear hk); (try clear hi); have hcz50_0 : w49.cell? ⟨gb195, 0, none⟩ = some (.int .i64 a1_0) := (blk_cell BK195.out 0).trans rfl; have hcz50_1 : w49.cell? ⟨gb195, 1, none⟩ = some (.int .i64 a1_1) := (blk_cell BK195.out 1).trans rfl; have hfz50_0 := blk_frozen BK195.out 0; have hfz50_1 := blk_frozen BK195.out 1; have hcz51_0 : w49.cell? ⟨gb194, 0, none⟩ = some (.int .i64 a0_0) := (blk_cell BK194.out 0).trans rfl; have hcz51_1 : w49.cell? ⟨gb194, 1, none⟩ = some (.int .i64 a0_1) := (blk_cell BK194.out 1).trans rfl; have hfz51_0 := blk_frozen BK194.out 0; have hfz51_1 := blk_frozen BK194.out 1)); (try go_quiet (fail)))
            go_ret3
            exact ⟨by first | rfl | (simp [errW_none, errW_some] <;> rfl) | (simp [*, errW_none, errW_some] <;> rfl), fa⟩
  · replace c4 := Bool.eq_false_iff.mpr c4
    subst c4
    have H1 : (some (0, 0, 2)) = some (r1, r2, r3) := by rw [if_neg (show ¬ (false = true) by decide)] at H; exact H
    clear H
    have H := H1
    clear H1
    simp only [Option.some.injEq, Prod.mk.injEq] at H
    obtain ⟨rfl, rfl, rfl⟩ := H
    go_enter Tryd.func66, Tryd.ntmps66
    iterate 4 (go_wp2_with (first | ((with_reducible refine gate_dst (N := 2) rfl ?_); refine boxF (N := 2) (cs := #[.int .i64 a0_0, .int .i64 a0_1]) (t := 23) ?_; intro gb194 hg w52 hbox hb; have n0_ := Fa.mk (bst w hb); have n1_ := Fa.mk (hbox); have n2_ := Fa.mk (gle hg : w.heap.size ≤ gb194); have n3_ := n2_; clear HB; have HB := n0_; have BK194 := n1_; have GW194 := n2_; have GE194 := n3_; clear n0_ n1_ n2_ n3_; clear hb hbox hg) | ((with_reducible refine gate_dst (N := 3) rfl ?_); refine boxF (N := 3) (cs := #[.int .i64 a1_0, .int .i64 a1_1]) (t := 23) ?_; intro gb195 hg w53 hbox hb; have n0_ := Fa.mk (blk_below (g := gb194) (o := .cells #[.int .i64 a0_0, .int .i64 a0_1] 23 (0, 0)) fa hb); have n1_ := Fa.mk (bst w hb); have n2_ := Fa.mk (hbox); have n3_ := Fa.mk (gle hg : w.heap.size ≤ gb195); have n4_ := n3_; have n5_ := Fa.mk (gne (o := .cells #[.int .i64 a0_0, .int .i64 a0_1] 23 (0, 0)) hg : gb194 ≠ gb195); have n6_ := Fa.mk n5_.out.symm; clear BK194; clear HB; have BK194 := n0_; have HB := n1_; have BK195 := n2_; have GW195 := n3_; have GE195 := n4_; have NB194_195 := n5_; have NB195_194 := n6_; clear n0_ n1_ n2_ n3_ n4_ n5_ n6_; clear hb hbox hg; have hnb54 := NB194_195.out; have hnc54 := NB195_194.out; have hcz55_0 : w53.cell? ⟨gb194, 0, none⟩ = some (.int .i64 a0_0) := (blk_cell BK194.out 0).trans rfl; have hcz55_1 : w53.cell? ⟨gb194, 1, none⟩ = some (.int .i64 a0_1) := (blk_cell BK194.out 1).trans rfl; have hfz55_0 := blk_frozen BK194.out 0; have hfz55_1 := blk_frozen BK194.out 1; have hcz56_0 : w53.cell? ⟨gb195, 0, none⟩ = some (.int .i64 a1_0) := (blk_cell BK195.out 0).trans rfl; have hcz56_1 : w53.cell? ⟨gb195, 1, none⟩ = some (.int .i64 a1_1) := (blk_cell BK195.out 1).trans rfl; have hfz56_0 := blk_frozen BK195.out 0; have hfz56_1 := blk_frozen BK195.out 1) | ((with_reducible refine gate_dst (N := 12) rfl ?_); refine Kd.R_lit k23 _ 23 ?hg (N := 12) ?hd (xs := ([(⟨a0_0, a0_1⟩ : S23), (⟨a1_0, a1_1⟩ : S23)] : List (S23))) (inner := [.int .i64 a0_0, .int .i64 a0_1, .int .i64 a1_0, .int .i64 a1_1]) (ok := fun _ => True) (okp := fun _ => True) ?hr ?hp (fun _ hk => hk) trivial (Below.refl _ _) (Nat.le_refl _) (by simp) ?_; (case hd => rfl); (case hg => rfl); (case hr => first | (go_simp; done) | (go_simp; rfl)); (case hp => exact (Reps.c2 (show Kd.M k23 _ _ _ (⟨a0_0, a0_1⟩ : S23) [.int .i64 a0_0, .int .i64 a0_1] from (k23_mkM _ _ _ (⟨a0_0, a0_1⟩ : S23) )) (Reps.c2 (show Kd.M k23 _ _ _ (⟨a1_0, a1_1⟩ : S23) [.int .i64 a1_0, .int .i64 a1_1] from (k23_mkM _ _ _ (⟨a1_0, a1_1⟩ : S23) )) (Reps.none _ _)))); intro v197 w57 ho58 hb hg_ hnew_; clear hg_ hnew_; (first | rw [← Ny196.out] at ho58 | (simp only [Int.reduceToNat] at ho58; rw [← Ny196.out] at ho58)); have n0_ := Fa.mk (Kd.R_lower (Kd.R_newB (Kd.R_newB ho58 (g := gb194) (o := .cells #[.int .i64 a0_0, .int .i64 a0_1] 23 (0, 0)) fa) (g := gb195) (o := .cells #[.int .i64 a1_0, .int .i64 a1_1] 23 (0, 0)) fa) (bsz w)); have n1_ := Fa.mk (blk_below (g := gb194) (o := .cells #[.int .i64 a0_0, .int .i64 a0_1] 23 (0, 0)) fa hb); have n2_ := Fa.mk (blk_below (g := gb195) (o := .cells #[.int .i64 a1_0, .int .i64 a1_1] 23 (0, 0)) fa hb); have n3_ := Fa.mk (bst w hb); clear BK194; clear BK195; clear HB; have HO198 := n0_; have BK194 := n1_; have BK195 := n2_; have HB := n3_; clear n0_ n1_ n2_ n3_; clear hb ho58; obtain ⟨Ao59, co59, eo59⟩ := Kd.R_slice HO198.out; subst eo59) | (go_at_call 64; (with_reducible refine (num_valid.calls k _ _ y196 false _ ?side1 ?side2 A3.out).mono ?_); (case side1 => repeat (first | exact (Kd.R_reads' HO198.out).2.2 | (with_reducible refine Kd.C_alloc ?_ _) | (with_reducible refine Kd.C_drewN ?_ _) | (with_reducible refine Kd.C_drew ?_))); (case side2 => exact (Kd.R_reads' HO198.out).2.1); rintro e w60 ⟨rfl, hb⟩; have n0_ := Fa.mk (Kd.R_below (by (with_reducible repeat (first | apply Kd.R_alloc | apply Kd.R_drewN | apply Kd.R_drew)); exact HO198.out) hb); have n1_ := Fa.mk (blk_below (g := gb194) (o := .cells #[.int .i64 a0_0, .int .i64 a0_1] 23 (0, 0)) fa hb); have n2_ := Fa.mk (blk_below (g := gb195) (o := .cells #[.int .i64 a1_0, .int .i64 a1_1] 23 (0, 0)) fa hb); have n3_ := Fa.mk (bst w hb); clear HO198; clear BK194; clear BK195; clear HB; have HO198 := n0_; have BK194 := n1_; have BK195 := n2_; have HB := n3_; clear n0_ n1_ n2_ n3_; (try clear hb); (try clear hb2); (try clear hk); (try clear hi))); (try go_quiet (fail)))
    go_ret3
    exact ⟨by first | rfl | (simp [errW_none, errW_some] <;> rfl) | (simp [*, errW_none, errW_some] <;> rfl), fa⟩

/-! ### num_Mod: function 40 -/
def num_Mod.f (k : Nat) (a0_0 : Int) (a0_1 : Int) (a1_0 : Int) (a1_1 : Int) : Option (Int × Int × Int) := (num_Left.f k a0_0 a0_1 a1_0 a1_1).bind fun bt203 => (if bt203.2.2 = 0 then ((rational_Exact.f k bt203.1 bt203.2.1).bind fun bt206 => (some (bt206.1, bt206.2.1, bt206.2.2))) else (some (0, 0, bt203.2.2)))
theorem num_Mod.mono : ∀ a0 a1 a2 a3 k, LeO (num_Mod.f k a0 a1 a2 a3) (num_Mod.f (k + 1) a0 a1 a2 a3) := by
  intro a0 a1 a2 a3 k
  unfold num_Mod.f
  repeat' first
      | (with_reducible exact num_Left.mono _ _ _ _ _)
      | (with_reducible exact rational_Exact.mono _ _ _)
      | (with_reducible exact LeO.refl _)
      | (with_reducible exact LeO.none _)
      | (with_reducible refine LeO.ite ?_ ?_)
      | (with_reducible refine LeO.bind ?_ (fun _ => ?_))
      | exact num_Left.mono _ _ _ _ _
      | exact rational_Exact.mono _ _ _
      | exact LeO.none _
      | refine LeO.ite ?_ ?_
      | refine LeO.bind ?_ (fun _ => ?_)
set_option maxHeartbeats 8000000 in
set_option maxRecDepth 100000 in
theorem num_Mod.calls (k : Nat) (a0_0 : Int) (a0_1 : Int) (a1_0 : Int) (a1_1 : Int) (r1 : Int) (r2 : Int) (r3 : Int) (w : World) (h : num_Mod.f k a0_0 a0_1 a1_0 a1_1 = some (r1, r2, r3)) :
    Calls Tryd.prog 40 #[.agg #[.int .i64 a0_0, .int .i64 a0_1], .agg #[.int .i64 a1_0, .int .i64 a1_1]] w fun e w' => e = .returned (.tuple #[.agg #[.int .i64 r1, .int .i64 r2], .int .i64 r3]) ∧ Below w.heap.size w w' := by
  have hu23 := Tryd.underlying23
  have HB := Fa.mk (Below.refl w.heap.size w)
  have H : ((num_Left.f k a0_0 a0_1 a1_0 a1_1).bind fun bt203 => (if bt203.2.2 = 0 then ((rational_Exact.f k bt203.1 bt203.2.1).bind fun bt206 => (some (bt206.1, bt206.2.1, bt206.2.2))) else (some (0, 0, bt203.2.2)))) = some (r1, r2, r3) := h
  clear h
  replace H := Option.bind_eq_some_iff.mp H
  obtain ⟨⟨t203, t204, t205⟩, A30, H⟩ := H
  replace H : (if t205 = 0 then ((rational_Exact.f k t203 t204).bind fun bt206 => (some (bt206.1, bt206.2.1, bt206.2.2))) else (some (0, 0, t205))) = some (r1, r2, r3) := H
  have A3 := Fa.mk A30
  clear A30
  by_cases c4 : t205 = 0
  · rw [if_pos c4] at H
    have c4b0 : (t205 == 0) = true := beq_iff_eq.mpr c4
    have c4b1 : (t205 != 0) = false := bne_eq_false_iff_eq.mpr c4
    clear c4
    replace H := Option.bind_eq_some_iff.mp H
    obtain ⟨⟨t206, t207, t208⟩, A50, H⟩ := H
    replace H : (some (t206, t207, t208)) = some (r1, r2, r3) := H
    have A5 := Fa.mk A50
    clear A50
    simp only [Option.some.injEq, Prod.mk.injEq] at H
    obtain ⟨rfl, rfl, rfl⟩ := H
    go_enter Tryd.func40, Tryd.ntmps40
    go_wp2_with (first | ((with_reducible refine gate_dst (N := 2) rfl ?_); refine boxF (N := 2) (cs := #[.int .i64 a0_0, .int .i64 a0_1]) (t := 23) ?_; intro gb200 hg w6 hbox hb; have n0_ := Fa.mk (bst w hb); have n1_ := Fa.mk (hbox); have n2_ := Fa.mk (gle hg : w.heap.size ≤ gb200); have n3_ := n2_; clear HB; have HB := n0_; have BK200 := n1_; have GW200 := n2_; have GE200 := n3_; clear n0_ n1_ n2_ n3_; clear hb hbox hg) | ((with_reducible refine gate_dst (N := 3) rfl ?_); refine boxF (N := 3) (cs := #[.int .i64 a1_0, .int .i64 a1_1]) (t := 23) ?_; intro gb201 hg w7 hbox hb; have n0_ := Fa.mk (blk_below (g := gb200) (o := .cells #[.int .i64 a0_0, .int .i64 a0_1] 23 (0, 0)) fa hb); have n1_ := Fa.mk (bst w hb); have n2_ := Fa.mk (hbox); have n3_ := Fa.mk (gle hg : w.heap.size ≤ gb201); have n4_ := n3_; have n5_ := Fa.mk (gne (o := .cells #[.int .i64 a0_0, .int .i64 a0_1] 23 (0, 0)) hg : gb200 ≠ gb201); have n6_ := Fa.mk n5_.out.symm; clear BK200; clear HB; have BK200 := n0_; have HB := n1_; have BK201 := n2_; have GW201 := n3_; have GE201 := n4_; have NB200_201 := n5_; have NB201_200 := n6_; clear n0_ n1_ n2_ n3_ n4_ n5_ n6_; clear hb hbox hg) | ((with_reducible refine gate_dst (N := 4) rfl ?_); refine boxF (N := 4) (cs := #[.int .i64 0, .int .i64 0]) (t := 23) ?_; intro gb202 hg w8 hbox hb; have n0_ := Fa.mk (blk_below (g := gb200) (o := .cells #[.int .i64 a0_0, .int .i64 a0_1] 23 (0, 0)) fa hb); have n1_ := Fa.mk (blk_below (g := gb201) (o := .cells #[.int .i64 a1_0, .int .i64 a1_1] 23 (0, 0)) fa hb); have n2_ := Fa.mk (bst w hb); have n3_ := Fa.mk (hbox); have n4_ := Fa.mk (gle hg : w.heap.size ≤ gb202); have n5_ := n4_; have n6_ := Fa.mk (gne (o := .cells #[.int .i64 a0_0, .int .i64 a0_1] 23 (0, 0)) hg : gb200 ≠ gb202); have n7_ := Fa.mk n6_.out.symm; have n8_ := Fa.mk (gne (o := .cells #[.int .i64 a1_0, .int .i64 a1_1] 23 (0, 0)) hg : gb201 ≠ gb202); have n9_ := Fa.mk n8_.out.symm; clear BK200; clear BK201; clear HB; have BK200 := n0_; have BK201 := n1_; have HB := n2_; have BK202 := n3_; have GW202 := n4_; have GE202 := n5_; have NB200_202 := n6_; have NB202_200 := n7_; have NB201_202 := n8_; have NB202_201 := n9_; clear n0_ n1_ n2_ n3_ n4_ n5_ n6_ n7_ n8_ n9_; clear hb hbox hg; have hnb9 := NB200_201.out; have hnc9 := NB201_200.out; have hnb10 := NB200_202.out; have hnc10 := NB202_200.out; have hcz11_0 : w8.cell? ⟨gb200, 0, none⟩ = some (.int .i64 a0_0) := (blk_cell BK200.out 0).trans rfl; have hcz11_1 : w8.cell? ⟨gb200, 1, none⟩ = some (.int .i64 a0_1) := (blk_cell BK200.out 1).trans rfl; have hfz11_0 := blk_frozen BK200.out 0; have hfz11_1 := blk_frozen BK200.out 1; have hnb12 := NB201_202.out; have hnc12 := NB202_201.out; have hcz13_0 : w8.cell? ⟨gb201, 0, none⟩ = some (.int .i64 a1_0) := (blk_cell BK201.out 0).trans rfl; have hcz13_1 : w8.cell? ⟨gb201, 1, none⟩ = some (.int .i64 a1_1) := (blk_cell BK201.out 1).trans rfl; have hfz13_0 := blk_frozen BK201.out 0; have hfz13_1 := blk_frozen BK201.out 1) | ((with_reducible refine gate_callee (f := 66) rfl ?_); refine goesA (some 12) rfl rfl Tryd.func66 (by kernel_rfl) rfl #[.agg #[.int .i64 a0_0, .int .i64 a0_1], .agg #[.int .i64 a1_0, .int .i64 a1_1]] rfl ?_; (with_reducible refine (num_Left.calls k a0_0 a0_1 a1_0 a1_1 t203 t204 t205 _ A3.out).mono ?_); rintro e w14 ⟨rfl, hb⟩; refine ⟨_, rfl, ?_⟩; have n0_ := Fa.mk (blk_below (g := gb200) (o := .cells #[.int .i64 a0_0, .int .i64 a0_1] 23 (0, 0)) fa hb); have n1_ := Fa.mk (blk_below (g := gb201) (o := .cells #[.int .i64 a1_0, .int .i64 a1_1] 23 (0, 0)) fa hb); have n2_ := Fa.mk (blk_below (g := gb202) (o := .cells #[.int .i64 0, .int .i64 0] 23 (0, 0)) fa hb); have n3_ := Fa.mk (bst w hb); clear BK200; clear BK201; clear BK202; clear HB; have BK200 := n0_; have BK201 := n1_; have BK202 := n2_; have HB := n3_; clear n0_ n1_ n2_ n3_; (try clear hb); (try clear hb2); (try clear hk); (try clear hi)) | ((with_reducible refine gate_callee (f := 48) rfl ?_); refine goesA (some 22) rfl rfl Tryd.func48 (by kernel_rfl) rfl #[.int .i64 t203, .int .i64 t204] rfl ?_; (with_reducible refine (rational_Exact.calls k t203 t204 t206 t207 t208 _ A5.out).mono ?_); rintro e w15 ⟨rfl, hb⟩; refine ⟨_, rfl, ?_⟩; have n0_ := Fa.mk (blk_below (g := gb200) (o := .cells #[.int .i64 a0_0, .int .i64 a0_1] 23 (0, 0)) fa hb); have n1_ := Fa.mk (blk_below (g := gb201) (o := .cells #[.int .i64 a1_0, .int .i64 a1_1] 23 (0, 0)) fa hb); have n2_ := Fa.mk (blk_below (g := gb202) (o := .cells #[.int .i64 0, .int .i64 0] 23 (0, 0)) fa hb); have n3_ := Fa.mk (bst w hb); clear BK200; clear BK201; clear BK202; clear HB; have BK200 := n0_; have BK201 := n1_; have BK202 := n2_; have HB := n3_; clear n0_ n1_ n2_ n3_; (try clear hb); (try clear hb2); (try clear hk); (try clear hi); have hcz16_0 : w15.cell? ⟨gb202, 0, none⟩ = some (.int .i64 0) := (blk_cell BK202.out 0).trans rfl; have hcz16_1 : w15.cell? ⟨gb202, 1, none⟩ = some (.int .i64 0) := (blk_cell BK202.out 1).trans rfl; have hfz16_0 := blk_frozen BK202.out 0; have hfz16_1 := blk_frozen BK202.out 1))
    refine bodyPost_ret (results_ct rfl _ _ gb202 23 #[.int .i64 t206, .int .i64 t207] (0, 0) _ rfl (by (with_reducible repeat (first | refine blk_drewN ?_ _ | refine blk_drew ?_ | refine blk_alloc ?_ _)); refine blk_put (cs := #[.int .i64 t206, .int .i64 0]) ?_ 1 _ rfl; (with_reducible repeat (first | refine blk_drewN ?_ _ | refine blk_drew ?_ | refine blk_alloc ?_ _)); refine blk_put (cs := #[.int .i64 0, .int .i64 0]) ?_ 0 _ rfl; (with_reducible repeat (first | refine blk_drewN ?_ _ | refine blk_drew ?_ | refine blk_alloc ?_ _)); exact BK202.out) Tryd.underlying23 rfl (by kernel_rfl)) rfl ?_
    exact ⟨by first | rfl | (simp [errW_none, errW_some] <;> rfl) | (simp [*, errW_none, errW_some] <;> rfl), fa⟩
  · rw [if_neg c4] at H
    have c4b0 : (t205 == 0) = false := beq_eq_false_iff_ne.mpr c4
    have c4b1 : (t205 != 0) = true := bne_iff_ne.mpr c4
    simp only [Option.some.injEq, Prod.mk.injEq] at H
    obtain ⟨rfl, rfl, rfl⟩ := H
    go_enter Tryd.func40, Tryd.ntmps40
    go_wp2_with (first | ((with_reducible refine gate_dst (N := 2) rfl ?_); refine boxF (N := 2) (cs := #[.int .i64 a0_0, .int .i64 a0_1]) (t := 23) ?_; intro gb200 hg w17 hbox hb; have n0_ := Fa.mk (bst w hb); have n1_ := Fa.mk (hbox); have n2_ := Fa.mk (gle hg : w.heap.size ≤ gb200); have n3_ := n2_; clear HB; have HB := n0_; have BK200 := n1_; have GW200 := n2_; have GE200 := n3_; clear n0_ n1_ n2_ n3_; clear hb hbox hg) | ((with_reducible refine gate_dst (N := 3) rfl ?_); refine boxF (N := 3) (cs := #[.int .i64 a1_0, .int .i64 a1_1]) (t := 23) ?_; intro gb201 hg w18 hbox hb; have n0_ := Fa.mk (blk_below (g := gb200) (o := .cells #[.int .i64 a0_0, .int .i64 a0_1] 23 (0, 0)) fa hb); have n1_ := Fa.mk (bst w hb); have n2_ := Fa.mk (hbox); have n3_ := Fa.mk (gle hg : w.heap.size ≤ gb201); have n4_ := n3_; have n5_ := Fa.mk (gne (o := .cells #[.int .i64 a0_0, .int .i64 a0_1] 23 (0, 0)) hg : gb200 ≠ gb201); have n6_ := Fa.mk n5_.out.symm; clear BK200; clear HB; have BK200 := n0_; have HB := n1_; have BK201 := n2_; have GW201 := n3_; have GE201 := n4_; have NB200_201 := n5_; have NB201_200 := n6_; clear n0_ n1_ n2_ n3_ n4_ n5_ n6_; clear hb hbox hg) | ((with_reducible refine gate_dst (N := 4) rfl ?_); refine boxF (N := 4) (cs := #[.int .i64 0, .int .i64 0]) (t := 23) ?_; intro gb202 hg w19 hbox hb; have n0_ := Fa.mk (blk_below (g := gb200) (o := .cells #[.int .i64 a0_0, .int .i64 a0_1] 23 (0, 0)) fa hb); have n1_ := Fa.mk (blk_below (g := gb201) (o := .cells #[.int .i64 a1_0, .int .i64 a1_1] 23 (0, 0)) fa hb); have n2_ := Fa.mk (bst w hb); have n3_ := Fa.mk (hbox); have n4_ := Fa.mk (gle hg : w.heap.size ≤ gb202); have n5_ := n4_; have n6_ := Fa.mk (gne (o := .cells #[.int .i64 a0_0, .int .i64 a0_1] 23 (0, 0)) hg : gb200 ≠ gb202); have n7_ := Fa.mk n6_.out.symm; have n8_ := Fa.mk (gne (o := .cells #[.int .i64 a1_0, .int .i64 a1_1] 23 (0, 0)) hg : gb201 ≠ gb202); have n9_ := Fa.mk n8_.out.symm; clear BK200; clear BK201; clear HB; have BK200 := n0_; have BK201 := n1_; have HB := n2_; have BK202 := n3_; have GW202 := n4_; have GE202 := n5_; have NB200_202 := n6_; have NB202_200 := n7_; have NB201_202 := n8_; have NB202_201 := n9_; clear n0_ n1_ n2_ n3_ n4_ n5_ n6_ n7_ n8_ n9_; clear hb hbox hg; have hnb20 := NB200_201.out; have hnc20 := NB201_200.out; have hnb21 := NB200_202.out; have hnc21 := NB202_200.out; have hcz22_0 : w19.cell? ⟨gb200, 0, none⟩ = some (.int .i64 a0_0) := (blk_cell BK200.out 0).trans rfl; have hcz22_1 : w19.cell? ⟨gb200, 1, none⟩ = some (.int .i64 a0_1) := (blk_cell BK200.out 1).trans rfl; have hfz22_0 := blk_frozen BK200.out 0; have hfz22_1 := blk_frozen BK200.out 1; have hnb23 := NB201_202.out; have hnc23 := NB202_201.out; have hcz24_0 : w19.cell? ⟨gb201, 0, none⟩ = some (.int .i64 a1_0) := (blk_cell BK201.out 0).trans rfl; have hcz24_1 : w19.cell? ⟨gb201, 1, none⟩ = some (.int .i64 a1_1) := (blk_cell BK201.out 1).trans rfl; have hfz24_0 := blk_frozen BK201.out 0; have hfz24_1 := blk_frozen BK201.out 1) | ((with_reducible refine gate_callee (f := 66) rfl ?_); refine goesA (some 12) rfl rfl Tryd.func66 (by kernel_rfl) rfl #[.agg #[.int .i64 a0_0, .int .i64 a0_1], .agg #[.int .i64 a1_0, .int .i64 a1_1]] rfl ?_; (with_reducible refine (num_Left.calls k a0_0 a0_1 a1_0 a1_1 t203 t204 t205 _ A3.out).mono ?_); rintro e w25 ⟨rfl, hb⟩; refine ⟨_, rfl, ?_⟩; have n0_ := Fa.mk (blk_below (g := gb200) (o := .cells #[.int .i64 a0_0, .int .i64 a0_1] 23 (0, 0)) fa hb); have n1_ := Fa.mk (blk_below (g := gb201) (o := .cells #[.int .i64 a1_0, .int .i64 a1_1] 23 (0, 0)) fa hb); have n2_ := Fa.mk (blk_below (g := gb202) (o := .cells #[.int .i64 0, .int .i64 0] 23 (0, 0)) fa hb); have n3_ := Fa.mk (bst w hb); clear BK200; clear BK201; clear BK202; clear HB; have BK200 := n0_; have BK201 := n1_; have BK202 := n2_; have HB := n3_; clear n0_ n1_ n2_ n3_; (try clear hb); (try clear hb2); (try clear hk); (try clear hi); have hcz26_0 : w25.cell? ⟨gb202, 0, none⟩ = some (.int .i64 0) := (blk_cell BK202.out 0).trans rfl; have hcz26_1 : w25.cell? ⟨gb202, 1, none⟩ = some (.int .i64 0) := (blk_cell BK202.out 1).trans rfl; have hfz26_0 := blk_frozen BK202.out 0; have hfz26_1 := blk_frozen BK202.out 1))
    refine bodyPost_ret (results_ct rfl _ _ gb202 23 #[.int .i64 0, .int .i64 0] (0, 0) _ rfl (by (with_reducible repeat (first | refine blk_drewN ?_ _ | refine blk_drew ?_ | refine blk_alloc ?_ _)); refine blk_put (cs := #[.int .i64 0, .int .i64 0]) ?_ 1 _ rfl; (with_reducible repeat (first | refine blk_drewN ?_ _ | refine blk_drew ?_ | refine blk_alloc ?_ _)); refine blk_put (cs := #[.int .i64 0, .int .i64 0]) ?_ 0 _ rfl; (with_reducible repeat (first | refine blk_drewN ?_ _ | refine blk_drew ?_ | refine blk_alloc ?_ _)); exact BK202.out) Tryd.underlying23 rfl (by kernel_rfl)) rfl ?_
    exact ⟨by first | rfl | (simp [errW_none, errW_some] <;> rfl) | (simp [*, errW_none, errW_some] <;> rfl), fa⟩

end Go.Proofs.YtndbdnkpnjibkaaDoor.P
