-- PRINTED by print.py (a twelfth state) out of the translation. Not trusted: Lean checks it.
import Derived.Test.YtndbdnkpnjibkaaDoorPx0
import Derived.Test.YtndbdnkpnjibkaaDoorPxnumdo
namespace Go.Proofs.YtndbdnkpnjibkaaDoor.P
open Go.RowKit Go.Proofs.YtndbdnkpnjibkaaDoorW.PrintWords Go.Proofs.YtndbdnkpnjibkaaDoorW.PrintLast Go.Proofs.YtndbdnkpnjibkaaDoorW.PrintMore
attribute [local go_sem] max2_int min2_int max_two min_two max_three min_three max_four min_four   -- for this text's walks alone
set_option linter.unusedVariables false
set_option linter.unusedSimpArgs false

/-! ### num_Parse: function 34 -/
-- EXT
/-- What strconv.ParseInt(s, 10, 64) gives beside its error, and whether there is none. -/
def parseVal (l : List UInt8) : Int × Bool := match Lib.parseIntB 64 l with
  | .ok v => (v, true)
  | .range => (Lib.intSat 64 l, false)
  | _ => (0, false)
theorem PI_ok (s : ByteArray) (hs : s.size ≤ 4294967280) (h : (parseVal s.data.toList).2 = true) (w : World) :
    Calls Tryd.prog 60 #[.string s, .int .i64 10, .int .i64 64] w fun e w' => e = .returned (.tuple #[.int .i64 (parseVal s.data.toList).1, .nilIface]) ∧ Below w.heap.size w w' := by
  unfold parseVal at *
  cases hE : Lib.parseIntB 64 s.data.toList with
  | ok v =>
    refine (Tryd.strconv_ParseInt_10_at64_ok s (by omega) v hE w).mono ?_
    rintro e w' ⟨rfl, hw⟩
    refine ⟨rfl, ?_⟩
    rcases hw with rfl | ⟨t, rfl⟩
    · exact Below.refl _ _
    · exact Lib.bytesWorld_below _ _ _
  | _ => rw [hE] at h; cases h
theorem PI_bad (s : ByteArray) (hs : s.size ≤ 4294967280) (h : (parseVal s.data.toList).2 = false) (w : World) (hG : Glob w) :
    Calls Tryd.prog 60 #[.string s, .int .i64 10, .int .i64 64] w fun e w' => ∃ N, e = .returned (.tuple #[.int .i64 (parseVal s.data.toList).1, .iface 94 (.pointer (some ⟨N, 0, none⟩))]) ∧ Below w.heap.size w w' := by
  unfold parseVal at *
  cases hE : Lib.parseIntB 64 s.data.toList with
  | ok v => rw [hE] at h; cases h
  | range =>
    obtain ⟨tp, p, hvar⟩ := hG.2.2
    refine (Tryd.strconv_ParseInt_10_at64_range_var s (by omega) hE tp p w hvar).mono ?_
    rintro e w' ⟨N, rfl, _, _, hb⟩
    exact ⟨N, rfl, hb⟩
  | _ =>
    obtain ⟨tp, p, hvar⟩ := hG.2.1
    refine (Tryd.strconv_ParseInt_10_at64_syntax_var s (by omega) hE tp p w hvar).mono ?_
    rintro e w' ⟨N, rfl, _, _, hb⟩
    exact ⟨N, rfl, hb⟩
theorem keep_c {W w1 : World} (hb : Below W.heap.size W w1) {b o : Nat} {v : Value} (h : W.cell? ⟨b, o, none⟩ = some v) : w1.cell? ⟨b, o, none⟩ = some v := (hb.cell (World.block_lt_of_cell? W _ h)).trans h
theorem keep_f {W w1 : World} (hb : Below W.heap.size W w1) {b o : Nat} {v : Value} (h : W.cell? ⟨b, o, none⟩ = some v) (hf : W.frozen? ⟨b, o, none⟩ = false) : w1.frozen? ⟨b, o, none⟩ = false := (hb.frozen (World.block_lt_of_cell? W _ h)).trans hf
def num_Parse.f (k : Nat) (a0 : ByteArray) : Option (Int × Int × Int) :=
  (strings_Cut.f a0 ⟨#[47]⟩).bind fun c =>
    (num_Text.f k (parseVal c.1.data.toList).1 (parseVal (if c.2.2 = true then c.2.1.data.toList else [49])).1).bind fun t =>
      some (if (parseVal c.1.data.toList).2 = true ∧ (parseVal (if c.2.2 = true then c.2.1.data.toList else [49])).2 = true ∧ t.2 = 0 ∧ t.1.data.toList = a0.data.toList
        then ((parseVal c.1.data.toList).1, (parseVal (if c.2.2 = true then c.2.1.data.toList else [49])).1, 0) else (0, 0, 30))
theorem num_Parse.mono : ∀ a0 k, LeO (num_Parse.f k a0) (num_Parse.f (k + 1) a0) := by
  intro a0 k
  unfold num_Parse.f
  refine LeO.bind (LeO.refl _) (fun _ => ?_)
  exact LeO.bind (num_Text.mono _ _ _) (fun _ => LeO.refl _)
/-- What Parse hands back where both parts are read. -/
def PRes (s t : ByteArray) (te p q : Int) (e : Ending) : Prop := e = .returned (.tuple #[.agg #[.int .i64 (if te = 0 ∧ t.data.toList = s.data.toList then p else 0), .int .i64 (if te = 0 ∧ t.data.toList = s.data.toList then q else 0)], .int .i64 (if te = 0 ∧ t.data.toList = s.data.toList then 0 else 30)])
theorem tl_data (s : ByteArray) : s.toList = s.data.toList := Lib.toList_data s
theorem PRes_no1 {s t : ByteArray} {te p q : Int} (h : (!t.toList == s.toList) = true) : PRes s t te p q (.returned (.tuple #[.agg #[.int .i64 0, .int .i64 0], .int .i64 30])) := by
  have hn : ¬ (te = 0 ∧ t.data.toList = s.data.toList) := fun hc => by
    rw [tl_data, tl_data, hc.2] at h; simp at h
  unfold PRes; rw [if_neg hn, if_neg hn, if_neg hn]
theorem PRes_no2 {s t : ByteArray} {te p q : Int} (h : ¬ te = 0) : PRes s t te p q (.returned (.tuple #[.agg #[.int .i64 0, .int .i64 0], .int .i64 30])) := by
  have hn : ¬ (te = 0 ∧ t.data.toList = s.data.toList) := fun hc => h hc.1
  unfold PRes; rw [if_neg hn, if_neg hn, if_neg hn]
theorem PRes_yes {s t : ByteArray} {te p q : Int} (h0 : te = 0) (h : (!t.toList == s.toList) = false) : PRes s t te p q (.returned (.tuple #[.agg #[.int .i64 p, .int .i64 q], .int .i64 0])) := by
  have hn : te = 0 ∧ t.data.toList = s.data.toList := ⟨h0, by rw [tl_data, tl_data] at h; simpa using h⟩
  unfold PRes; rw [if_pos hn, if_pos hn, if_pos hn]
set_option maxHeartbeats 2000000 in
set_option maxRecDepth 100000 in
theorem Parse_w1 (s first second : ByteArray) (p q : Int) (t : ByteArray) (te : Int) (w : World)
    (hcut : Hid (∀ w, Calls Tryd.prog 59 #[.string s, .string ⟨#[47]⟩] w fun e w' => e = .returned (.tuple #[.string first, .string second, .bool true]) ∧ Drawn0 w w'))
    (hp : Hid (∀ w, Calls Tryd.prog 60 #[.string first, .int .i64 10, .int .i64 64] w fun e w' => e = .returned (.tuple #[.int .i64 p, .nilIface]) ∧ Below w.heap.size w w'))
    (hq : Hid (∀ w, Calls Tryd.prog 60 #[.string second, .int .i64 10, .int .i64 64] w fun e w' => e = .returned (.tuple #[.int .i64 q, .nilIface]) ∧ Below w.heap.size w w'))
    (ht : Hid (∀ w, Glob w → Calls Tryd.prog 32 #[.agg #[.int .i64 p, .int .i64 q]] w fun e w' => e = .returned (.tuple #[.string t, .int .i64 te]) ∧ Below w.heap.size w w')) (hG : Hid (Glob w)) :
    Calls Tryd.prog 34 #[.string s] w fun e w' => PRes s t te p q e ∧ Below w.heap.size w w' := by
  have hu23 := Tryd.underlying23
  go_enter Tryd.func34, Tryd.ntmps34
  go_wp2_with (first | (go_at_call 59; (with_reducible refine (hcut.out _).mono ?_); rintro e w1 ⟨rfl, ⟨n1, rfl⟩⟩) | (go_at_call 60; (with_reducible refine (hp.out _).mono ?_); rintro e w2 ⟨rfl, hb2⟩; have c20 := keep_c hb2 (b := w.heap.size) (o := 0) (v := .int .i64 0) (by go_simp); have c21 := keep_c hb2 (b := w.heap.size) (o := 1) (v := .int .i64 0) (by go_simp); have f20 := keep_f hb2 (b := w.heap.size) (o := 0) (v := .int .i64 0) (by go_simp) (by go_simp); have f21 := keep_f hb2 (b := w.heap.size) (o := 1) (v := .int .i64 0) (by go_simp) (by go_simp); have B2 : Below w.heap.size w w2 := below_step (pw_below_drewN (below_alloc (Below.refl _ _) _) _) hb2) | (go_at_call 60; (with_reducible refine (hq.out _).mono ?_); rintro e w3 ⟨rfl, hb3⟩; have c30 := keep_c hb3 c20; have c31 := keep_c hb3 c21; have f30 := keep_f hb3 c20 f20; have f31 := keep_f hb3 c21 f21; have l3 : w.heap.size < w3.heap.size := World.block_lt_of_cell? w3 _ c30; have l3a : w.heap.size ≠ w3.heap.size := Nat.ne_of_lt l3; have l3b : w3.heap.size ≠ w.heap.size := Nat.ne_of_gt l3; have B3 : Below w.heap.size w w3 := below_step B2 hb3) | (go_at_call 32; (with_reducible refine (ht.out _ (hG.out.below (below_alloc B3 _))).mono ?_); rintro e w4 ⟨rfl, hb4⟩; have c40 := keep_c hb4 (b := w.heap.size) (o := 0) (v := .int .i64 0) (by go_simp); have c41 := keep_c hb4 (b := w.heap.size) (o := 1) (v := .int .i64 0) (by go_simp); have f40 := keep_f hb4 (b := w.heap.size) (o := 0) (v := .int .i64 0) (by go_simp) (by go_simp); have f41 := keep_f hb4 (b := w.heap.size) (o := 1) (v := .int .i64 0) (by go_simp) (by go_simp); have c42 := keep_c hb4 (b := w3.heap.size) (o := 0) (v := .int .i64 p) (by go_simp); have c43 := keep_c hb4 (b := w3.heap.size) (o := 1) (v := .int .i64 q) (by go_simp); have B4 : Below w.heap.size w w4 := below_step (below_alloc B3 _) hb4; clear hb4 hb3 hb2 B2 B3 c20 c21 f20 f21 c30 c31 f30 f31))
  · refine bodyPost_ret (v := .tuple #[.agg #[.int .i64 0, .int .i64 0], .int .i64 30]) (by simp [results, Tryd.results34, go_sem, c40, c41]) rfl ⟨PRes_no1 (by assumption), by repeat (first | exact B4 | refine below_set ?_ (Nat.le_refl _))⟩
  · refine bodyPost_ret (v := .tuple #[.agg #[.int .i64 p, .int .i64 q], .int .i64 0]) (by simp [results, Tryd.results34, go_sem, c40, c41]) rfl ⟨PRes_yes (by assumption) (by assumption), by repeat (first | exact B4 | refine below_set ?_ (Nat.le_refl _))⟩
  · refine bodyPost_ret (v := .tuple #[.agg #[.int .i64 0, .int .i64 0], .int .i64 30]) (by simp [results, Tryd.results34, go_sem, c40, c41]) rfl ⟨PRes_no2 (by assumption), by repeat (first | exact B4 | refine below_set ?_ (Nat.le_refl _))⟩
set_option maxHeartbeats 2000000 in
set_option maxRecDepth 100000 in
theorem Parse_w2 (s first second : ByteArray) (p q : Int) (t : ByteArray) (te : Int) (w : World)
    (hcut : Hid (∀ w, Calls Tryd.prog 59 #[.string s, .string ⟨#[47]⟩] w fun e w' => e = .returned (.tuple #[.string first, .string second, .bool true]) ∧ Drawn0 w w'))
    (hp : Hid (∀ w, Calls Tryd.prog 60 #[.string first, .int .i64 10, .int .i64 64] w fun e w' => e = .returned (.tuple #[.int .i64 p, .nilIface]) ∧ Below w.heap.size w w'))
    (hq : Hid (∀ w, Glob w → Calls Tryd.prog 60 #[.string second, .int .i64 10, .int .i64 64] w fun e w' => ∃ N, e = .returned (.tuple #[.int .i64 q, .iface 94 (.pointer (some ⟨N, 0, none⟩))]) ∧ Below w.heap.size w w'))
    (ht : Hid (∀ w, Glob w → Calls Tryd.prog 32 #[.agg #[.int .i64 p, .int .i64 q]] w fun e w' => e = .returned (.tuple #[.string t, .int .i64 te]) ∧ Below w.heap.size w w')) (hG : Hid (Glob w)) :
    Calls Tryd.prog 34 #[.string s] w fun e w' => e = .returned (.tuple #[.agg #[.int .i64 0, .int .i64 0], .int .i64 30]) ∧ Below w.heap.size w w' := by
  have hu23 := Tryd.underlying23
  go_enter Tryd.func34, Tryd.ntmps34
  go_wp2_with (first | (go_at_call 59; (with_reducible refine (hcut.out _).mono ?_); rintro e w1 ⟨rfl, ⟨n1, rfl⟩⟩) | (go_at_call 60; (with_reducible refine (hp.out _).mono ?_); rintro e w2 ⟨rfl, hb2⟩; have c20 := keep_c hb2 (b := w.heap.size) (o := 0) (v := .int .i64 0) (by go_simp); have c21 := keep_c hb2 (b := w.heap.size) (o := 1) (v := .int .i64 0) (by go_simp); have f20 := keep_f hb2 (b := w.heap.size) (o := 0) (v := .int .i64 0) (by go_simp) (by go_simp); have f21 := keep_f hb2 (b := w.heap.size) (o := 1) (v := .int .i64 0) (by go_simp) (by go_simp); have B2 : Below w.heap.size w w2 := below_step (pw_below_drewN (below_alloc (Below.refl _ _) _) _) hb2) | (go_at_call 60; (with_reducible refine (hq.out _ (hG.out.below B2)).mono ?_); rintro e w3 ⟨N3, rfl, hb3⟩; have c30 := keep_c hb3 c20; have c31 := keep_c hb3 c21; have f30 := keep_f hb3 c20 f20; have f31 := keep_f hb3 c21 f21; have l3 : w.heap.size < w3.heap.size := World.block_lt_of_cell? w3 _ c30; have l3a : w.heap.size ≠ w3.heap.size := Nat.ne_of_lt l3; have l3b : w3.heap.size ≠ w.heap.size := Nat.ne_of_gt l3; have B3 : Below w.heap.size w w3 := below_step B2 hb3) | (go_at_call 32; (with_reducible refine (ht.out _ (hG.out.below (below_alloc B3 _))).mono ?_); rintro e w4 ⟨rfl, hb4⟩; have c40 := keep_c hb4 (b := w.heap.size) (o := 0) (v := .int .i64 0) (by go_simp); have c41 := keep_c hb4 (b := w.heap.size) (o := 1) (v := .int .i64 0) (by go_simp); have f40 := keep_f hb4 (b := w.heap.size) (o := 0) (v := .int .i64 0) (by go_simp) (by go_simp); have f41 := keep_f hb4 (b := w.heap.size) (o := 1) (v := .int .i64 0) (by go_simp) (by go_simp); have c42 := keep_c hb4 (b := w3.heap.size) (o := 0) (v := .int .i64 p) (by go_simp); have c43 := keep_c hb4 (b := w3.heap.size) (o := 1) (v := .int .i64 q) (by go_simp); have B4 : Below w.heap.size w w4 := below_step (below_alloc B3 _) hb4; clear hb4 hb3 hb2 B2 B3 c20 c21 f20 f21 c30 c31 f30 f31))
  all_goals (refine bodyPost_ret (v := .tuple #[.agg #[.int .i64 0, .int .i64 0], .int .i64 30]) (by simp [results, Tryd.results34, go_sem, c40, c41]) rfl ⟨rfl, by repeat (first | exact B4 | refine below_set ?_ (Nat.le_refl _))⟩)
set_option maxHeartbeats 2000000 in
set_option maxRecDepth 100000 in
theorem Parse_w3 (s first second : ByteArray) (p q : Int) (t : ByteArray) (te : Int) (w : World)
    (hcut : Hid (∀ w, Calls Tryd.prog 59 #[.string s, .string ⟨#[47]⟩] w fun e w' => e = .returned (.tuple #[.string first, .string second, .bool true]) ∧ Drawn0 w w'))
    (hp : Hid (∀ w, Glob w → Calls Tryd.prog 60 #[.string first, .int .i64 10, .int .i64 64] w fun e w' => ∃ N, e = .returned (.tuple #[.int .i64 p, .iface 94 (.pointer (some ⟨N, 0, none⟩))]) ∧ Below w.heap.size w w'))
    (hq : Hid (∀ w, Calls Tryd.prog 60 #[.string second, .int .i64 10, .int .i64 64] w fun e w' => e = .returned (.tuple #[.int .i64 q, .nilIface]) ∧ Below w.heap.size w w'))
    (ht : Hid (∀ w, Glob w → Calls Tryd.prog 32 #[.agg #[.int .i64 p, .int .i64 q]] w fun e w' => e = .returned (.tuple #[.string t, .int .i64 te]) ∧ Below w.heap.size w w')) (hG : Hid (Glob w)) :
    Calls Tryd.prog 34 #[.string s] w fun e w' => e = .returned (.tuple #[.agg #[.int .i64 0, .int .i64 0], .int .i64 30]) ∧ Below w.heap.size w w' := by
  have hu23 := Tryd.underlying23
  go_enter Tryd.func34, Tryd.ntmps34
  go_wp2_with (first | (go_at_call 59; (with_reducible refine (hcut.out _).mono ?_); rintro e w1 ⟨rfl, ⟨n1, rfl⟩⟩) | (go_at_call 60; (with_reducible refine (hp.out _ (hG.out.below (pw_below_drewN (below_alloc (Below.refl _ _) _) _))).mono ?_); rintro e w2 ⟨N2, rfl, hb2⟩; have c20 := keep_c hb2 (b := w.heap.size) (o := 0) (v := .int .i64 0) (by go_simp); have c21 := keep_c hb2 (b := w.heap.size) (o := 1) (v := .int .i64 0) (by go_simp); have f20 := keep_f hb2 (b := w.heap.size) (o := 0) (v := .int .i64 0) (by go_simp) (by go_simp); have f21 := keep_f hb2 (b := w.heap.size) (o := 1) (v := .int .i64 0) (by go_simp) (by go_simp); have B2 : Below w.heap.size w w2 := below_step (pw_below_drewN (below_alloc (Below.refl _ _) _) _) hb2) | (go_at_call 60; (with_reducible refine (hq.out _).mono ?_); rintro e w3 ⟨rfl, hb3⟩; have c30 := keep_c hb3 c20; have c31 := keep_c hb3 c21; have f30 := keep_f hb3 c20 f20; have f31 := keep_f hb3 c21 f21; have l3 : w.heap.size < w3.heap.size := World.block_lt_of_cell? w3 _ c30; have l3a : w.heap.size ≠ w3.heap.size := Nat.ne_of_lt l3; have l3b : w3.heap.size ≠ w.heap.size := Nat.ne_of_gt l3; have B3 : Below w.heap.size w w3 := below_step B2 hb3) | (go_at_call 32; (with_reducible refine (ht.out _ (hG.out.below (below_alloc B3 _))).mono ?_); rintro e w4 ⟨rfl, hb4⟩; have c40 := keep_c hb4 (b := w.heap.size) (o := 0) (v := .int .i64 0) (by go_simp); have c41 := keep_c hb4 (b := w.heap.size) (o := 1) (v := .int .i64 0) (by go_simp); have f40 := keep_f hb4 (b := w.heap.size) (o := 0) (v := .int .i64 0) (by go_simp) (by go_simp); have f41 := keep_f hb4 (b := w.heap.size) (o := 1) (v := .int .i64 0) (by go_simp) (by go_simp); have c42 := keep_c hb4 (b := w3.heap.size) (o := 0) (v := .int .i64 p) (by go_simp); have c43 := keep_c hb4 (b := w3.heap.size) (o := 1) (v := .int .i64 q) (by go_simp); have B4 : Below w.heap.size w w4 := below_step (below_alloc B3 _) hb4; clear hb4 hb3 hb2 B2 B3 c20 c21 f20 f21 c30 c31 f30 f31))
  all_goals (refine bodyPost_ret (v := .tuple #[.agg #[.int .i64 0, .int .i64 0], .int .i64 30]) (by simp [results, Tryd.results34, go_sem, c40, c41]) rfl ⟨rfl, by repeat (first | exact B4 | refine below_set ?_ (Nat.le_refl _))⟩)
set_option maxHeartbeats 2000000 in
set_option maxRecDepth 100000 in
theorem Parse_w4 (s first second : ByteArray) (p q : Int) (t : ByteArray) (te : Int) (w : World)
    (hcut : Hid (∀ w, Calls Tryd.prog 59 #[.string s, .string ⟨#[47]⟩] w fun e w' => e = .returned (.tuple #[.string first, .string second, .bool true]) ∧ Drawn0 w w'))
    (hp : Hid (∀ w, Glob w → Calls Tryd.prog 60 #[.string first, .int .i64 10, .int .i64 64] w fun e w' => ∃ N, e = .returned (.tuple #[.int .i64 p, .iface 94 (.pointer (some ⟨N, 0, none⟩))]) ∧ Below w.heap.size w w'))
    (hq : Hid (∀ w, Glob w → Calls Tryd.prog 60 #[.string second, .int .i64 10, .int .i64 64] w fun e w' => ∃ N, e = .returned (.tuple #[.int .i64 q, .iface 94 (.pointer (some ⟨N, 0, none⟩))]) ∧ Below w.heap.size w w'))
    (ht : Hid (∀ w, Glob w → Calls Tryd.prog 32 #[.agg #[.int .i64 p, .int .i64 q]] w fun e w' => e = .returned (.tuple #[.string t, .int .i64 te]) ∧ Below w.heap.size w w')) (hG : Hid (Glob w)) :
    Calls Tryd.prog 34 #[.string s] w fun e w' => e = .returned (.tuple #[.agg #[.int .i64 0, .int .i64 0], .int .i64 30]) ∧ Below w.heap.size w w' := by
  have hu23 := Tryd.underlying23
  go_enter Tryd.func34, Tryd.ntmps34
  go_wp2_with (first | (go_at_call 59; (with_reducible refine (hcut.out _).mono ?_); rintro e w1 ⟨rfl, ⟨n1, rfl⟩⟩) | (go_at_call 60; (with_reducible refine (hp.out _ (hG.out.below (pw_below_drewN (below_alloc (Below.refl _ _) _) _))).mono ?_); rintro e w2 ⟨N2, rfl, hb2⟩; have c20 := keep_c hb2 (b := w.heap.size) (o := 0) (v := .int .i64 0) (by go_simp); have c21 := keep_c hb2 (b := w.heap.size) (o := 1) (v := .int .i64 0) (by go_simp); have f20 := keep_f hb2 (b := w.heap.size) (o := 0) (v := .int .i64 0) (by go_simp) (by go_simp); have f21 := keep_f hb2 (b := w.heap.size) (o := 1) (v := .int .i64 0) (by go_simp) (by go_simp); have B2 : Below w.heap.size w w2 := below_step (pw_below_drewN (below_alloc (Below.refl _ _) _) _) hb2) | (go_at_call 60; (with_reducible refine (hq.out _ (hG.out.below B2)).mono ?_); rintro e w3 ⟨N3, rfl, hb3⟩; have c30 := keep_c hb3 c20; have c31 := keep_c hb3 c21; have f30 := keep_f hb3 c20 f20; have f31 := keep_f hb3 c21 f21; have l3 : w.heap.size < w3.heap.size := World.block_lt_of_cell? w3 _ c30; have l3a : w.heap.size ≠ w3.heap.size := Nat.ne_of_lt l3; have l3b : w3.heap.size ≠ w.heap.size := Nat.ne_of_gt l3; have B3 : Below w.heap.size w w3 := below_step B2 hb3) | (go_at_call 32; (with_reducible refine (ht.out _ (hG.out.below (below_alloc B3 _))).mono ?_); rintro e w4 ⟨rfl, hb4⟩; have c40 := keep_c hb4 (b := w.heap.size) (o := 0) (v := .int .i64 0) (by go_simp); have c41 := keep_c hb4 (b := w.heap.size) (o := 1) (v := .int .i64 0) (by go_simp); have f40 := keep_f hb4 (b := w.heap.size) (o := 0) (v := .int .i64 0) (by go_simp) (by go_simp); have f41 := keep_f hb4 (b := w.heap.size) (o := 1) (v := .int .i64 0) (by go_simp) (by go_simp); have c42 := keep_c hb4 (b := w3.heap.size) (o := 0) (v := .int .i64 p) (by go_simp); have c43 := keep_c hb4 (b := w3.heap.size) (o := 1) (v := .int .i64 q) (by go_simp); have B4 : Below w.heap.size w w4 := below_step (below_alloc B3 _) hb4; clear hb4 hb3 hb2 B2 B3 c20 c21 f20 f21 c30 c31 f30 f31))
  all_goals (refine bodyPost_ret (v := .tuple #[.agg #[.int .i64 0, .int .i64 0], .int .i64 30]) (by simp [results, Tryd.results34, go_sem, c40, c41]) rfl ⟨rfl, by repeat (first | exact B4 | refine below_set ?_ (Nat.le_refl _))⟩)
set_option maxHeartbeats 2000000 in
set_option maxRecDepth 100000 in
theorem Parse_w5 (s first second : ByteArray) (p q : Int) (t : ByteArray) (te : Int) (w : World)
    (hcut : Hid (∀ w, Calls Tryd.prog 59 #[.string s, .string ⟨#[47]⟩] w fun e w' => e = .returned (.tuple #[.string first, .string second, .bool false]) ∧ Drawn0 w w'))
    (hp : Hid (∀ w, Calls Tryd.prog 60 #[.string first, .int .i64 10, .int .i64 64] w fun e w' => e = .returned (.tuple #[.int .i64 p, .nilIface]) ∧ Below w.heap.size w w'))
    (hq : Hid (∀ w, Calls Tryd.prog 60 #[.string ⟨#[49]⟩, .int .i64 10, .int .i64 64] w fun e w' => e = .returned (.tuple #[.int .i64 q, .nilIface]) ∧ Below w.heap.size w w'))
    (ht : Hid (∀ w, Glob w → Calls Tryd.prog 32 #[.agg #[.int .i64 p, .int .i64 q]] w fun e w' => e = .returned (.tuple #[.string t, .int .i64 te]) ∧ Below w.heap.size w w')) (hG : Hid (Glob w)) :
    Calls Tryd.prog 34 #[.string s] w fun e w' => PRes s t te p q e ∧ Below w.heap.size w w' := by
  have hu23 := Tryd.underlying23
  go_enter Tryd.func34, Tryd.ntmps34
  go_wp2_with (first | (go_at_call 59; (with_reducible refine (hcut.out _).mono ?_); rintro e w1 ⟨rfl, ⟨n1, rfl⟩⟩) | (go_at_call 60; (with_reducible refine (hp.out _).mono ?_); rintro e w2 ⟨rfl, hb2⟩; have c20 := keep_c hb2 (b := w.heap.size) (o := 0) (v := .int .i64 0) (by go_simp); have c21 := keep_c hb2 (b := w.heap.size) (o := 1) (v := .int .i64 0) (by go_simp); have f20 := keep_f hb2 (b := w.heap.size) (o := 0) (v := .int .i64 0) (by go_simp) (by go_simp); have f21 := keep_f hb2 (b := w.heap.size) (o := 1) (v := .int .i64 0) (by go_simp) (by go_simp); have B2 : Below w.heap.size w w2 := below_step (pw_below_drewN (below_alloc (Below.refl _ _) _) _) hb2) | (go_at_call 60; (with_reducible refine (hq.out _).mono ?_); rintro e w3 ⟨rfl, hb3⟩; have c30 := keep_c hb3 c20; have c31 := keep_c hb3 c21; have f30 := keep_f hb3 c20 f20; have f31 := keep_f hb3 c21 f21; have l3 : w.heap.size < w3.heap.size := World.block_lt_of_cell? w3 _ c30; have l3a : w.heap.size ≠ w3.heap.size := Nat.ne_of_lt l3; have l3b : w3.heap.size ≠ w.heap.size := Nat.ne_of_gt l3; have B3 : Below w.heap.size w w3 := below_step B2 hb3) | (go_at_call 32; (with_reducible refine (ht.out _ (hG.out.below (below_alloc B3 _))).mono ?_); rintro e w4 ⟨rfl, hb4⟩; have c40 := keep_c hb4 (b := w.heap.size) (o := 0) (v := .int .i64 0) (by go_simp); have c41 := keep_c hb4 (b := w.heap.size) (o := 1) (v := .int .i64 0) (by go_simp); have f40 := keep_f hb4 (b := w.heap.size) (o := 0) (v := .int .i64 0) (by go_simp) (by go_simp); have f41 := keep_f hb4 (b := w.heap.size) (o := 1) (v := .int .i64 0) (by go_simp) (by go_simp); have c42 := keep_c hb4 (b := w3.heap.size) (o := 0) (v := .int .i64 p) (by go_simp); have c43 := keep_c hb4 (b := w3.heap.size) (o := 1) (v := .int .i64 q) (by go_simp); have B4 : Below w.heap.size w w4 := below_step (below_alloc B3 _) hb4; clear hb4 hb3 hb2 B2 B3 c20 c21 f20 f21 c30 c31 f30 f31))
  · refine bodyPost_ret (v := .tuple #[.agg #[.int .i64 0, .int .i64 0], .int .i64 30]) (by simp [results, Tryd.results34, go_sem, c40, c41]) rfl ⟨PRes_no1 (by assumption), by repeat (first | exact B4 | refine below_set ?_ (Nat.le_refl _))⟩
  · refine bodyPost_ret (v := .tuple #[.agg #[.int .i64 p, .int .i64 q], .int .i64 0]) (by simp [results, Tryd.results34, go_sem, c40, c41]) rfl ⟨PRes_yes (by assumption) (by assumption), by repeat (first | exact B4 | refine below_set ?_ (Nat.le_refl _))⟩
  · refine bodyPost_ret (v := .tuple #[.agg #[.int .i64 0, .int .i64 0], .int .i64 30]) (by simp [results, Tryd.results34, go_sem, c40, c41]) rfl ⟨PRes_no2 (by assumption), by repeat (first | exact B4 | refine below_set ?_ (Nat.le_refl _))⟩
set_option maxHeartbeats 2000000 in
set_option maxRecDepth 100000 in
theorem Parse_w6 (s first second : ByteArray) (p q : Int) (t : ByteArray) (te : Int) (w : World)
    (hcut : Hid (∀ w, Calls Tryd.prog 59 #[.string s, .string ⟨#[47]⟩] w fun e w' => e = .returned (.tuple #[.string first, .string second, .bool false]) ∧ Drawn0 w w'))
    (hp : Hid (∀ w, Glob w → Calls Tryd.prog 60 #[.string first, .int .i64 10, .int .i64 64] w fun e w' => ∃ N, e = .returned (.tuple #[.int .i64 p, .iface 94 (.pointer (some ⟨N, 0, none⟩))]) ∧ Below w.heap.size w w'))
    (hq : Hid (∀ w, Calls Tryd.prog 60 #[.string ⟨#[49]⟩, .int .i64 10, .int .i64 64] w fun e w' => e = .returned (.tuple #[.int .i64 q, .nilIface]) ∧ Below w.heap.size w w'))
    (ht : Hid (∀ w, Glob w → Calls Tryd.prog 32 #[.agg #[.int .i64 p, .int .i64 q]] w fun e w' => e = .returned (.tuple #[.string t, .int .i64 te]) ∧ Below w.heap.size w w')) (hG : Hid (Glob w)) :
    Calls Tryd.prog 34 #[.string s] w fun e w' => e = .returned (.tuple #[.agg #[.int .i64 0, .int .i64 0], .int .i64 30]) ∧ Below w.heap.size w w' := by
  have hu23 := Tryd.underlying23
  go_enter Tryd.func34, Tryd.ntmps34
  go_wp2_with (first | (go_at_call 59; (with_reducible refine (hcut.out _).mono ?_); rintro e w1 ⟨rfl, ⟨n1, rfl⟩⟩) | (go_at_call 60; (with_reducible refine (hp.out _ (hG.out.below (pw_below_drewN (below_alloc (Below.refl _ _) _) _))).mono ?_); rintro e w2 ⟨N2, rfl, hb2⟩; have c20 := keep_c hb2 (b := w.heap.size) (o := 0) (v := .int .i64 0) (by go_simp); have c21 := keep_c hb2 (b := w.heap.size) (o := 1) (v := .int .i64 0) (by go_simp); have f20 := keep_f hb2 (b := w.heap.size) (o := 0) (v := .int .i64 0) (by go_simp) (by go_simp); have f21 := keep_f hb2 (b := w.heap.size) (o := 1) (v := .int .i64 0) (by go_simp) (by go_simp); have B2 : Below w.heap.size w w2 := below_step (pw_below_drewN (below_alloc (Below.refl _ _) _) _) hb2) | (go_at_call 60; (with_reducible refine (hq.out _).mono ?_); rintro e w3 ⟨rfl, hb3⟩; have c30 := keep_c hb3 c20; have c31 := keep_c hb3 c21; have f30 := keep_f hb3 c20 f20; have f31 := keep_f hb3 c21 f21; have l3 : w.heap.size < w3.heap.size := World.block_lt_of_cell? w3 _ c30; have l3a : w.heap.size ≠ w3.heap.size := Nat.ne_of_lt l3; have l3b : w3.heap.size ≠ w.heap.size := Nat.ne_of_gt l3; have B3 : Below w.heap.size w w3 := below_step B2 hb3) | (go_at_call 32; (with_reducible refine (ht.out _ (hG.out.below (below_alloc B3 _))).mono ?_); rintro e w4 ⟨rfl, hb4⟩; have c40 := keep_c hb4 (b := w.heap.size) (o := 0) (v := .int .i64 0) (by go_simp); have c41 := keep_c hb4 (b := w.heap.size) (o := 1) (v := .int .i64 0) (by go_simp); have f40 := keep_f hb4 (b := w.heap.size) (o := 0) (v := .int .i64 0) (by go_simp) (by go_simp); have f41 := keep_f hb4 (b := w.heap.size) (o := 1) (v := .int .i64 0) (by go_simp) (by go_simp); have c42 := keep_c hb4 (b := w3.heap.size) (o := 0) (v := .int .i64 p) (by go_simp); have c43 := keep_c hb4 (b := w3.heap.size) (o := 1) (v := .int .i64 q) (by go_simp); have B4 : Below w.heap.size w w4 := below_step (below_alloc B3 _) hb4; clear hb4 hb3 hb2 B2 B3 c20 c21 f20 f21 c30 c31 f30 f31))
  all_goals (refine bodyPost_ret (v := .tuple #[.agg #[.int .i64 0, .int .i64 0], .int .i64 30]) (by simp [results, Tryd.results34, go_sem, c40, c41]) rfl ⟨rfl, by repeat (first | exact B4 | refine below_set ?_ (Nat.le_refl _))⟩)
theorem cut_size {a0 sep r1 r2 : ByteArray} {r3 : Bool} (h : strings_Cut.f a0 sep = some (r1, r2, r3)) : r1.size ≤ 4294967280 ∧ r2.size ≤ 4294967280 := by
  unfold strings_Cut.f at h
  split at h
  case isFalse => cases h
  rename_i hc
  obtain ⟨h1, h2⟩ := hc
  simp only [Option.some.injEq, Prod.mk.injEq] at h
  obtain ⟨rfl, rfl, rfl⟩ := h
  have e : a0.size = a0.data.toList.length := Lib.size_eq a0
  have e1 : ∀ l : List UInt8, (⟨l.toArray⟩ : ByteArray).size = l.length := fun l => by rw [Lib.size_eq]
  rw [e1, e1]
  unfold Lib.cut
  split <;> simp <;> omega
theorem num_Parse.calls (k : Nat) (a0 : ByteArray) (r1 r2 r3 : Int) (w : World) (h : num_Parse.f k a0 = some (r1, r2, r3)) (hG : Glob w) :
    Calls Tryd.prog 34 #[.string a0] w fun e w' => e = .returned (.tuple #[.agg #[.int .i64 r1, .int .i64 r2], .int .i64 r3]) ∧ Below w.heap.size w w' := by
  unfold num_Parse.f at h
  obtain ⟨⟨first, second, there⟩, hcut, h⟩ := Option.bind_eq_some_iff.mp h
  obtain ⟨⟨t, te⟩, ht, h⟩ := Option.bind_eq_some_iff.mp h
  obtain ⟨z1, z2⟩ := cut_size hcut
  have hC := Lib.hid (fun w => strings_Cut.calls a0 ⟨#[47]⟩ first second there w hcut)
  have hT := Lib.hid (fun w (g : Glob w) => num_Text.calls k _ _ t te w ht g)
  have hg := Lib.hid hG
  simp only at h
  cases there with
  | true =>
    simp only [if_true] at h hT
    cases hp : (parseVal first.data.toList).2 with
    | true =>
      cases hq : (parseVal second.data.toList).2 with
      | true =>
        refine (Parse_w1 a0 first second _ _ t te w hC (Lib.hid fun w => PI_ok first z1 hp w) (Lib.hid fun w => PI_ok second z2 hq w) hT hg).mono ?_
        rintro e w' ⟨he, hb⟩
        refine ⟨?_, hb⟩
        unfold PRes at he
        rw [he]
        simp only [hp, hq, true_and] at h
        split at h
        · rename_i hc
          simp only [Option.some.injEq, Prod.mk.injEq] at h
          obtain ⟨rfl, rfl, rfl⟩ := h
          rw [if_pos hc, if_pos hc, if_pos hc]
        · rename_i hc
          simp only [Option.some.injEq, Prod.mk.injEq] at h
          obtain ⟨rfl, rfl, rfl⟩ := h
          rw [if_neg hc, if_neg hc, if_neg hc]
      | false =>
        rw [if_neg (by rintro ⟨_, hc, _⟩; rw [hq] at hc; cases hc)] at h
        simp only [Option.some.injEq, Prod.mk.injEq] at h
        obtain ⟨rfl, rfl, rfl⟩ := h
        exact Parse_w2 a0 first second _ _ t te w hC (Lib.hid fun w => PI_ok first z1 hp w) (Lib.hid fun w g => PI_bad second z2 hq w g) hT hg
    | false =>
      rw [if_neg (by rintro ⟨hc, _⟩; rw [hp] at hc; cases hc)] at h
      simp only [Option.some.injEq, Prod.mk.injEq] at h
      obtain ⟨rfl, rfl, rfl⟩ := h
      cases hq : (parseVal second.data.toList).2 with
      | true => exact Parse_w3 a0 first second _ _ t te w hC (Lib.hid fun w g => PI_bad first z1 hp w g) (Lib.hid fun w => PI_ok second z2 hq w) hT hg
      | false => exact Parse_w4 a0 first second _ _ t te w hC (Lib.hid fun w g => PI_bad first z1 hp w g) (Lib.hid fun w g => PI_bad second z2 hq w g) hT hg
  | false =>
    have e1 : parseVal [49] = (1, true) := by decide +kernel
    simp only [Bool.false_eq_true, if_false, e1] at h hT
    have hone := fun w => PI_ok ⟨#[49]⟩ (by decide) (by show (parseVal [49]).2 = true; rw [e1]) w
    replace hone : ∀ w, Calls Tryd.prog 60 #[.string ⟨#[49]⟩, .int .i64 10, .int .i64 64] w fun e w' => e = .returned (.tuple #[.int .i64 1, .nilIface]) ∧ Below w.heap.size w w' := by
      intro w
      refine (hone w).mono ?_
      rintro e w' ⟨rfl, hb⟩
      refine ⟨?_, hb⟩
      show _ = Ending.returned (.tuple #[.int .i64 (parseVal [49]).1, .nilIface]) 
      rw [e1]
    cases hp : (parseVal first.data.toList).2 with
    | true =>
      refine (Parse_w5 a0 first second _ _ t te w hC (Lib.hid fun w => PI_ok first z1 hp w) (Lib.hid hone) hT hg).mono ?_
      rintro e w' ⟨he, hb⟩
      refine ⟨?_, hb⟩
      unfold PRes at he
      rw [he]
      simp only [hp, true_and] at h
      split at h
      · rename_i hc
        simp only [Option.some.injEq, Prod.mk.injEq] at h
        obtain ⟨rfl, rfl, rfl⟩ := h
        rw [if_pos hc, if_pos hc, if_pos hc]
      · rename_i hc
        simp only [Option.some.injEq, Prod.mk.injEq] at h
        obtain ⟨rfl, rfl, rfl⟩ := h
        rw [if_neg hc, if_neg hc, if_neg hc]
    | false =>
      rw [if_neg (by rintro ⟨hc, _⟩; rw [hp] at hc; cases hc)] at h
      simp only [Option.some.injEq, Prod.mk.injEq] at h
      obtain ⟨rfl, rfl, rfl⟩ := h
      exact Parse_w6 a0 first second _ _ t te w hC (Lib.hid fun w g => PI_bad first z1 hp w g) (Lib.hid hone) hT hg

end Go.Proofs.YtndbdnkpnjibkaaDoor.P
