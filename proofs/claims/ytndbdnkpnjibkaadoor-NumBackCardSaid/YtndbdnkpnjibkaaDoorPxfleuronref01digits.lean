-- PRINTED by print.py (a twelfth state) out of the translation. Not trusted: Lean checks it.
import Derived.Test.YtndbdnkpnjibkaaDoorPx0
import Derived.Test.YtndbdnkpnjibkaaDoorPxrationalsize
namespace Go.Proofs.YtndbdnkpnjibkaaDoor.P
open Go.RowKit Go.Proofs.YtndbdnkpnjibkaaDoorW.PrintWords Go.Proofs.YtndbdnkpnjibkaaDoorW.PrintLast Go.Proofs.YtndbdnkpnjibkaaDoorW.PrintMore
attribute [local go_sem] max2_int min2_int max_two min_two max_three min_three max_four min_four   -- for this text's walks alone
set_option linter.unusedVariables false
set_option linter.unusedSimpArgs false

/-! ### fleuronref01_digits: function 58 -/
-- EXT
/-- The reference's digits: the decimal digits. -/
def fleuronref01_digits.f (a0 : Int) : Option ByteArray := if 0 ≤ a0 ∧ a0 < 18446744073709551616 then some ⟨(Lib.decDigits a0.toNat).toArray⟩ else none
set_option maxHeartbeats 1000000 in
theorem ref_digits_low (a : Int) (h0 : 0 ≤ a) (hlt : a < 10) (w : World) :
    Calls Tryd.prog 58 #[.int .u64 a] w fun e w' => e = .returned (.string (Utf8.encode (48 + a % 10))) ∧ Below w.heap.size w w' := by
  go_enter Tryd.func58, Tryd.ntmps58
  go_wp2_with fail
  go_ret
  exact ⟨rfl, Below.refl _ _⟩
set_option maxHeartbeats 1000000 in
theorem ref_digits_high (a : Int) (s : ByteArray) (h0 : 10 ≤ a) (hs : s.size + (Utf8.encode (48 + a % 10)).size ≤ 9223372036854775807) (w : World)
    (hrec : ∀ w, Calls Tryd.prog 58 #[.int .u64 (IntKind.u64.wrap (a.tdiv 10))] w fun e w' => e = .returned (.string s) ∧ Below w.heap.size w w') :
    Calls Tryd.prog 58 #[.int .u64 a] w fun e w' => e = .returned (.string (s ++ Utf8.encode (48 + a % 10))) ∧ Below w.heap.size w w' := by
  have hr := Lib.hid hrec
  clear hrec
  have hadd := fun w => run_string_add_sum (P := Tryd.prog) (w := w) s (Utf8.encode (48 + a % 10)) hs
  clear hs
  go_enter Tryd.func58, Tryd.ntmps58
  go_wp2_with (first | (go_at_call 58; (with_reducible refine (hr.out _).mono ?_); rintro e w1 ⟨rfl, hb1⟩))
  go_ret
  exact ⟨rfl, hb1⟩
theorem enc_digit (n : Nat) : Utf8.encode (48 + (n : Int) % 10) = ⟨#[UInt8.ofNat (48 + n % 10)]⟩ := by
  have : n % 10 < 10 := Nat.mod_lt _ (by decide)
  have e : (48 + (n : Int) % 10) = ((48 + n % 10 : Nat) : Int) := by omega
  rw [e]
  generalize n % 10 = m at this
  have h : ∀ m : Fin 10, Utf8.encode ((48 + m.val : Nat) : Int) = ⟨#[UInt8.ofNat (48 + m.val)]⟩ := by decide +kernel
  exact h ⟨m, this⟩
theorem dd_len (n : Nat) (h : n < 18446744073709551616) : (Lib.decDigits n).length ≤ 20 := by
  have : ∀ (k n : Nat), n < 10 ^ (k + 1) → (Lib.decDigits n).length ≤ k + 1 := by
    intro k
    induction k with
    | zero => intro n h; rw [Lib.decDigits, dif_pos (by omega)]; simp
    | succ k ih =>
      intro n h
      rw [Lib.decDigits]
      split
      · simp
      · have := ih (n / 10) (by rw [Nat.pow_succ] at h; omega)
        simp; omega
  have h2 := this 19 n (by omega)
  omega
theorem ref_digits_calls : ∀ (n : Nat), n < 18446744073709551616 → ∀ (w : World),
    Calls Tryd.prog 58 #[.int .u64 (n : Int)] w fun e w' => e = .returned (.string ⟨(Lib.decDigits n).toArray⟩) ∧ Below w.heap.size w w' := by
  intro n
  induction n using Nat.strongRecOn with
  | _ n ih =>
    intro hn w
    by_cases hlt : n < 10
    · refine (ref_digits_low (n : Int) (by omega) (by omega) w).mono ?_
      rintro e w' ⟨rfl, hb⟩
      refine ⟨?_, hb⟩
      rw [enc_digit, Lib.decDigits, dif_pos hlt, Nat.mod_eq_of_lt hlt]
    · have e : IntKind.u64.wrap ((n : Int).tdiv 10) = ((n / 10 : Nat) : Int) := by
        rw [Int.tdiv_eq_ediv_of_nonneg (by omega), show IntKind.u64.wrap ((n : Int) / 10) = ((n : Int) / 10) % 18446744073709551616 by simp [IntKind.wrap, IntKind.bits, IntKind.signed]]
        omega
      refine (ref_digits_high (n : Int) ⟨(Lib.decDigits (n / 10)).toArray⟩ (by omega) ?_ w ?_).mono ?_
      · have := dd_len (n / 10) (by omega)
        rw [enc_digit]
        show (Lib.decDigits (n / 10)).toArray.size + 1 ≤ _
        simp only [List.size_toArray]
        omega
      · intro w
        rw [e]
        exact ih (n / 10) (by omega) (by omega) w
      · rintro e w' ⟨rfl, hb⟩
        refine ⟨?_, hb⟩
        rw [enc_digit]
        congr 2
        rw [Lib.decDigits.eq_def n, dif_neg hlt]
        apply ByteArray.ext
        simp
theorem fleuronref01_digits.calls (a0 : Int) (r : ByteArray) (w : World) (h : fleuronref01_digits.f a0 = some r) :
    Calls Tryd.prog 58 #[.int .u64 a0] w fun e w' => e = .returned (.string r) ∧ Below w.heap.size w w' := by
  unfold fleuronref01_digits.f at h
  split at h
  case isFalse => cases h
  rename_i hc
  obtain ⟨h1, h2⟩ := hc
  obtain rfl := Option.some.inj h
  obtain ⟨n, rfl⟩ := Int.eq_ofNat_of_zero_le h1
  exact ref_digits_calls n (by omega) w

/-! ### fleuronref01_Text: function 33 -/
def fleuronref01_Text.f (k : Nat) (a0_0 : Int) (a0_1 : Int) : Option (ByteArray × Int) := (fleuronref01_Valid.f k a0_0 a0_1).bind fun t477 => (if t477 = true then ((fleuronref01_size.f a0_0).bind fun t478 => ((fleuronref01_digits.f t478).bind fun t479 => (if a0_0 < 0 then (if 1 + t479.size ≤ 9223372036854775807 then (if a0_1 = 1 then (some ((⟨#[45]⟩ : ByteArray) ++ t479, 0)) else ((fleuronref01_digits.f (IntKind.u64.wrap (a0_1))).bind fun t480 => (if 1 + t480.size ≤ 9223372036854775807 then (if ((⟨#[45]⟩ : ByteArray) ++ t479).size + ((⟨#[47]⟩ : ByteArray) ++ t480).size ≤ 9223372036854775807 then (some (((⟨#[45]⟩ : ByteArray) ++ t479) ++ ((⟨#[47]⟩ : ByteArray) ++ t480), 0)) else (none)) else (none)))) else (none)) else (if a0_1 = 1 then (some (t479, 0)) else ((fleuronref01_digits.f (IntKind.u64.wrap (a0_1))).bind fun t481 => (if 1 + t481.size ≤ 9223372036854775807 then (if t479.size + ((⟨#[47]⟩ : ByteArray) ++ t481).size ≤ 9223372036854775807 then (some (t479 ++ ((⟨#[47]⟩ : ByteArray) ++ t481), 0)) else (none)) else (none))))))) else (some ((⟨#[]⟩ : ByteArray), 2)))
theorem fleuronref01_Text.mono : ∀ a0 a1 k, LeO (fleuronref01_Text.f k a0 a1) (fleuronref01_Text.f (k + 1) a0 a1) := by
  intro a0 a1 k
  unfold fleuronref01_Text.f
  repeat' first
      | (with_reducible exact fleuronref01_Valid.mono _ _ _)
      | (with_reducible exact LeO.refl _)
      | (with_reducible exact LeO.none _)
      | (with_reducible refine LeO.ite ?_ ?_)
      | (with_reducible refine LeO.bind ?_ (fun _ => ?_))
      | exact fleuronref01_Valid.mono _ _ _
      | exact LeO.none _
      | refine LeO.ite ?_ ?_
      | refine LeO.bind ?_ (fun _ => ?_)
set_option maxHeartbeats 8000000 in
set_option maxRecDepth 100000 in
theorem fleuronref01_Text.calls (k : Nat) (a0_0 : Int) (a0_1 : Int) (r1 : ByteArray) (r2 : Int) (w : World) (h : fleuronref01_Text.f k a0_0 a0_1 = some (r1, r2)) :
    Calls Tryd.prog 33 #[.agg #[.int .i64 a0_0, .int .i64 a0_1]] w fun e w' => e = .returned (.tuple #[.string r1, .int .i64 r2]) ∧ Below w.heap.size w w' := by
  have hu23 := Tryd.underlying23
  have HB := Fa.mk (Below.refl w.heap.size w)
  have H : ((fleuronref01_Valid.f k a0_0 a0_1).bind fun t477 => (if t477 = true then ((fleuronref01_size.f a0_0).bind fun t478 => ((fleuronref01_digits.f t478).bind fun t479 => (if a0_0 < 0 then (if 1 + t479.size ≤ 9223372036854775807 then (if a0_1 = 1 then (some ((⟨#[45]⟩ : ByteArray) ++ t479, 0)) else ((fleuronref01_digits.f (IntKind.u64.wrap (a0_1))).bind fun t480 => (if 1 + t480.size ≤ 9223372036854775807 then (if ((⟨#[45]⟩ : ByteArray) ++ t479).size + ((⟨#[47]⟩ : ByteArray) ++ t480).size ≤ 9223372036854775807 then (some (((⟨#[45]⟩ : ByteArray) ++ t479) ++ ((⟨#[47]⟩ : ByteArray) ++ t480), 0)) else (none)) else (none)))) else (none)) else (if a0_1 = 1 then (some (t479, 0)) else ((fleuronref01_digits.f (IntKind.u64.wrap (a0_1))).bind fun t481 => (if 1 + t481.size ≤ 9223372036854775807 then (if t479.size + ((⟨#[47]⟩ : ByteArray) ++ t481).size ≤ 9223372036854775807 then (some (t479 ++ ((⟨#[47]⟩ : ByteArray) ++ t481), 0)) else (none)) else (none))))))) else (some ((⟨#[]⟩ : ByteArray), 2)))) = some (r1, r2) := h
  clear h
  replace H := Option.bind_eq_some_iff.mp H
  obtain ⟨t477, A20, H⟩ := H
  replace H : (if t477 = true then ((fleuronref01_size.f a0_0).bind fun t478 => ((fleuronref01_digits.f t478).bind fun t479 => (if a0_0 < 0 then (if 1 + t479.size ≤ 9223372036854775807 then (if a0_1 = 1 then (some ((⟨#[45]⟩ : ByteArray) ++ t479, 0)) else ((fleuronref01_digits.f (IntKind.u64.wrap (a0_1))).bind fun t480 => (if 1 + t480.size ≤ 9223372036854775807 then (if ((⟨#[45]⟩ : ByteArray) ++ t479).size + ((⟨#[47]⟩ : ByteArray) ++ t480).size ≤ 9223372036854775807 then (some (((⟨#[45]⟩ : ByteArray) ++ t479) ++ ((⟨#[47]⟩ : ByteArray) ++ t480), 0)) else (none)) else (none)))) else (none)) else (if a0_1 = 1 then (some (t479, 0)) else ((fleuronref01_digits.f (IntKind.u64.wrap (a0_1))).bind fun t481 => (if 1 + t481.size ≤ 9223372036854775807 then (if t479.size + ((⟨#[47]⟩ : ByteArray) ++ t481).size ≤ 9223372036854775807 then (some (t479 ++ ((⟨#[47]⟩ : ByteArray) ++ t481), 0)) else (none)) else (none))))))) else (some ((⟨#[]⟩ : ByteArray), 2))) = some (r1, r2) := H
  have A2 := Fa.mk A20
  clear A20
  by_cases c3 : t477 = true
  · subst c3
    have H1 : ((fleuronref01_size.f a0_0).bind fun t478 => ((fleuronref01_digits.f t478).bind fun t479 => (if a0_0 < 0 then (if 1 + t479.size ≤ 9223372036854775807 then (if a0_1 = 1 then (some ((⟨#[45]⟩ : ByteArray) ++ t479, 0)) else ((fleuronref01_digits.f (IntKind.u64.wrap (a0_1))).bind fun t480 => (if 1 + t480.size ≤ 9223372036854775807 then (if ((⟨#[45]⟩ : ByteArray) ++ t479).size + ((⟨#[47]⟩ : ByteArray) ++ t480).size ≤ 9223372036854775807 then (some (((⟨#[45]⟩ : ByteArray) ++ t479) ++ ((⟨#[47]⟩ : ByteArray) ++ t480), 0)) else (none)) else (none)))) else (none)) else (if a0_1 = 1 then (some (t479, 0)) else ((fleuronref01_digits.f (IntKind.u64.wrap (a0_1))).bind fun t481 => (if 1 + t481.size ≤ 9223372036854775807 then (if t479.size + ((⟨#[47]⟩ : ByteArray) ++ t481).size ≤ 9223372036854775807 then (some (t479 ++ ((⟨#[47]⟩ : ByteArray) ++ t481), 0)) else (none)) else (none))))))) = some (r1, r2) := by rw [if_pos rfl] at H; exact H
    clear H
    have H := H1
    clear H1
    replace H := Option.bind_eq_some_iff.mp H
    obtain ⟨t478, A40, H⟩ := H
    replace H : ((fleuronref01_digits.f t478).bind fun t479 => (if a0_0 < 0 then (if 1 + t479.size ≤ 9223372036854775807 then (if a0_1 = 1 then (some ((⟨#[45]⟩ : ByteArray) ++ t479, 0)) else ((fleuronref01_digits.f (IntKind.u64.wrap (a0_1))).bind fun t480 => (if 1 + t480.size ≤ 9223372036854775807 then (if ((⟨#[45]⟩ : ByteArray) ++ t479).size + ((⟨#[47]⟩ : ByteArray) ++ t480).size ≤ 9223372036854775807 then (some (((⟨#[45]⟩ : ByteArray) ++ t479) ++ ((⟨#[47]⟩ : ByteArray) ++ t480), 0)) else (none)) else (none)))) else (none)) else (if a0_1 = 1 then (some (t479, 0)) else ((fleuronref01_digits.f (IntKind.u64.wrap (a0_1))).bind fun t481 => (if 1 + t481.size ≤ 9223372036854775807 then (if t479.size + ((⟨#[47]⟩ : ByteArray) ++ t481).size ≤ 9223372036854775807 then (some (t479 ++ ((⟨#[47]⟩ : ByteArray) ++ t481), 0)) else (none)) else (none)))))) = some (r1, r2) := H
    have A4 := Fa.mk A40
    clear A40
    replace H := Option.bind_eq_some_iff.mp H
    obtain ⟨t479, A50, H⟩ := H
    replace H : (if a0_0 < 0 then (if 1 + t479.size ≤ 9223372036854775807 then (if a0_1 = 1 then (some ((⟨#[45]⟩ : ByteArray) ++ t479, 0)) else ((fleuronref01_digits.f (IntKind.u64.wrap (a0_1))).bind fun t480 => (if 1 + t480.size ≤ 9223372036854775807 then (if ((⟨#[45]⟩ : ByteArray) ++ t479).size + ((⟨#[47]⟩ : ByteArray) ++ t480).size ≤ 9223372036854775807 then (some (((⟨#[45]⟩ : ByteArray) ++ t479) ++ ((⟨#[47]⟩ : ByteArray) ++ t480), 0)) else (none)) else (none)))) else (none)) else (if a0_1 = 1 then (some (t479, 0)) else ((fleuronref01_digits.f (IntKind.u64.wrap (a0_1))).bind fun t481 => (if 1 + t481.size ≤ 9223372036854775807 then (if t479.size + ((⟨#[47]⟩ : ByteArray) ++ t481).size ≤ 9223372036854775807 then (some (t479 ++ ((⟨#[47]⟩ : ByteArray) ++ t481), 0)) else (none)) else (none))))) = some (r1, r2) := H
    have A5 := Fa.mk A50
    clear A50
    by_cases c6 : a0_0 < 0
    · rw [if_pos c6] at H
      have c6b0 : decide (a0_0 < 0) = true := decide_eq_true c6
      clear c6
      by_cases c7 : 1 + t479.size ≤ 9223372036854775807
      · rw [if_pos c7] at H
        have c7b0 := eq_true c7
        have c7b1 : decide (1 + t479.size ≤ 9223372036854775807) = true := decide_eq_true c7
        try have c7b2 : (9223372036854775807 < 1 + t479.size) = False := eq_false (Nat.not_lt.2 c7)
        by_cases c8 : a0_1 = 1
        · rw [if_pos c8] at H
          have c8b0 : (a0_1 == 1) = true := beq_iff_eq.mpr c8
          have c8b1 : (a0_1 != 1) = false := bne_eq_false_iff_eq.mpr c8
          clear c8
          simp only [Option.some.injEq, Prod.mk.injEq] at H
          obtain ⟨rfl, rfl⟩ := H
          go_enter Tryd.func33, Tryd.ntmps33
          go_wp2_with (first | ((with_reducible refine gate_dst (N := 1) rfl ?_); refine boxF (N := 1) (cs := #[.int .i64 a0_0, .int .i64 a0_1]) (t := 23) ?_; intro gb476 hg w9 hbox hb; have n0_ := Fa.mk (bst w hb); have n1_ := Fa.mk (hbox); have n2_ := Fa.mk (gle hg : w.heap.size ≤ gb476); have n3_ := n2_; clear HB; have HB := n0_; have BK476 := n1_; have GW476 := n2_; have GE476 := n3_; clear n0_ n1_ n2_ n3_; clear hb hbox hg; have hcz10_0 : w9.cell? ⟨gb476, 0, none⟩ = some (.int .i64 a0_0) := (blk_cell BK476.out 0).trans rfl; have hcz10_1 : w9.cell? ⟨gb476, 1, none⟩ = some (.int .i64 a0_1) := (blk_cell BK476.out 1).trans rfl; have hfz10_0 := blk_frozen BK476.out 0; have hfz10_1 := blk_frozen BK476.out 1) | ((with_reducible refine gate_callee (f := 16) rfl ?_); refine goesA (some 6) rfl rfl Tryd.func16 (by kernel_rfl) rfl #[.agg #[.int .i64 a0_0, .int .i64 a0_1]] rfl ?_; (with_reducible refine (fleuronref01_Valid.calls k a0_0 a0_1 true _ A2.out).mono ?_); rintro e w11 ⟨rfl, hb⟩; refine ⟨_, rfl, ?_⟩; have n0_ := Fa.mk (blk_below (g := gb476) (o := .cells #[.int .i64 a0_0, .int .i64 a0_1] 23 (0, 0)) fa hb); have n1_ := Fa.mk (bst w hb); clear BK476; clear HB; have BK476 := n0_; have HB := n1_; clear n0_ n1_; (try clear hb); (try clear hb2); (try clear hk); (try clear hi); have hcz12_0 : w11.cell? ⟨gb476, 0, none⟩ = some (.int .i64 a0_0) := (blk_cell BK476.out 0).trans rfl; have hcz12_1 : w11.cell? ⟨gb476, 1, none⟩ = some (.int .i64 a0_1) := (blk_cell BK476.out 1).trans rfl; have hfz12_0 := blk_frozen BK476.out 0; have hfz12_1 := blk_frozen BK476.out 1) | ((with_reducible refine gate_callee (f := 50) rfl ?_); refine goesA (some 10) rfl rfl Tryd.func50 (by kernel_rfl) rfl #[.int .i64 a0_0] rfl ?_; (with_reducible refine (fleuronref01_size.calls a0_0 t478 _ A4.out).mono ?_); rintro e w' ⟨rfl, ⟨nd, rfl⟩⟩; refine ⟨_, rfl, ?_⟩) | ((with_reducible refine gate_callee (f := 58) rfl ?_); refine goesA (some 11) rfl rfl Tryd.func58 (by kernel_rfl) rfl #[.int .u64 t478] rfl ?_; (with_reducible refine (fleuronref01_digits.calls t478 t479 _ A5.out).mono ?_); rintro e w13 ⟨rfl, hb⟩; refine ⟨_, rfl, ?_⟩; have n0_ := Fa.mk (blk_below (g := gb476) (o := .cells #[.int .i64 a0_0, .int .i64 a0_1] 23 (0, 0)) fa hb); have n1_ := Fa.mk (bst w hb); clear BK476; clear HB; have BK476 := n0_; have HB := n1_; clear n0_ n1_; (try clear hb); (try clear hb2); (try clear hk); (try clear hi); have hcz14_0 : w13.cell? ⟨gb476, 0, none⟩ = some (.int .i64 a0_0) := (blk_cell BK476.out 0).trans rfl; have hcz14_1 : w13.cell? ⟨gb476, 1, none⟩ = some (.int .i64 a0_1) := (blk_cell BK476.out 1).trans rfl; have hfz14_0 := blk_frozen BK476.out 0; have hfz14_1 := blk_frozen BK476.out 1))
          go_ret2
          exact ⟨by first | rfl | (simp [errW_none, errW_some] <;> rfl) | (simp [*, errW_none, errW_some] <;> rfl), fa⟩
        · rw [if_neg c8] at H
          have c8b0 : (a0_1 == 1) = false := beq_eq_false_iff_ne.mpr c8
          have c8b1 : (a0_1 != 1) = true := bne_iff_ne.mpr c8
          replace H := Option.bind_eq_some_iff.mp H
          obtain ⟨t480, A150, H⟩ := H
          replace H : (if 1 + t480.size ≤ 9223372036854775807 then (if ((⟨#[45]⟩ : ByteArray) ++ t479).size + ((⟨#[47]⟩ : ByteArray) ++ t480).size ≤ 9223372036854775807 then (some (((⟨#[45]⟩ : ByteArray) ++ t479) ++ ((⟨#[47]⟩ : ByteArray) ++ t480), 0)) else (none)) else (none)) = some (r1, r2) := H
          have A15 := Fa.mk A150
          clear A150
          by_cases c16 : 1 + t480.size ≤ 9223372036854775807
          · rw [if_pos c16] at H
            have c16b0 := eq_true c16
            have c16b1 : decide (1 + t480.size ≤ 9223372036854775807) = true := decide_eq_true c16
            try have c16b2 : (9223372036854775807 < 1 + t480.size) = False := eq_false (Nat.not_lt.2 c16)
            by_cases c17 : ((⟨#[45]⟩ : ByteArray) ++ t479).size + ((⟨#[47]⟩ : ByteArray) ++ t480).size ≤ 9223372036854775807
            · rw [if_pos c17] at H
              have c17b0 := eq_true c17
              have c17b1 : decide (((⟨#[45]⟩ : ByteArray) ++ t479).size + ((⟨#[47]⟩ : ByteArray) ++ t480).size ≤ 9223372036854775807) = true := decide_eq_true c17
              try have c17b2 : (9223372036854775807 < ((⟨#[45]⟩ : ByteArray) ++ t479).size + ((⟨#[47]⟩ : ByteArray) ++ t480).size) = False := eq_false (Nat.not_lt.2 c17)
              simp only [Option.some.injEq, Prod.mk.injEq] at H
              obtain ⟨rfl, rfl⟩ := H
              go_enter Tryd.func33, Tryd.ntmps33
              go_wp2_with (first | ((with_reducible refine gate_dst (N := 1) rfl ?_); refine boxF (N := 1) (cs := #[.int .i64 a0_0, .int .i64 a0_1]) (t := 23) ?_; intro gb476 hg w18 hbox hb; have n0_ := Fa.mk (bst w hb); have n1_ := Fa.mk (hbox); have n2_ := Fa.mk (gle hg : w.heap.size ≤ gb476); have n3_ := n2_; clear HB; have HB := n0_; have BK476 := n1_; have GW476 := n2_; have GE476 := n3_; clear n0_ n1_ n2_ n3_; clear hb hbox hg; have hcz19_0 : w18.cell? ⟨gb476, 0, none⟩ = some (.int .i64 a0_0) := (blk_cell BK476.out 0).trans rfl; have hcz19_1 : w18.cell? ⟨gb476, 1, none⟩ = some (.int .i64 a0_1) := (blk_cell BK476.out 1).trans rfl; have hfz19_0 := blk_frozen BK476.out 0; have hfz19_1 := blk_frozen BK476.out 1) | ((with_reducible refine gate_callee (f := 16) rfl ?_); refine goesA (some 6) rfl rfl Tryd.func16 (by kernel_rfl) rfl #[.agg #[.int .i64 a0_0, .int .i64 a0_1]] rfl ?_; (with_reducible refine (fleuronref01_Valid.calls k a0_0 a0_1 true _ A2.out).mono ?_); rintro e w20 ⟨rfl, hb⟩; refine ⟨_, rfl, ?_⟩; have n0_ := Fa.mk (blk_below (g := gb476) (o := .cells #[.int .i64 a0_0, .int .i64 a0_1] 23 (0, 0)) fa hb); have n1_ := Fa.mk (bst w hb); clear BK476; clear HB; have BK476 := n0_; have HB := n1_; clear n0_ n1_; (try clear hb); (try clear hb2); (try clear hk); (try clear hi); have hcz21_0 : w20.cell? ⟨gb476, 0, none⟩ = some (.int .i64 a0_0) := (blk_cell BK476.out 0).trans rfl; have hcz21_1 : w20.cell? ⟨gb476, 1, none⟩ = some (.int .i64 a0_1) := (blk_cell BK476.out 1).trans rfl; have hfz21_0 := blk_frozen BK476.out 0; have hfz21_1 := blk_frozen BK476.out 1) | ((with_reducible refine gate_callee (f := 50) rfl ?_); refine goesA (some 10) rfl rfl Tryd.func50 (by kernel_rfl) rfl #[.int .i64 a0_0] rfl ?_; (with_reducible refine (fleuronref01_size.calls a0_0 t478 _ A4.out).mono ?_); rintro e w' ⟨rfl, ⟨nd, rfl⟩⟩; refine ⟨_, rfl, ?_⟩) | ((with_reducible refine gate_callee (f := 58) rfl ?_); refine goesA (some 11) rfl rfl Tryd.func58 (by kernel_rfl) rfl #[.int .u64 t478] rfl ?_; (with_reducible refine (fleuronref01_digits.calls t478 t479 _ A5.out).mono ?_); rintro e w22 ⟨rfl, hb⟩; refine ⟨_, rfl, ?_⟩; have n0_ := Fa.mk (blk_below (g := gb476) (o := .cells #[.int .i64 a0_0, .int .i64 a0_1] 23 (0, 0)) fa hb); have n1_ := Fa.mk (bst w hb); clear BK476; clear HB; have BK476 := n0_; have HB := n1_; clear n0_ n1_; (try clear hb); (try clear hb2); (try clear hk); (try clear hi); have hcz23_0 : w22.cell? ⟨gb476, 0, none⟩ = some (.int .i64 a0_0) := (blk_cell BK476.out 0).trans rfl; have hcz23_1 : w22.cell? ⟨gb476, 1, none⟩ = some (.int .i64 a0_1) := (blk_cell BK476.out 1).trans rfl; have hfz23_0 := blk_frozen BK476.out 0; have hfz23_1 := blk_frozen BK476.out 1) | ((with_reducible refine gate_callee (f := 58) rfl ?_); refine goesA (some 24) rfl rfl Tryd.func58 (by kernel_rfl) rfl #[.int .u64 (IntKind.u64.wrap (a0_1))] rfl ?_; (with_reducible refine (fleuronref01_digits.calls (IntKind.u64.wrap (a0_1)) t480 _ A15.out).mono ?_); rintro e w24 ⟨rfl, hb⟩; refine ⟨_, rfl, ?_⟩; have n0_ := Fa.mk (blk_below (g := gb476) (o := .cells #[.int .i64 a0_0, .int .i64 a0_1] 23 (0, 0)) fa hb); have n1_ := Fa.mk (bst w hb); clear BK476; clear HB; have BK476 := n0_; have HB := n1_; clear n0_ n1_; (try clear hb); (try clear hb2); (try clear hk); (try clear hi)))
              go_ret2
              exact ⟨by first | rfl | (simp [errW_none, errW_some] <;> rfl) | (simp [*, errW_none, errW_some] <;> rfl), fa⟩
            · rw [if_neg c17] at H
              exact absurd H (by simp)
          · rw [if_neg c16] at H
            exact absurd H (by simp)
      · rw [if_neg c7] at H
        exact absurd H (by simp)
    · rw [if_neg c6] at H
      have c6b0 : decide (a0_0 < 0) = false := decide_eq_false c6
      clear c6
      by_cases c25 : a0_1 = 1
      · rw [if_pos c25] at H
        have c25b0 : (a0_1 == 1) = true := beq_iff_eq.mpr c25
        have c25b1 : (a0_1 != 1) = false := bne_eq_false_iff_eq.mpr c25
        clear c25
        simp only [Option.some.injEq, Prod.mk.injEq] at H
        obtain ⟨rfl, rfl⟩ := H
        go_enter Tryd.func33, Tryd.ntmps33
        go_wp2_with (first | ((with_reducible refine gate_dst (N := 1) rfl ?_); refine boxF (N := 1) (cs := #[.int .i64 a0_0, .int .i64 a0_1]) (t := 23) ?_; intro gb476 hg w26 hbox hb; have n0_ := Fa.mk (bst w hb); have n1_ := Fa.mk (hbox); have n2_ := Fa.mk (gle hg : w.heap.size ≤ gb476); have n3_ := n2_; clear HB; have HB := n0_; have BK476 := n1_; have GW476 := n2_; have GE476 := n3_; clear n0_ n1_ n2_ n3_; clear hb hbox hg; have hcz27_0 : w26.cell? ⟨gb476, 0, none⟩ = some (.int .i64 a0_0) := (blk_cell BK476.out 0).trans rfl; have hcz27_1 : w26.cell? ⟨gb476, 1, none⟩ = some (.int .i64 a0_1) := (blk_cell BK476.out 1).trans rfl; have hfz27_0 := blk_frozen BK476.out 0; have hfz27_1 := blk_frozen BK476.out 1) | ((with_reducible refine gate_callee (f := 16) rfl ?_); refine goesA (some 6) rfl rfl Tryd.func16 (by kernel_rfl) rfl #[.agg #[.int .i64 a0_0, .int .i64 a0_1]] rfl ?_; (with_reducible refine (fleuronref01_Valid.calls k a0_0 a0_1 true _ A2.out).mono ?_); rintro e w28 ⟨rfl, hb⟩; refine ⟨_, rfl, ?_⟩; have n0_ := Fa.mk (blk_below (g := gb476) (o := .cells #[.int .i64 a0_0, .int .i64 a0_1] 23 (0, 0)) fa hb); have n1_ := Fa.mk (bst w hb); clear BK476; clear HB; have BK476 := n0_; have HB := n1_; clear n0_ n1_; (try clear hb); (try clear hb2); (try clear hk); (try clear hi); have hcz29_0 : w28.cell? ⟨gb476, 0, none⟩ = some (.int .i64 a0_0) := (blk_cell BK476.out 0).trans rfl; have hcz29_1 : w28.cell? ⟨gb476, 1, none⟩ = some (.int .i64 a0_1) := (blk_cell BK476.out 1).trans rfl; have hfz29_0 := blk_frozen BK476.out 0; have hfz29_1 := blk_frozen BK476.out 1) | ((with_reducible refine gate_callee (f := 50) rfl ?_); refine goesA (some 10) rfl rfl Tryd.func50 (by kernel_rfl) rfl #[.int .i64 a0_0] rfl ?_; (with_reducible refine (fleuronref01_size.calls a0_0 t478 _ A4.out).mono ?_); rintro e w' ⟨rfl, ⟨nd, rfl⟩⟩; refine ⟨_, rfl, ?_⟩) | ((with_reducible refine gate_callee (f := 58) rfl ?_); refine goesA (some 11) rfl rfl Tryd.func58 (by kernel_rfl) rfl #[.int .u64 t478] rfl ?_; (with_reducible refine (fleuronref01_digits.calls t478 t479 _ A5.out).mono ?_); rintro e w30 ⟨rfl, hb⟩; refine ⟨_, rfl, ?_⟩; have n0_ := Fa.mk (blk_below (g := gb476) (o := .cells #[.int .i64 a0_0, .int .i64 a0_1] 23 (0, 0)) fa hb); have n1_ := Fa.mk (bst w hb); clear BK476; clear HB; have BK476 := n0_; have HB := n1_; clear n0_ n1_; (try clear hb); (try clear hb2); (try clear hk); (try clear hi); have hcz31_0 : w30.cell? ⟨gb476, 0, none⟩ = some (.int .i64 a0_0) := (blk_cell BK476.out 0).trans rfl; have hcz31_1 : w30.cell? ⟨gb476, 1, none⟩ = some (.int .i64 a0_1) := (blk_cell BK476.out 1).trans rfl; have hfz31_0 := blk_frozen BK476.out 0; have hfz31_1 := blk_frozen BK476.out 1))
        go_ret2
        exact ⟨by first | rfl | (simp [errW_none, errW_some] <;> rfl) | (simp [*, errW_none, errW_some] <;> rfl), fa⟩
      · rw [if_neg c25] at H
        have c25b0 : (a0_1 == 1) = false := beq_eq_false_iff_ne.mpr c25
        have c25b1 : (a0_1 != 1) = true := bne_iff_ne.mpr c25
        replace H := Option.bind_eq_some_iff.mp H
        obtain ⟨t481, A320, H⟩ := H
        replace H : (if 1 + t481.size ≤ 9223372036854775807 then (if t479.size + ((⟨#[47]⟩ : ByteArray) ++ t481).size ≤ 9223372036854775807 then (some (t479 ++ ((⟨#[47]⟩ : ByteArray) ++ t481), 0)) else (none)) else (none)) = some (r1, r2) := H
        have A32 := Fa.mk A320
        clear A320
        by_cases c33 : 1 + t481.size ≤ 9223372036854775807
        · rw [if_pos c33] at H
          have c33b0 := eq_true c33
          have c33b1 : decide (1 + t481.size ≤ 9223372036854775807) = true := decide_eq_true c33
          try have c33b2 : (9223372036854775807 < 1 + t481.size) = False := eq_false (Nat.not_lt.2 c33)
          by_cases c34 : t479.size + ((⟨#[47]⟩ : ByteArray) ++ t481).size ≤ 9223372036854775807
          · rw [if_pos c34] at H
            have c34b0 := eq_true c34
            have c34b1 : decide (t479.size + ((⟨#[47]⟩ : ByteArray) ++ t481).size ≤ 9223372036854775807) = true := decide_eq_true c34
            try have c34b2 : (9223372036854775807 < t479.size + ((⟨#[47]⟩ : ByteArray) ++ t481).size) = False := eq_false (Nat.not_lt.2 c34)
            simp only [Option.some.injEq, Prod.mk.injEq] at H
            obtain ⟨rfl, rfl⟩ := H
            go_enter Tryd.func33, Tryd.ntmps33
            go_wp2_with (first | ((with_reducible refine gate_dst (N := 1) rfl ?_); refine boxF (N := 1) (cs := #[.int .i64 a0_0, .int .i64 a0_1]) (t := 23) ?_; intro gb476 hg w35 hbox hb; have n0_ := Fa.mk (bst w hb); have n1_ := Fa.mk (hbox); have n2_ := Fa.mk (gle hg : w.heap.size ≤ gb476); have n3_ := n2_; clear HB; have HB := n0_; have BK476 := n1_; have GW476 := n2_; have GE476 := n3_; clear n0_ n1_ n2_ n3_; clear hb hbox hg; have hcz36_0 : w35.cell? ⟨gb476, 0, none⟩ = some (.int .i64 a0_0) := (blk_cell BK476.out 0).trans rfl; have hcz36_1 : w35.cell? ⟨gb476, 1, none⟩ = some (.int .i64 a0_1) := (blk_cell BK476.out 1).trans rfl; have hfz36_0 := blk_frozen BK476.out 0; have hfz36_1 := blk_frozen BK476.out 1) | ((with_reducible refine gate_callee (f := 16) rfl ?_); refine goesA (some 6) rfl rfl Tryd.func16 (by kernel_rfl) rfl #[.agg #[.int .i64 a0_0, .int .i64 a0_1]] rfl ?_; (with_reducible refine (fleuronref01_Valid.calls k a0_0 a0_1 true _ A2.out).mono ?_); rintro e w37 ⟨rfl, hb⟩; refine ⟨_, rfl, ?_⟩; have n0_ := Fa.mk (blk_below (g := gb476) (o := .cells #[.int .i64 a0_0, .int .i64 a0_1] 23 (0, 0)) fa hb); have n1_ := Fa.mk (bst w hb); clear BK476; clear HB; have BK476 := n0_; have HB := n1_; clear n0_ n1_; (try clear hb); (try clear hb2); (try clear hk); (try clear hi); have hcz38_0 : w37.cell? ⟨gb476, 0, none⟩ = some (.int .i64 a0_0) := (blk_cell BK476.out 0).trans rfl; have hcz38_1 : w37.cell? ⟨gb476, 1, none⟩ = some (.int .i64 a0_1) := (blk_cell BK476.out 1).trans rfl; have hfz38_0 := blk_frozen BK476.out 0; have hfz38_1 := blk_frozen BK476.out 1) | ((with_reducible refine gate_callee (f := 50) rfl ?_); refine goesA (some 10) rfl rfl Tryd.func50 (by kernel_rfl) rfl #[.int .i64 a0_0] rfl ?_; (with_reducible refine (fleuronref01_size.calls a0_0 t478 _ A4.out).mono ?_); rintro e w' ⟨rfl, ⟨nd, rfl⟩⟩; refine ⟨_, rfl, ?_⟩) | ((with_reducible refine gate_callee (f := 58) rfl ?_); refine goesA (some 11) rfl rfl Tryd.func58 (by kernel_rfl) rfl #[.int .u64 t478] rfl ?_; (with_reducible refine (fleuronref01_digits.calls t478 t479 _ A5.out).mono ?_); rintro e w39 ⟨rfl, hb⟩; refine ⟨_, rfl, ?_⟩; have n0_ := Fa.mk (blk_below (g := gb476) (o := .cells #[.int .i64 a0_0, .int .i64 a0_1] 23 (0, 0)) fa hb); have n1_ := Fa.mk (bst w hb); clear BK476; clear HB; have BK476 := n0_; have HB := n1_; clear n0_ n1_; (try clear hb); (try clear hb2); (try clear hk); (try clear hi); have hcz40_0 : w39.cell? ⟨gb476, 0, none⟩ = some (.int .i64 a0_0) := (blk_cell BK476.out 0).trans rfl; have hcz40_1 : w39.cell? ⟨gb476, 1, none⟩ = some (.int .i64 a0_1) := (blk_cell BK476.out 1).trans rfl; have hfz40_0 := blk_frozen BK476.out 0; have hfz40_1 := blk_frozen BK476.out 1) | ((with_reducible refine gate_callee (f := 58) rfl ?_); refine goesA (some 24) rfl rfl Tryd.func58 (by kernel_rfl) rfl #[.int .u64 (IntKind.u64.wrap (a0_1))] rfl ?_; (with_reducible refine (fleuronref01_digits.calls (IntKind.u64.wrap (a0_1)) t481 _ A32.out).mono ?_); rintro e w41 ⟨rfl, hb⟩; refine ⟨_, rfl, ?_⟩; have n0_ := Fa.mk (blk_below (g := gb476) (o := .cells #[.int .i64 a0_0, .int .i64 a0_1] 23 (0, 0)) fa hb); have n1_ := Fa.mk (bst w hb); clear BK476; clear HB; have BK476 := n0_; have HB := n1_; clear n0_ n1_; (try clear hb); (try clear hb2); (try clear hk); (try clear hi)))
            go_ret2
            exact ⟨by first | rfl | (simp [errW_none, errW_some] <;> rfl) | (simp [*, errW_none, errW_some] <;> rfl), fa⟩
          · rw [if_neg c34] at H
            exact absurd H (by simp)
        · rw [if_neg c33] at H
          exact absurd H (by simp)
  · replace c3 := Bool.eq_false_iff.mpr c3
    subst c3
    have H1 : (some ((⟨#[]⟩ : ByteArray), 2)) = some (r1, r2) := by rw [if_neg (show ¬ (false = true) by decide)] at H; exact H
    clear H
    have H := H1
    clear H1
    simp only [Option.some.injEq, Prod.mk.injEq] at H
    obtain ⟨rfl, rfl⟩ := H
    go_enter Tryd.func33, Tryd.ntmps33
    go_wp2_with (first | ((with_reducible refine gate_dst (N := 1) rfl ?_); refine boxF (N := 1) (cs := #[.int .i64 a0_0, .int .i64 a0_1]) (t := 23) ?_; intro gb476 hg w42 hbox hb; have n0_ := Fa.mk (bst w hb); have n1_ := Fa.mk (hbox); have n2_ := Fa.mk (gle hg : w.heap.size ≤ gb476); have n3_ := n2_; clear HB; have HB := n0_; have BK476 := n1_; have GW476 := n2_; have GE476 := n3_; clear n0_ n1_ n2_ n3_; clear hb hbox hg; have hcz43_0 : w42.cell? ⟨gb476, 0, none⟩ = some (.int .i64 a0_0) := (blk_cell BK476.out 0).trans rfl; have hcz43_1 : w42.cell? ⟨gb476, 1, none⟩ = some (.int .i64 a0_1) := (blk_cell BK476.out 1).trans rfl; have hfz43_0 := blk_frozen BK476.out 0; have hfz43_1 := blk_frozen BK476.out 1) | ((with_reducible refine gate_callee (f := 16) rfl ?_); refine goesA (some 6) rfl rfl Tryd.func16 (by kernel_rfl) rfl #[.agg #[.int .i64 a0_0, .int .i64 a0_1]] rfl ?_; (with_reducible refine (fleuronref01_Valid.calls k a0_0 a0_1 false _ A2.out).mono ?_); rintro e w44 ⟨rfl, hb⟩; refine ⟨_, rfl, ?_⟩; have n0_ := Fa.mk (blk_below (g := gb476) (o := .cells #[.int .i64 a0_0, .int .i64 a0_1] 23 (0, 0)) fa hb); have n1_ := Fa.mk (bst w hb); clear BK476; clear HB; have BK476 := n0_; have HB := n1_; clear n0_ n1_; (try clear hb); (try clear hb2); (try clear hk); (try clear hi)))
    go_ret2
    exact ⟨by first | rfl | (simp [errW_none, errW_some] <;> rfl) | (simp [*, errW_none, errW_some] <;> rfl), fa⟩

/-! ### fleuronref01_cut: function 61 -/
def fleuronref01_cut.l0 : Nat → ByteArray → Int → Int → Option (ByteArray × ByteArray × Bool)
  | 0, _, _, _ => none
  | k + 1, x0, x1, x7 => if x7 < (x0.size : Int) then (if 0 ≤ x7 then (if (bt x0 x7) = x1 then (if x7 ≤ (x0.size : Int) then (if 0 ≤ (wrap64 (x7 + 1)) then (if (wrap64 (x7 + 1)) ≤ (x0.size : Int) then (some (x0.extract 0 (x7 : Int).toNat, x0.extract ((wrap64 (x7 + 1)) : Int).toNat x0.size, true)) else (none)) else (none)) else (none)) else (fleuronref01_cut.l0 k x0 x1 (wrap64 (x7 + 1)))) else (none)) else (some (x0, (⟨#[]⟩ : ByteArray), false))
def fleuronref01_cut.f (k : Nat) (a0 : ByteArray) (a1 : Int) : Option (ByteArray × ByteArray × Bool) := fleuronref01_cut.l0 k a0 a1 0
theorem fleuronref01_cut.mono_l : ∀ k, (∀ y0 y1 y2, LeO (fleuronref01_cut.l0 k y0 y1 y2) (fleuronref01_cut.l0 (k + 1) y0 y1 y2))
  | 0 => fun _ _ _ r h => by simp [fleuronref01_cut.l0] at h
  | k + 1 => by
    have ih0 := fleuronref01_cut.mono_l k
    · intro y0 y1 y2
      unfold fleuronref01_cut.l0
      repeat' first
      | (with_reducible exact ih0 _ _ _)
      | (with_reducible exact LeO.refl _)
      | (with_reducible exact LeO.none _)
      | (with_reducible refine LeO.ite ?_ ?_)
      | (with_reducible refine LeO.bind ?_ (fun _ => ?_))
      | exact ih0 _ _ _
      | exact LeO.none _
      | refine LeO.ite ?_ ?_
      | refine LeO.bind ?_ (fun _ => ?_)
theorem fleuronref01_cut.mono : ∀ a0 a1 k, LeO (fleuronref01_cut.f k a0 a1) (fleuronref01_cut.f (k + 1) a0 a1) := by
  intro a0 a1 k
  have ih0 := fleuronref01_cut.mono_l k
  unfold fleuronref01_cut.f
  repeat' first
      | (with_reducible exact ih0 _ _ _)
      | (with_reducible exact LeO.refl _)
      | (with_reducible exact LeO.none _)
      | (with_reducible refine LeO.ite ?_ ?_)
      | (with_reducible refine LeO.bind ?_ (fun _ => ?_))
      | exact ih0 _ _ _
      | exact LeO.none _
      | refine LeO.ite ?_ ?_
      | refine LeO.bind ?_ (fun _ => ?_)
set_option maxHeartbeats 8000000 in
set_option maxRecDepth 100000 in
theorem fleuronref01_cut.calls (k : Nat) (a0 : ByteArray) (a1 : Int) (r1 : ByteArray) (r2 : ByteArray) (r3 : Bool) (w : World) (h : fleuronref01_cut.f k a0 a1 = some (r1, r2, r3)) :
    Calls Tryd.prog 61 #[.string a0, .int .u8 a1] w fun e w' => e = .returned (.tuple #[.string r1, .string r2, .bool r3]) ∧ Drawn0 w w' := by
  have H : (fleuronref01_cut.l0 k a0 a1 0) = some (r1, r2, r3) := h
  clear h
  have H' := Fa.mk H
  clear H
  go_enter Tryd.func61, Tryd.ntmps61
  go_wp2
  repeat (go_quiet (fail); try go_wp2)
  go_loopg [7] k (fun kq v7 w' => ∃ (x7_1 : Int), v7 = .int .i64 x7_1 ∧ Fa (fleuronref01_cut.l0 kq a0 a1 x7_1 = some (r1, r2, r3)) ∧ Fa (kq ≤ k) ∧ Drawn0 w w')
  case atStart => exact ⟨(0), (by first | rfl | (simp; done) | (simp [*]; done)), H', ⟨Nat.le_refl _⟩, by repeat (first | exact Drawn0.refl _ | apply Drawn0.step)⟩
  case round =>
    clear H'
    try clear p2
    obtain ⟨x7_1, rfl, HA, HK1, ⟨m1, rfl⟩⟩ := hrel
    cases gk with
    | zero => exact absurd HA.out (by simp [fleuronref01_cut.l0])
    | succ k1 =>
      have H := HA.out
      clear HA
      simp only [fleuronref01_cut.l0] at H
      by_cases c3 : x7_1 < (a0.size : Int)
      · rw [if_pos c3] at H
        have c3b0 : decide (x7_1 < (a0.size : Int)) = true := decide_eq_true c3
        clear c3
        by_cases c4 : 0 ≤ x7_1
        · rw [if_pos c4] at H
          have c4b0 : decide (0 ≤ x7_1) = true := decide_eq_true c4
          clear c4
          by_cases c6 : (bt a0 x7_1) = a1
          · rw [if_pos c6] at H
            have c6b0 : ((bt a0 x7_1) == a1) = true := beq_iff_eq.mpr c6
            have c6b1 : ((bt a0 x7_1) != a1) = false := bne_eq_false_iff_eq.mpr c6
            clear c6
            have c7b0 := eq_true (of_decide_eq_true (by first | (with_reducible assumption) | assumption) : 0 ≤ x7_1)
            by_cases c8 : x7_1 ≤ (a0.size : Int)
            · rw [if_pos c8] at H
              have c8b0 := eq_true c8
              have c8b1 : decide (x7_1 ≤ (a0.size : Int)) = true := decide_eq_true c8
              clear c8
              obtain ⟨ji9, hji9⟩ : ∃ j_ : Int, (wrap64 (x7_1 + 1)) = j_ := ⟨_, rfl⟩
              replace H : (if 0 ≤ (ji9) then (if (ji9) ≤ (a0.size : Int) then (some (a0.extract 0 (x7_1 : Int).toNat, a0.extract ((ji9) : Int).toNat a0.size, true)) else (none)) else (none)) = some (r1, r2, r3) := by first | (rw [hji9] at H; exact H) | (simp only [hji9] at H ⊢; exact H)
              have hji9w : (IntKind.i64.wrap (x7_1 + 1)) = ji9 := (i64_w _).trans hji9
              by_cases c10 : 0 ≤ (ji9)
              · rw [if_pos c10] at H
                have c10b0 := eq_true c10
                have c10b1 : decide (0 ≤ (ji9)) = true := decide_eq_true c10
                clear c10
                by_cases c11 : (ji9) ≤ (a0.size : Int)
                · rw [if_pos c11] at H
                  have c11b0 := eq_true c11
                  have c11b1 : decide ((ji9) ≤ (a0.size : Int)) = true := decide_eq_true c11
                  clear c11
                  simp only [Option.some.injEq, Prod.mk.injEq] at H
                  obtain ⟨rfl, rfl, rfl⟩ := H
                  have p5 : 0 ≤ (x7_1 : Int) := of_decide_eq_true (by first | (with_reducible assumption) | assumption)
                  have q5 : x7_1 < (a0.size : Int) := of_decide_eq_true (by first | (with_reducible assumption) | assumption)
                  have hx5 := bt_at a0 x7_1
                  replace p5 := eq_true p5
                  replace q5 := eq_true q5
                  go_wp2
                  repeat (go_quiet (fail); try go_wp2)
                  go_ret3
                  exact ⟨by first | rfl | (simp; done) | (simp only [← hji9] <;> (first | rfl | simp)) | (simp [*]; done), by repeat (first | exact Drawn0.refl _ | apply Drawn0.step)⟩
                · rw [if_neg c11] at H
                  exact absurd H (by simp)
              · rw [if_neg c10] at H
                exact absurd H (by simp)
            · rw [if_neg c8] at H
              exact absurd H (by simp)
          · rw [if_neg c6] at H
            have c6b0 : ((bt a0 x7_1) == a1) = false := beq_eq_false_iff_ne.mpr c6
            have c6b1 : ((bt a0 x7_1) != a1) = true := bne_iff_ne.mpr c6
            have H' := Fa.mk H
            clear H
            have p5 : 0 ≤ (x7_1 : Int) := of_decide_eq_true (by first | (with_reducible assumption) | assumption)
            have q5 : x7_1 < (a0.size : Int) := of_decide_eq_true (by first | (with_reducible assumption) | assumption)
            have hx5 := bt_at a0 x7_1
            replace p5 := eq_true p5
            replace q5 := eq_true q5
            go_wp2
            repeat (go_quiet (fail); try go_wp2)
            go_roundg k1
            case measure => have := HK1.out; omega
            case rel => exact ⟨(wrap64 (x7_1 + 1)), (by first | rfl | (simp; done) | (simp [*]; done)), H', ⟨by have := HK1.out; omega⟩, by repeat (first | exact Drawn0.refl _ | apply Drawn0.step)⟩
        · rw [if_neg c4] at H
          exact absurd H (by simp)
      · rw [if_neg c3] at H
        have c3b0 : decide (x7_1 < (a0.size : Int)) = false := decide_eq_false c3
        clear c3
        simp only [Option.some.injEq, Prod.mk.injEq] at H
        obtain ⟨rfl, rfl, rfl⟩ := H
        go_wp2
        repeat (go_quiet (fail); try go_wp2)
        go_ret3
        exact ⟨by first | rfl | (simp; done) | (simp [*]; done), by repeat (first | exact Drawn0.refl _ | apply Drawn0.step)⟩

/-! ### fleuronref01_whole: function 62 -/
mutual
def fleuronref01_whole.j0 : Nat → ByteArray → Bool → Option (Int)
  | 0, _, _ => none
  | k + 1, x0, x15 => if x15 = true then (some (-1)) else (fleuronref01_whole.l0 k x0 0 0)
def fleuronref01_whole.l0 : Nat → ByteArray → Int → Int → Option (Int)
  | 0, _, _, _ => none
  | k + 1, x0, x5, x6 => if x6 < (x0.size : Int) then (if 0 ≤ x6 then (if (bt x0 x6) < 48 then (some (-1)) else (if (bt x0 x6) > 57 then (some (-1)) else (fleuronref01_whole.l0 k x0 (wrap64 ((wrap64 (10 * x5)) + (((bt x0 x6) - 48) % 256))) (wrap64 (x6 + 1))))) else (none)) else (some x5)
end
def fleuronref01_whole.f (k : Nat) (a0 : ByteArray) (a1 : Int) : Option (Int) := if (a0.size : Int) < 1 then (fleuronref01_whole.j0 k a0 true) else (fleuronref01_whole.j0 k a0 (decide ((a0.size : Int) > a1)))
theorem fleuronref01_whole.mono_l : ∀ k, (∀ y0 y1, LeO (fleuronref01_whole.j0 k y0 y1) (fleuronref01_whole.j0 (k + 1) y0 y1)) ∧ (∀ y0 y1 y2, LeO (fleuronref01_whole.l0 k y0 y1 y2) (fleuronref01_whole.l0 (k + 1) y0 y1 y2))
  | 0 => ⟨fun _ _ r h => by simp [fleuronref01_whole.j0] at h, fun _ _ _ r h => by simp [fleuronref01_whole.l0] at h⟩
  | k + 1 => by
    obtain ⟨ih0, ih1⟩ := fleuronref01_whole.mono_l k
    refine ⟨?_, ?_⟩
    · intro y0 y1
      unfold fleuronref01_whole.j0
      repeat' first
      | (with_reducible exact ih0 _ _)
      | (with_reducible exact ih1 _ _ _)
      | (with_reducible exact LeO.refl _)
      | (with_reducible exact LeO.none _)
      | (with_reducible refine LeO.ite ?_ ?_)
      | (with_reducible refine LeO.bind ?_ (fun _ => ?_))
      | exact ih0 _ _
      | exact ih1 _ _ _
      | exact LeO.none _
      | refine LeO.ite ?_ ?_
      | refine LeO.bind ?_ (fun _ => ?_)
    · intro y0 y1 y2
      unfold fleuronref01_whole.l0
      repeat' first
      | (with_reducible exact ih0 _ _)
      | (with_reducible exact ih1 _ _ _)
      | (with_reducible exact LeO.refl _)
      | (with_reducible exact LeO.none _)
      | (with_reducible refine LeO.ite ?_ ?_)
      | (with_reducible refine LeO.bind ?_ (fun _ => ?_))
      | exact ih0 _ _
      | exact ih1 _ _ _
      | exact LeO.none _
      | refine LeO.ite ?_ ?_
      | refine LeO.bind ?_ (fun _ => ?_)
theorem fleuronref01_whole.mono : ∀ a0 a1 k, LeO (fleuronref01_whole.f k a0 a1) (fleuronref01_whole.f (k + 1) a0 a1) := by
  intro a0 a1 k
  obtain ⟨ih0, ih1⟩ := fleuronref01_whole.mono_l k
  unfold fleuronref01_whole.f
  repeat' first
      | (with_reducible exact ih0 _ _)
      | (with_reducible exact ih1 _ _ _)
      | (with_reducible exact LeO.refl _)
      | (with_reducible exact LeO.none _)
      | (with_reducible refine LeO.ite ?_ ?_)
      | (with_reducible refine LeO.bind ?_ (fun _ => ?_))
      | exact ih0 _ _
      | exact ih1 _ _ _
      | exact LeO.none _
      | refine LeO.ite ?_ ?_
      | refine LeO.bind ?_ (fun _ => ?_)
set_option maxHeartbeats 8000000 in
set_option maxRecDepth 100000 in
theorem fleuronref01_whole.calls (k : Nat) (a0 : ByteArray) (a1 : Int) (r : Int) (w : World) (h : fleuronref01_whole.f k a0 a1 = some r) :
    Calls Tryd.prog 62 #[.string a0, .int .i64 a1] w fun e w' => e = .returned (.int .i64 r) ∧ Drawn0 w w' := by
  have H : (if (a0.size : Int) < 1 then (fleuronref01_whole.j0 k a0 true) else (fleuronref01_whole.j0 k a0 (decide ((a0.size : Int) > a1)))) = some r := h
  clear h
  have HC3 := Fa.mk H
  clear H
  go_enter Tryd.func62, Tryd.ntmps62
  go_upto_region 1 with (fail)
  go_cut [15] (fun v15 wc => ∃ (kq : Nat) (x15_2 : Bool), v15 = .bool x15_2 ∧ Fa (fleuronref01_whole.j0 kq a0 x15_2 = some r) ∧ Fa (kq ≤ k) ∧ Drawn0 w wc)
  case first =>
    have H := HC3.out
    clear HC3
    by_cases c4 : (a0.size : Int) < 1
    · rw [if_pos c4] at H
      have c4b0 : decide ((a0.size : Int) < 1) = true := decide_eq_true c4
      have c4b1 : decide (a0.size < 1) = true := decide_eq_true (by omega)
      clear c4
      (first | rw [c4b0] | (simp only [i64_w, i32_w]; rw [c4b0]) | skip)
      have H' := Fa.mk H
      clear H
      go_wp2
      go_meet
      case rel => exact ⟨_, (true), (by first | rfl | (simp; done) | (simp [*]; done)), H', ⟨by first | omega | exact Nat.le_refl _⟩, by repeat (first | exact Drawn0.refl _ | apply Drawn0.step)⟩
    · rw [if_neg c4] at H
      have c4b0 : decide ((a0.size : Int) < 1) = false := decide_eq_false c4
      have c4b1 : decide (a0.size < 1) = false := decide_eq_false (by omega)
      clear c4
      (first | rw [c4b0] | (simp only [i64_w, i32_w]; rw [c4b0]) | skip)
      have H' := Fa.mk H
      clear H
      go_wp2
      go_meet
      case rel => exact ⟨_, (decide ((a0.size : Int) > a1)), (by first | rfl | (simp; done) | (simp [*]; done)), H', ⟨by first | omega | exact Nat.le_refl _⟩, by repeat (first | exact Drawn0.refl _ | apply Drawn0.step)⟩
  case rest =>
    clear HC3
    try clear p2
    try clear c4
    try clear c4b0
    try clear c4b1
    obtain ⟨kq, x15_2, rfl, HA, HJ2, ⟨mc2, rfl⟩⟩ := hcut
    cases kq with
    | zero => exact absurd HA.out (by simp [fleuronref01_whole.j0])
    | succ kj2 =>
      have H := HA.out
      clear HA
      simp only [fleuronref01_whole.j0] at H
      by_cases c5 : x15_2 = true
      · subst c5
        have H1 : (some (-1)) = some r := by rw [if_pos rfl] at H; exact H
        clear H
        have H := H1
        clear H1
        obtain rfl := Option.some.inj H
        go_wp2
        go_ret
        exact ⟨by first | rfl | (simp; done) | (simp [*]; done), by repeat (first | exact Drawn0.refl _ | apply Drawn0.step)⟩
      · replace c5 := Bool.eq_false_iff.mpr c5
        subst c5
        have H1 : (fleuronref01_whole.l0 kj2 a0 0 0) = some r := by rw [if_neg (show ¬ (false = true) by decide)] at H; exact H
        clear H
        have H := H1
        clear H1
        have H' := Fa.mk H
        clear H
        go_wp2
        go_loopg [5, 6] kj2 (fun kq v5 v6 w' => ∃ (x5_2 : Int) (x6_2 : Int), v5 = .int .i64 x5_2 ∧ v6 = .int .i64 x6_2 ∧ Fa (fleuronref01_whole.l0 kq a0 x5_2 x6_2 = some r) ∧ Fa (kq ≤ kj2) ∧ Drawn0 w w')
        case atStart => exact ⟨(0), (0), (by first | rfl | (simp; done) | (simp [*]; done)), (by first | rfl | (simp; done) | (simp [*]; done)), H', ⟨Nat.le_refl _⟩, by repeat (first | exact Drawn0.refl _ | apply Drawn0.step)⟩
        case round =>
          clear H'
          try clear c2
          try clear p2
          try clear c4
          try clear c4b0
          try clear c4b1
          try clear c5
          try clear p2
          obtain ⟨x5_2, x6_2, rfl, rfl, HA, HK2, ⟨m2, rfl⟩⟩ := hrel
          cases gk with
          | zero => exact absurd HA.out (by simp [fleuronref01_whole.l0])
          | succ k2 =>
            have H := HA.out
            clear HA
            simp only [fleuronref01_whole.l0] at H
            by_cases c6 : x6_2 < (a0.size : Int)
            · rw [if_pos c6] at H
              have c6b0 : decide (x6_2 < (a0.size : Int)) = true := decide_eq_true c6
              clear c6
              by_cases c7 : 0 ≤ x6_2
              · rw [if_pos c7] at H
                have c7b0 : decide (0 ≤ x6_2) = true := decide_eq_true c7
                clear c7
                by_cases c9 : (bt a0 x6_2) < 48
                · rw [if_pos c9] at H
                  have c9b0 : decide ((bt a0 x6_2) < 48) = true := decide_eq_true c9
                  clear c9
                  obtain rfl := Option.some.inj H
                  have p8 : 0 ≤ (x6_2 : Int) := of_decide_eq_true (by first | (with_reducible assumption) | assumption)
                  have q8 : x6_2 < (a0.size : Int) := of_decide_eq_true (by first | (with_reducible assumption) | assumption)
                  have hx8 := bt_at a0 x6_2
                  replace p8 := eq_true p8
                  replace q8 := eq_true q8
                  go_wp2
                  go_ret
                  exact ⟨by first | rfl | (simp; done) | (simp [*]; done), by repeat (first | exact Drawn0.refl _ | apply Drawn0.step)⟩
                · rw [if_neg c9] at H
                  have c9b0 : decide ((bt a0 x6_2) < 48) = false := decide_eq_false c9
                  clear c9
                  by_cases c11 : (bt a0 x6_2) > 57
                  · rw [if_pos c11] at H
                    have c11b0 : decide (57 < (bt a0 x6_2)) = true := decide_eq_true c11
                    clear c11
                    obtain rfl := Option.some.inj H
                    have p8 : 0 ≤ (x6_2 : Int) := of_decide_eq_true (by first | (with_reducible assumption) | assumption)
                    have q8 : x6_2 < (a0.size : Int) := of_decide_eq_true (by first | (with_reducible assumption) | assumption)
                    have hx8 := bt_at a0 x6_2
                    replace p8 := eq_true p8
                    replace q8 := eq_true q8
                    have p10 : 0 ≤ (x6_2 : Int) := of_decide_eq_true (by first | (with_reducible assumption) | assumption)
                    have q10 : x6_2 < (a0.size : Int) := of_decide_eq_true (by first | (with_reducible assumption) | assumption)
                    have hx10 := bt_at a0 x6_2
                    replace p10 := eq_true p10
                    replace q10 := eq_true q10
                    go_wp2
                    go_ret
                    exact ⟨by first | rfl | (simp; done) | (simp [*]; done), by repeat (first | exact Drawn0.refl _ | apply Drawn0.step)⟩
                  · rw [if_neg c11] at H
                    have c11b0 : decide (57 < (bt a0 x6_2)) = false := decide_eq_false c11
                    clear c11
                    have H' := Fa.mk H
                    clear H
                    have p8 : 0 ≤ (x6_2 : Int) := of_decide_eq_true (by first | (with_reducible assumption) | assumption)
                    have q8 : x6_2 < (a0.size : Int) := of_decide_eq_true (by first | (with_reducible assumption) | assumption)
                    have hx8 := bt_at a0 x6_2
                    replace p8 := eq_true p8
                    replace q8 := eq_true q8
                    have p10 : 0 ≤ (x6_2 : Int) := of_decide_eq_true (by first | (with_reducible assumption) | assumption)
                    have q10 : x6_2 < (a0.size : Int) := of_decide_eq_true (by first | (with_reducible assumption) | assumption)
                    have hx10 := bt_at a0 x6_2
                    replace p10 := eq_true p10
                    replace q10 := eq_true q10
                    have p12 : 0 ≤ (x6_2 : Int) := of_decide_eq_true (by first | (with_reducible assumption) | assumption)
                    have q12 : x6_2 < (a0.size : Int) := of_decide_eq_true (by first | (with_reducible assumption) | assumption)
                    have hx12 := bt_at a0 x6_2
                    replace p12 := eq_true p12
                    replace q12 := eq_true q12
                    go_wp2
                    go_roundg k2
                    case measure => have := HJ2.out; have := HK2.out; omega
                    case rel => exact ⟨(wrap64 ((wrap64 (10 * x5_2)) + (((bt a0 x6_2) - 48) % 256))), (wrap64 (x6_2 + 1)), (by first | rfl | (simp; done) | (simp [*]; done)), (by first | rfl | (simp; done) | (simp [*]; done)), H', ⟨by have := HJ2.out; have := HK2.out; omega⟩, by repeat (first | exact Drawn0.refl _ | apply Drawn0.step)⟩
              · rw [if_neg c7] at H
                exact absurd H (by simp)
            · rw [if_neg c6] at H
              have c6b0 : decide (x6_2 < (a0.size : Int)) = false := decide_eq_false c6
              clear c6
              obtain rfl := Option.some.inj H
              go_wp2
              go_ret
              exact ⟨by first | rfl | (simp; done) | (simp [*]; done), by repeat (first | exact Drawn0.refl _ | apply Drawn0.step)⟩

/-! ### fleuronref01_Parse: function 35 -/
mutual
def fleuronref01_Parse.j0 : Nat → ByteArray → ByteArray → ByteArray → Bool → Bool → Int → Int → Option (Int × Int × Int)
  | 0, _, _, _, _, _, _, _ => none
  | k + 1, x0, x4, x5, x6, x8, x487000, x487001 => if x8 = true then (if 1 ≤ (x4.size : Int) then (fleuronref01_Parse.j1 k x0 (x4.extract 1 x4.size) x5 x6 x8 x487000 x487001) else (none)) else (fleuronref01_Parse.j1 k x0 x4 x5 x6 x8 x487000 x487001)
def fleuronref01_Parse.j1 : Nat → ByteArray → ByteArray → ByteArray → Bool → Bool → Int → Int → Option (Int × Int × Int)
  | 0, _, _, _, _, _, _, _ => none
  | k + 1, x0, x4, x5, x6, x8, x487000, x487001 => (fleuronref01_whole.f k x4 10).bind fun t487 => (if x6 = true then ((fleuronref01_whole.f k x5 10).bind fun t488 => (fleuronref01_Parse.j2 k x0 x8 t487 t488)) else (fleuronref01_Parse.j2 k x0 x8 t487 x487001))
def fleuronref01_Parse.j2 : Nat → ByteArray → Bool → Int → Int → Option (Int × Int × Int)
  | 0, _, _, _, _ => none
  | k + 1, x0, x8, x487000, x487001 => if x487000 < 0 then (some (0, 0, 30)) else (if x8 = true then ((fleuronref01_Text.f k (wrap64 (-x487000)) x487001).bind fun bt489 => (if bt489.2 = 0 then (if bt489.1.toList = x0.toList then (some (wrap64 (-x487000), x487001, 0)) else (some (0, 0, 30))) else (some (0, 0, 30)))) else ((fleuronref01_Text.f k x487000 x487001).bind fun bt491 => (if bt491.2 = 0 then (if bt491.1.toList = x0.toList then (some (x487000, x487001, 0)) else (some (0, 0, 30))) else (some (0, 0, 30)))))
end
def fleuronref01_Parse.f (k : Nat) (a0 : ByteArray) : Option (Int × Int × Int) := (fleuronref01_cut.f k a0 47).bind fun bt483 => (if (bt483.1.size : Int) > 0 then (if 0 < (bt483.1.size : Int) then (fleuronref01_Parse.j0 k a0 bt483.1 bt483.2.1 bt483.2.2 ((bt bt483.1 0) == 45) 0 1) else (none)) else (fleuronref01_Parse.j0 k a0 bt483.1 bt483.2.1 bt483.2.2 false 0 1))
theorem fleuronref01_Parse.mono_l : ∀ k, (∀ y0 y1 y2 y3 y4 y5 y6, LeO (fleuronref01_Parse.j0 k y0 y1 y2 y3 y4 y5 y6) (fleuronref01_Parse.j0 (k + 1) y0 y1 y2 y3 y4 y5 y6)) ∧ (∀ y0 y1 y2 y3 y4 y5 y6, LeO (fleuronref01_Parse.j1 k y0 y1 y2 y3 y4 y5 y6) (fleuronref01_Parse.j1 (k + 1) y0 y1 y2 y3 y4 y5 y6)) ∧ (∀ y0 y1 y2 y3, LeO (fleuronref01_Parse.j2 k y0 y1 y2 y3) (fleuronref01_Parse.j2 (k + 1) y0 y1 y2 y3))
  | 0 => ⟨fun _ _ _ _ _ _ _ r h => by simp [fleuronref01_Parse.j0] at h, fun _ _ _ _ _ _ _ r h => by simp [fleuronref01_Parse.j1] at h, fun _ _ _ _ r h => by simp [fleuronref01_Parse.j2] at h⟩
  | k + 1 => by
    obtain ⟨ih0, ih1, ih2⟩ := fleuronref01_Parse.mono_l k
    refine ⟨?_, ?_, ?_⟩
    · intro y0 y1 y2 y3 y4 y5 y6
      unfold fleuronref01_Parse.j0
      repeat' first
      | (with_reducible exact ih0 _ _ _ _ _ _ _)
      | (with_reducible exact ih1 _ _ _ _ _ _ _)
      | (with_reducible exact ih2 _ _ _ _)
      | (with_reducible exact fleuronref01_Text.mono _ _ _)
      | (with_reducible exact fleuronref01_cut.mono _ _ _)
      | (with_reducible exact fleuronref01_whole.mono _ _ _)
      | (with_reducible exact LeO.refl _)
      | (with_reducible exact LeO.none _)
      | (with_reducible refine LeO.ite ?_ ?_)
      | (with_reducible refine LeO.bind ?_ (fun _ => ?_))
      | exact ih0 _ _ _ _ _ _ _
      | exact ih1 _ _ _ _ _ _ _
      | exact ih2 _ _ _ _
      | exact fleuronref01_Text.mono _ _ _
      | exact fleuronref01_cut.mono _ _ _
      | exact fleuronref01_whole.mono _ _ _
      | exact LeO.none _
      | refine LeO.ite ?_ ?_
      | refine LeO.bind ?_ (fun _ => ?_)
    · intro y0 y1 y2 y3 y4 y5 y6
      unfold fleuronref01_Parse.j1
      repeat' first
      | (with_reducible exact ih0 _ _ _ _ _ _ _)
      | (with_reducible exact ih1 _ _ _ _ _ _ _)
      | (with_reducible exact ih2 _ _ _ _)
      | (with_reducible exact fleuronref01_Text.mono _ _ _)
      | (with_reducible exact fleuronref01_cut.mono _ _ _)
      | (with_reducible exact fleuronref01_whole.mono _ _ _)
      | (with_reducible exact LeO.refl _)
      | (with_reducible exact LeO.none _)
      | (with_reducible refine LeO.ite ?_ ?_)
      | (with_reducible refine LeO.bind ?_ (fun _ => ?_))
      | exact ih0 _ _ _ _ _ _ _
      | exact ih1 _ _ _ _ _ _ _
      | exact ih2 _ _ _ _
      | exact fleuronref01_Text.mono _ _ _
      | exact fleuronref01_cut.mono _ _ _
      | exact fleuronref01_whole.mono _ _ _
      | exact LeO.none _
      | refine LeO.ite ?_ ?_
      | refine LeO.bind ?_ (fun _ => ?_)
    · intro y0 y1 y2 y3
      unfold fleuronref01_Parse.j2
      repeat' first
      | (with_reducible exact ih0 _ _ _ _ _ _ _)
      | (with_reducible exact ih1 _ _ _ _ _ _ _)
      | (with_reducible exact ih2 _ _ _ _)
      | (with_reducible exact fleuronref01_Text.mono _ _ _)
      | (with_reducible exact fleuronref01_cut.mono _ _ _)
      | (with_reducible exact fleuronref01_whole.mono _ _ _)
      | (with_reducible exact LeO.refl _)
      | (with_reducible exact LeO.none _)
      | (with_reducible refine LeO.ite ?_ ?_)
      | (with_reducible refine LeO.bind ?_ (fun _ => ?_))
      | exact ih0 _ _ _ _ _ _ _
      | exact ih1 _ _ _ _ _ _ _
      | exact ih2 _ _ _ _
      | exact fleuronref01_Text.mono _ _ _
      | exact fleuronref01_cut.mono _ _ _
      | exact fleuronref01_whole.mono _ _ _
      | exact LeO.none _
      | refine LeO.ite ?_ ?_
      | refine LeO.bind ?_ (fun _ => ?_)
theorem fleuronref01_Parse.mono : ∀ a0 k, LeO (fleuronref01_Parse.f k a0) (fleuronref01_Parse.f (k + 1) a0) := by
  intro a0 k
  obtain ⟨ih0, ih1, ih2⟩ := fleuronref01_Parse.mono_l k
  unfold fleuronref01_Parse.f
  repeat' first
      | (with_reducible exact ih0 _ _ _ _ _ _ _)
      | (with_reducible exact ih1 _ _ _ _ _ _ _)
      | (with_reducible exact ih2 _ _ _ _)
      | (with_reducible exact fleuronref01_Text.mono _ _ _)
      | (with_reducible exact fleuronref01_cut.mono _ _ _)
      | (with_reducible exact fleuronref01_whole.mono _ _ _)
      | (with_reducible exact LeO.refl _)
      | (with_reducible exact LeO.none _)
      | (with_reducible refine LeO.ite ?_ ?_)
      | (with_reducible refine LeO.bind ?_ (fun _ => ?_))
      | exact ih0 _ _ _ _ _ _ _
      | exact ih1 _ _ _ _ _ _ _
      | exact ih2 _ _ _ _
      | exact fleuronref01_Text.mono _ _ _
      | exact fleuronref01_cut.mono _ _ _
      | exact fleuronref01_whole.mono _ _ _
      | exact LeO.none _
      | refine LeO.ite ?_ ?_
      | refine LeO.bind ?_ (fun _ => ?_)
set_option maxHeartbeats 8000000 in
set_option maxRecDepth 100000 in
theorem fleuronref01_Parse.calls (k : Nat) (a0 : ByteArray) (r1 : Int) (r2 : Int) (r3 : Int) (w : World) (h : fleuronref01_Parse.f k a0 = some (r1, r2, r3)) :
    Calls Tryd.prog 35 #[.string a0] w fun e w' => e = .returned (.tuple #[.agg #[.int .i64 r1, .int .i64 r2], .int .i64 r3]) ∧ Below w.heap.size w w' := by
  have hu23 := Tryd.underlying23
  have HB := Fa.mk (Below.refl w.heap.size w)
  have H : ((fleuronref01_cut.f k a0 47).bind fun bt483 => (if (bt483.1.size : Int) > 0 then (if 0 < (bt483.1.size : Int) then (fleuronref01_Parse.j0 k a0 bt483.1 bt483.2.1 bt483.2.2 ((bt bt483.1 0) == 45) 0 1) else (none)) else (fleuronref01_Parse.j0 k a0 bt483.1 bt483.2.1 bt483.2.2 false 0 1))) = some (r1, r2, r3) := h
  clear h
  replace H := Option.bind_eq_some_iff.mp H
  obtain ⟨⟨t483, t484, t485⟩, A20, H⟩ := H
  replace H : (if (t483.size : Int) > 0 then (if 0 < (t483.size : Int) then (fleuronref01_Parse.j0 k a0 t483 t484 t485 ((bt t483 0) == 45) 0 1) else (none)) else (fleuronref01_Parse.j0 k a0 t483 t484 t485 false 0 1)) = some (r1, r2, r3) := H
  have A2 := Fa.mk A20
  clear A20
  have HC3 := Fa.mk H
  clear H
  go_enter Tryd.func35, Tryd.ntmps35
  go_upto_region 3 with (first | ((with_reducible refine gate_dst (N := 2) rfl ?_); refine boxF (N := 2) (cs := #[.int .i64 0, .int .i64 0]) (t := 23) ?_; intro gb482 hg w4 hbox hb; have n0_ := Fa.mk (bst w hb); have n1_ := Fa.mk (hbox); have n2_ := Fa.mk (gle hg : w.heap.size ≤ gb482); have n3_ := n2_; clear HB; have HB := n0_; have BK482 := n1_; have GW482 := n2_; have GE482 := n3_; clear n0_ n1_ n2_ n3_; clear hb hbox hg) | ((with_reducible refine gate_callee (f := 61) rfl ?_); refine goesA (some 13) rfl rfl Tryd.func61 (by kernel_rfl) rfl #[.string a0, .int .u8 47] rfl ?_; (with_reducible refine (fleuronref01_cut.calls k a0 47 t483 t484 t485 _ A2.out).mono ?_); rintro e w' ⟨rfl, ⟨nd, rfl⟩⟩; refine ⟨_, rfl, ?_⟩; (try (rw [drewN_self w4]; generalize hq_ : World.drewN w4 _ = w4; have n0_ : Fa (w4.heap[gb482]? = some (.cells #[.int .i64 0, .int .i64 0] 23 (0, 0))) := ⟨by rw [← hq_]; exact fa⟩; have n1_ : Fa (Below w.heap.size w w4) := ⟨by rw [← hq_]; exact fa⟩; clear BK482 HB hq_; have BK482 := n0_; have HB := n1_; clear n0_ n1_))) | ((with_reducible refine gate_dst (N := 7) rfl ?_); refine boxF (N := 7) (cs := #[.int .i64 0, .int .i64 0]) (t := 23) ?_; intro gb486 hg w5 hbox hb; have n0_ := Fa.mk (blk_below (g := gb482) (o := .cells #[.int .i64 0, .int .i64 0] 23 (0, 0)) fa hb); have n1_ := Fa.mk (bst w hb); have n2_ := Fa.mk (hbox); have n3_ := Fa.mk (gle hg : w.heap.size ≤ gb486); have n4_ := n3_; have n5_ := Fa.mk (gne (o := .cells #[.int .i64 0, .int .i64 0] 23 (0, 0)) hg : gb482 ≠ gb486); have n6_ := Fa.mk n5_.out.symm; clear BK482; clear HB; have BK482 := n0_; have HB := n1_; have BK486 := n2_; have GW486 := n3_; have GE486 := n4_; have NB482_486 := n5_; have NB486_482 := n6_; clear n0_ n1_ n2_ n3_ n4_ n5_ n6_; clear hb hbox hg; have hnb6 := NB486_482.out; have hnc6 := NB482_486.out; have hcz7_0 : w5.cell? ⟨gb486, 0, none⟩ = some (.int .i64 0) := (blk_cell BK486.out 0).trans rfl; have hcz7_1 : w5.cell? ⟨gb486, 1, none⟩ = some (.int .i64 0) := (blk_cell BK486.out 1).trans rfl; have hfz7_0 := blk_frozen BK486.out 0; have hfz7_1 := blk_frozen BK486.out 1))
  (try simp only [Act.put, List.setIfInBounds_toArray, List.set_cons_zero, List.set_cons_succ])
  go_cut [8] (fun v8 wc => ∃ (kq : Nat) (x8_2 : Bool), v8 = .bool x8_2 ∧ Fa (fleuronref01_Parse.j0 kq a0 t483 t484 t485 x8_2 0 1 = some (r1, r2, r3)) ∧ Fa (kq ≤ k) ∧ Fa (wc.heap[gb482]? = some (.cells #[.int .i64 0, .int .i64 0] 23 (0, 0))) ∧ Fa (wc.heap[gb486]? = some (.cells #[.int .i64 0, .int .i64 1] 23 (0, 0))) ∧ Fa (Below w.heap.size w wc))
  case first =>
    have H := HC3.out
    clear HC3
    by_cases c8 : (t483.size : Int) > 0
    · rw [if_pos c8] at H
      have c8b0 : decide (0 < (t483.size : Int)) = true := decide_eq_true c8
      have c8b1 : decide (0 < t483.size) = true := decide_eq_true (by omega)
      clear c8
      (first | rw [c8b0] | (simp only [i64_w, i32_w]; rw [c8b0]) | skip)
      by_cases c9 : 0 < (t483.size : Int)
      · rw [if_pos c9] at H
        have c9b0 : decide (0 < (t483.size : Int)) = true := decide_eq_true c9
        have c9b1 : decide (0 < t483.size) = true := decide_eq_true (by omega)
        clear c9
        have H' := Fa.mk H
        clear H
        have p10 : 0 ≤ (0 : Int) := (by omega)
        have q10 : 0 < t483.size := (by have : (0 : Int) < (t483.size : Int) := of_decide_eq_true (by first | (with_reducible assumption) | assumption); omega)
        have hx10 : ∀ h : 0 < t483.size, ((t483[0]'h).toNat : Int) = bt t483 0 := bt_at t483 0
        clear p10
        have qi10 : (0 < (t483.size : Int)) = True := eq_true (of_decide_eq_true (by first | (with_reducible assumption) | assumption))
        replace q10 := eq_true q10
        go_wp2
        go_meet
        case rel => exact ⟨_, (((bt t483 0) == 45)), (by first | rfl | (simp; done) | (simp [*]; done)), H', ⟨by first | omega | exact Nat.le_refl _⟩, ⟨by (with_reducible repeat (first | refine blk_drewN ?_ _ | refine blk_drew ?_ | refine blk_alloc ?_ _)); refine blk_far ?_ NB482_486.out _; (with_reducible repeat (first | refine blk_drewN ?_ _ | refine blk_drew ?_ | refine blk_alloc ?_ _)); refine blk_far ?_ NB482_486.out _; (with_reducible repeat (first | refine blk_drewN ?_ _ | refine blk_drew ?_ | refine blk_alloc ?_ _)); exact BK482.out⟩, ⟨by (with_reducible repeat (first | refine blk_drewN ?_ _ | refine blk_drew ?_ | refine blk_alloc ?_ _)); refine blk_put (cs := #[.int .i64 0, .int .i64 0]) ?_ 1 _ rfl; (with_reducible repeat (first | refine blk_drewN ?_ _ | refine blk_drew ?_ | refine blk_alloc ?_ _)); refine blk_put (cs := #[.int .i64 0, .int .i64 0]) ?_ 0 _ rfl; (with_reducible repeat (first | refine blk_drewN ?_ _ | refine blk_drew ?_ | refine blk_alloc ?_ _)); exact BK486.out⟩, ⟨fa⟩⟩
      · rw [if_neg c9] at H
        exact absurd H (by simp)
    · rw [if_neg c8] at H
      have c8b0 : decide (0 < (t483.size : Int)) = false := decide_eq_false c8
      have c8b1 : decide (0 < t483.size) = false := decide_eq_false (by omega)
      clear c8
      (first | rw [c8b0] | (simp only [i64_w, i32_w]; rw [c8b0]) | skip)
      have H' := Fa.mk H
      clear H
      go_wp2
      go_meet
      case rel => exact ⟨_, (false), (by first | rfl | (simp; done) | (simp [*]; done)), H', ⟨by first | omega | exact Nat.le_refl _⟩, ⟨by (with_reducible repeat (first | refine blk_drewN ?_ _ | refine blk_drew ?_ | refine blk_alloc ?_ _)); refine blk_far ?_ NB482_486.out _; (with_reducible repeat (first | refine blk_drewN ?_ _ | refine blk_drew ?_ | refine blk_alloc ?_ _)); refine blk_far ?_ NB482_486.out _; (with_reducible repeat (first | refine blk_drewN ?_ _ | refine blk_drew ?_ | refine blk_alloc ?_ _)); exact BK482.out⟩, ⟨by (with_reducible repeat (first | refine blk_drewN ?_ _ | refine blk_drew ?_ | refine blk_alloc ?_ _)); refine blk_put (cs := #[.int .i64 0, .int .i64 0]) ?_ 1 _ rfl; (with_reducible repeat (first | refine blk_drewN ?_ _ | refine blk_drew ?_ | refine blk_alloc ?_ _)); refine blk_put (cs := #[.int .i64 0, .int .i64 0]) ?_ 0 _ rfl; (with_reducible repeat (first | refine blk_drewN ?_ _ | refine blk_drew ?_ | refine blk_alloc ?_ _)); exact BK486.out⟩, ⟨fa⟩⟩
  case rest =>
    clear HC3
    try clear p1
    try clear q1
    try clear hx1
    try clear qi1
    try clear p2
    try clear c3
    try clear c6
    try clear c8
    try clear c8b0
    try clear c8b1
    try clear c9
    try clear c9b0
    try clear c9b1
    try clear p10
    try clear q10
    try clear hx10
    try clear qi10
    try clear hcz7_0
    try clear hcz7_1
    try clear hfz7_0
    try clear hfz7_1
    try clear p10
    try clear q10
    obtain ⟨kq, x8_2, rfl, HA, HJ2, BK482, BK486, HB⟩ := hcut
    cases kq with
    | zero => exact absurd HA.out (by simp [fleuronref01_Parse.j0])
    | succ kj2 =>
      have H := HA.out
      clear HA
      simp only [fleuronref01_Parse.j0] at H
      have HC11 := Fa.mk H
      clear H
      go_upto_if 26 with (fail)
      go_cut [4] (fun v4 wc => ∃ (kq : Nat) (x4_10 : ByteArray), v4 = .string x4_10 ∧ Fa (fleuronref01_Parse.j1 kq a0 x4_10 t484 t485 x8_2 0 1 = some (r1, r2, r3)) ∧ Fa (kq ≤ kj2) ∧ Fa (wc.heap[gb482]? = some (.cells #[.int .i64 0, .int .i64 0] 23 (0, 0))) ∧ Fa (wc.heap[gb486]? = some (.cells #[.int .i64 0, .int .i64 1] 23 (0, 0))) ∧ Fa (Below w.heap.size w wc))
      case first =>
        have H := HC11.out
        clear HC11
        by_cases c12 : x8_2 = true
        · subst c12
          have H1 : (if 1 ≤ (t483.size : Int) then (fleuronref01_Parse.j1 kj2 a0 (t483.extract 1 t483.size) t484 t485 true 0 1) else (none)) = some (r1, r2, r3) := by rw [if_pos rfl] at H; exact H
          clear H
          have H := H1
          clear H1
          by_cases c13 : 1 ≤ (t483.size : Int)
          · rw [if_pos c13] at H
            have c13b0 := eq_true c13
            have c13b1 : decide (1 ≤ (t483.size : Int)) = true := decide_eq_true c13
            clear c13
            have H' := Fa.mk H
            clear H
            go_wp2
            go_meet
            case rel => exact ⟨_, (t483.extract 1 t483.size), (by first | rfl | (simp; done) | (simp [*]; done)), H', ⟨by have := HJ2.out; first | omega | exact Nat.le_refl _⟩, ⟨by (with_reducible repeat (first | refine blk_drewN ?_ _ | refine blk_drew ?_ | refine blk_alloc ?_ _)); exact BK482.out⟩, ⟨by (with_reducible repeat (first | refine blk_drewN ?_ _ | refine blk_drew ?_ | refine blk_alloc ?_ _)); exact BK486.out⟩, ⟨fa⟩⟩
          · rw [if_neg c13] at H
            exact absurd H (by simp)
        · replace c12 := Bool.eq_false_iff.mpr c12
          subst c12
          have H1 : (fleuronref01_Parse.j1 kj2 a0 t483 t484 t485 false 0 1) = some (r1, r2, r3) := by rw [if_neg (show ¬ (false = true) by decide)] at H; exact H
          clear H
          have H := H1
          clear H1
          have H' := Fa.mk H
          clear H
          go_wp2
          go_meet
          case rel => exact ⟨_, (t483), (by first | rfl | (simp; done) | (simp [*]; done)), H', ⟨by have := HJ2.out; first | omega | exact Nat.le_refl _⟩, ⟨by (with_reducible repeat (first | refine blk_drewN ?_ _ | refine blk_drew ?_ | refine blk_alloc ?_ _)); exact BK482.out⟩, ⟨by (with_reducible repeat (first | refine blk_drewN ?_ _ | refine blk_drew ?_ | refine blk_alloc ?_ _)); exact BK486.out⟩, ⟨fa⟩⟩
      case rest =>
        clear HC11
        try clear c1
        try clear p1
        try clear q1
        try clear hx1
        try clear qi1
        try clear p2
        try clear c3
        try clear c6
        try clear c8
        try clear c8b0
        try clear c8b1
        try clear c9
        try clear c9b0
        try clear c9b1
        try clear p10
        try clear q10
        try clear hx10
        try clear qi10
        try clear c12
        try clear c13
        try clear c13b0
        try clear c13b1
        try clear hcz7_0
        try clear hcz7_1
        try clear hfz7_0
        try clear hfz7_1
        try clear p1
        try clear p10
        try clear p2
        try clear q1
        try clear q10
        obtain ⟨kq, x4_10, rfl, HA, HJ10, BK482, BK486, HB⟩ := hcut
        cases kq with
        | zero => exact absurd HA.out (by simp [fleuronref01_Parse.j1])
        | succ kj10 =>
          have H := HA.out
          clear HA
          simp only [fleuronref01_Parse.j1] at H
          replace H := Option.bind_eq_some_iff.mp H
          obtain ⟨t487, A140, H⟩ := H
          replace H : (if t485 = true then ((fleuronref01_whole.f kj10 t484 10).bind fun t488 => (fleuronref01_Parse.j2 kj10 a0 x8_2 t487 t488)) else (fleuronref01_Parse.j2 kj10 a0 x8_2 t487 1)) = some (r1, r2, r3) := H
          have A14 := Fa.mk A140
          clear A140
          have HC15 := Fa.mk H
          clear H
          go_upto_if 32 with (first | ((with_reducible refine gate_callee (f := 62) rfl ?_); refine goesA (some 30) rfl rfl Tryd.func62 (by kernel_rfl) rfl #[.string x4_10, .int .i64 10] rfl ?_; (with_reducible refine (fleuronref01_whole.calls kj10 x4_10 10 t487 _ A14.out).mono ?_); rintro e w' ⟨rfl, ⟨nd, rfl⟩⟩; refine ⟨_, rfl, ?_⟩; (try (rw [drewN_self wc]; generalize hq_ : World.drewN wc _ = wc; have n0_ : Fa (wc.heap[gb482]? = some (.cells #[.int .i64 0, .int .i64 0] 23 (0, 0))) := ⟨by rw [← hq_]; exact fa⟩; have n1_ : Fa (wc.heap[gb486]? = some (.cells #[.int .i64 0, .int .i64 1] 23 (0, 0))) := ⟨by rw [← hq_]; exact fa⟩; have n2_ : Fa (Below w.heap.size w wc) := ⟨by rw [← hq_]; exact fa⟩; clear BK482 BK486 HB hq_; have BK482 := n0_; have BK486 := n1_; have HB := n2_; clear n0_ n1_ n2_)); have hnb16 := NB486_482.out; have hnc16 := NB482_486.out; have hcz17_0 : wc.cell? ⟨gb486, 0, none⟩ = some (.int .i64 0) := (blk_cell BK486.out 0).trans rfl; have hcz17_1 : wc.cell? ⟨gb486, 1, none⟩ = some (.int .i64 1) := (blk_cell BK486.out 1).trans rfl; have hfz17_0 := blk_frozen BK486.out 0; have hfz17_1 := blk_frozen BK486.out 1))
          (try simp only [Act.put, List.setIfInBounds_toArray, List.set_cons_zero, List.set_cons_succ])
          go_cut [] (fun wc => ∃ (kq : Nat) (x487001_14 : Int), Fa (fleuronref01_Parse.j2 kq a0 x8_2 t487 x487001_14 = some (r1, r2, r3)) ∧ Fa (kq ≤ kj10) ∧ Fa (wc.heap[gb482]? = some (.cells #[.int .i64 0, .int .i64 0] 23 (0, 0))) ∧ Fa (wc.heap[gb486]? = some (.cells #[.int .i64 t487, .int .i64 x487001_14] 23 (0, 0))) ∧ Fa (Below w.heap.size w wc))
          case first =>
            have H := HC15.out
            clear HC15
            by_cases c18 : t485 = true
            · subst c18
              have H1 : ((fleuronref01_whole.f kj10 t484 10).bind fun t488 => (fleuronref01_Parse.j2 kj10 a0 x8_2 t487 t488)) = some (r1, r2, r3) := by rw [if_pos rfl] at H; exact H
              clear H
              have H := H1
              clear H1
              replace H := Option.bind_eq_some_iff.mp H
              obtain ⟨t488, A190, H⟩ := H
              replace H : (fleuronref01_Parse.j2 kj10 a0 x8_2 t487 t488) = some (r1, r2, r3) := H
              have A19 := Fa.mk A190
              clear A190
              have H' := Fa.mk H
              clear H
              go_wp2_with (first | ((with_reducible refine gate_callee (f := 62) rfl ?_); refine goesA (some 34) rfl rfl Tryd.func62 (by kernel_rfl) rfl #[.string t484, .int .i64 10] rfl ?_; (with_reducible refine (fleuronref01_whole.calls kj10 t484 10 t488 _ A19.out).mono ?_); rintro e w' ⟨rfl, ⟨nd, rfl⟩⟩; refine ⟨_, rfl, ?_⟩; have hnb20 := NB486_482.out; have hnc20 := NB482_486.out; have hcz21_0 : wc.cell? ⟨gb486, 0, none⟩ = some (.int .i64 0) := (blk_cell BK486.out 0).trans rfl; have hcz21_1 : wc.cell? ⟨gb486, 1, none⟩ = some (.int .i64 1) := (blk_cell BK486.out 1).trans rfl; have hfz21_0 := blk_frozen BK486.out 0; have hfz21_1 := blk_frozen BK486.out 1))
              go_meet
              case rel => exact ⟨_, (t488), H', ⟨by have := HJ2.out; have := HJ10.out; first | omega | exact Nat.le_refl _⟩, ⟨by (with_reducible repeat (first | refine blk_drewN ?_ _ | refine blk_drew ?_ | refine blk_alloc ?_ _)); refine blk_far ?_ NB482_486.out _; (with_reducible repeat (first | refine blk_drewN ?_ _ | refine blk_drew ?_ | refine blk_alloc ?_ _)); refine blk_far ?_ NB482_486.out _; (with_reducible repeat (first | refine blk_drewN ?_ _ | refine blk_drew ?_ | refine blk_alloc ?_ _)); exact BK482.out⟩, ⟨by (with_reducible repeat (first | refine blk_drewN ?_ _ | refine blk_drew ?_ | refine blk_alloc ?_ _)); refine blk_put (cs := #[.int .i64 t487, .int .i64 1]) ?_ 1 _ rfl; (with_reducible repeat (first | refine blk_drewN ?_ _ | refine blk_drew ?_ | refine blk_alloc ?_ _)); refine blk_put (cs := #[.int .i64 0, .int .i64 1]) ?_ 0 _ rfl; (with_reducible repeat (first | refine blk_drewN ?_ _ | refine blk_drew ?_ | refine blk_alloc ?_ _)); exact BK486.out⟩, ⟨fa⟩⟩
            · replace c18 := Bool.eq_false_iff.mpr c18
              subst c18
              have H1 : (fleuronref01_Parse.j2 kj10 a0 x8_2 t487 1) = some (r1, r2, r3) := by rw [if_neg (show ¬ (false = true) by decide)] at H; exact H
              clear H
              have H := H1
              clear H1
              have H' := Fa.mk H
              clear H
              go_wp2
              go_meet
              case rel => exact ⟨_, (1), H', ⟨by have := HJ2.out; have := HJ10.out; first | omega | exact Nat.le_refl _⟩, ⟨by (with_reducible repeat (first | refine blk_drewN ?_ _ | refine blk_drew ?_ | refine blk_alloc ?_ _)); refine blk_far ?_ NB482_486.out _; (with_reducible repeat (first | refine blk_drewN ?_ _ | refine blk_drew ?_ | refine blk_alloc ?_ _)); exact BK482.out⟩, ⟨by (with_reducible repeat (first | refine blk_drewN ?_ _ | refine blk_drew ?_ | refine blk_alloc ?_ _)); refine blk_put (cs := #[.int .i64 0, .int .i64 1]) ?_ 0 _ rfl; (with_reducible repeat (first | refine blk_drewN ?_ _ | refine blk_drew ?_ | refine blk_alloc ?_ _)); exact BK486.out⟩, ⟨fa⟩⟩
          case rest =>
            clear HC15
            try clear c1
            try clear p1
            try clear q1
            try clear hx1
            try clear qi1
            try clear c2
            try clear p2
            try clear c3
            try clear c6
            try clear c8
            try clear c8b0
            try clear c8b1
            try clear c9
            try clear c9b0
            try clear c9b1
            try clear p10
            try clear q10
            try clear hx10
            try clear qi10
            try clear c12
            try clear c13
            try clear c13b0
            try clear c13b1
            try clear c16
            try clear c18
            try clear c20
            try clear hcz17_0
            try clear hcz17_1
            try clear hcz21_0
            try clear hcz21_1
            try clear hcz7_0
            try clear hcz7_1
            try clear hfz17_0
            try clear hfz17_1
            try clear hfz21_0
            try clear hfz21_1
            try clear hfz7_0
            try clear hfz7_1
            try clear p1
            try clear p10
            try clear p2
            try clear q1
            try clear q10
            obtain ⟨kq, x487001_14, HA, HJ14, BK482, BK486, HB⟩ := hcut
            cases kq with
            | zero => exact absurd HA.out (by simp [fleuronref01_Parse.j2])
            | succ kj14 =>
              have H := HA.out
              clear HA
              simp only [fleuronref01_Parse.j2] at H
              by_cases c22 : t487 < 0
              · rw [if_pos c22] at H
                have c22b0 : decide (t487 < 0) = true := decide_eq_true c22
                clear c22
                simp only [Option.some.injEq, Prod.mk.injEq] at H
                obtain ⟨rfl, rfl, rfl⟩ := H
                have hnb23 := NB486_482.out
                have hnc23 := NB482_486.out
                have hcz24_0 : wc.cell? ⟨gb486, 0, none⟩ = some (.int .i64 t487) := (blk_cell BK486.out 0).trans rfl
                have hcz24_1 : wc.cell? ⟨gb486, 1, none⟩ = some (.int .i64 x487001_14) := (blk_cell BK486.out 1).trans rfl
                have hfz24_0 := blk_frozen BK486.out 0
                have hfz24_1 := blk_frozen BK486.out 1
                have hcz25_0 : wc.cell? ⟨gb482, 0, none⟩ = some (.int .i64 0) := (blk_cell BK482.out 0).trans rfl
                have hcz25_1 : wc.cell? ⟨gb482, 1, none⟩ = some (.int .i64 0) := (blk_cell BK482.out 1).trans rfl
                have hfz25_0 := blk_frozen BK482.out 0
                have hfz25_1 := blk_frozen BK482.out 1
                go_wp2
                refine bodyPost_ret (results_ct rfl _ _ gb482 23 #[.int .i64 0, .int .i64 0] (0, 0) _ rfl (by (with_reducible repeat (first | refine blk_drewN ?_ _ | refine blk_drew ?_ | refine blk_alloc ?_ _)); refine blk_put (cs := #[.int .i64 0, .int .i64 0]) ?_ 1 _ rfl; (with_reducible repeat (first | refine blk_drewN ?_ _ | refine blk_drew ?_ | refine blk_alloc ?_ _)); refine blk_put (cs := #[.int .i64 0, .int .i64 0]) ?_ 0 _ rfl; (with_reducible repeat (first | refine blk_drewN ?_ _ | refine blk_drew ?_ | refine blk_alloc ?_ _)); exact BK482.out) Tryd.underlying23 rfl (by kernel_rfl)) rfl ?_
                exact ⟨by first | rfl | (simp [errW_none, errW_some] <;> rfl) | (simp [*, errW_none, errW_some] <;> rfl), fa⟩
              · rw [if_neg c22] at H
                have c22b0 : decide (t487 < 0) = false := decide_eq_false c22
                clear c22
                by_cases c26 : x8_2 = true
                · subst c26
                  have H1 : ((fleuronref01_Text.f kj14 (wrap64 (-t487)) x487001_14).bind fun bt489 => (if bt489.2 = 0 then (if bt489.1.toList = a0.toList then (some (wrap64 (-t487), x487001_14, 0)) else (some (0, 0, 30))) else (some (0, 0, 30)))) = some (r1, r2, r3) := by rw [if_pos rfl] at H; exact H
                  clear H
                  have H := H1
                  clear H1
                  replace H := Option.bind_eq_some_iff.mp H
                  obtain ⟨⟨t489, t490⟩, A270, H⟩ := H
                  replace H : (if t490 = 0 then (if t489.toList = a0.toList then (some (wrap64 (-t487), x487001_14, 0)) else (some (0, 0, 30))) else (some (0, 0, 30))) = some (r1, r2, r3) := H
                  have A27 := Fa.mk A270
                  clear A270
                  by_cases c28 : t490 = 0
                  · rw [if_pos c28] at H
                    have c28b0 : (t490 == 0) = true := beq_iff_eq.mpr c28
                    have c28b1 : (t490 != 0) = false := bne_eq_false_iff_eq.mpr c28
                    clear c28
                    by_cases c29 : t489.toList = a0.toList
                    · rw [if_pos c29] at H
                      have c29b0 : (t489.toList == a0.toList) = true := beq_iff_eq.mpr c29
                      have c29b1 : (t489.toList != a0.toList) = false := bne_eq_false_iff_eq.mpr c29
                      clear c29
                      simp only [Option.some.injEq, Prod.mk.injEq] at H
                      obtain ⟨rfl, rfl, rfl⟩ := H
                      have hnb30 := NB486_482.out
                      have hnc30 := NB482_486.out
                      have hcz31_0 : wc.cell? ⟨gb486, 0, none⟩ = some (.int .i64 t487) := (blk_cell BK486.out 0).trans rfl
                      have hcz31_1 : wc.cell? ⟨gb486, 1, none⟩ = some (.int .i64 x487001_14) := (blk_cell BK486.out 1).trans rfl
                      have hfz31_0 := blk_frozen BK486.out 0
                      have hfz31_1 := blk_frozen BK486.out 1
                      go_wp2_with (first | ((with_reducible refine gate_callee (f := 33) rfl ?_); refine goesA (some 47) rfl rfl Tryd.func33 (by kernel_rfl) rfl #[.agg #[.int .i64 (wrap64 (-t487)), .int .i64 x487001_14]] rfl ?_; (with_reducible refine (fleuronref01_Text.calls kj14 (wrap64 (-t487)) x487001_14 t489 t490 _ A27.out).mono ?_); rintro e w32 ⟨rfl, hb⟩; refine ⟨_, rfl, ?_⟩; have n0_ := Fa.mk (blk_below (g := gb482) (o := .cells #[.int .i64 0, .int .i64 0] 23 (0, 0)) (by (with_reducible repeat (first | refine blk_drewN ?_ _ | refine blk_drew ?_ | refine blk_alloc ?_ _)); refine blk_far ?_ NB482_486.out _; (with_reducible repeat (first | refine blk_drewN ?_ _ | refine blk_drew ?_ | refine blk_alloc ?_ _)); exact BK482.out) hb); have n1_ := Fa.mk (blk_below (g := gb486) (o := .cells #[.int .i64 (wrap64 (-t487)), .int .i64 x487001_14] 23 (0, 0)) (by (with_reducible repeat (first | refine blk_drewN ?_ _ | refine blk_drew ?_ | refine blk_alloc ?_ _)); refine blk_put (cs := #[.int .i64 t487, .int .i64 x487001_14]) ?_ 0 _ rfl; (with_reducible repeat (first | refine blk_drewN ?_ _ | refine blk_drew ?_ | refine blk_alloc ?_ _)); exact BK486.out) hb); have n2_ := Fa.mk (bst w hb); clear BK482; clear BK486; clear HB; have BK482 := n0_; have BK486 := n1_; have HB := n2_; clear n0_ n1_ n2_; (try clear hb); (try clear hb2); (try clear hk); (try clear hi); have hcz33_0 : w32.cell? ⟨gb486, 0, none⟩ = some (.int .i64 (wrap64 (-t487))) := (blk_cell BK486.out 0).trans rfl; have hcz33_1 : w32.cell? ⟨gb486, 1, none⟩ = some (.int .i64 x487001_14) := (blk_cell BK486.out 1).trans rfl; have hfz33_0 := blk_frozen BK486.out 0; have hfz33_1 := blk_frozen BK486.out 1; have hcz34_0 : w32.cell? ⟨gb482, 0, none⟩ = some (.int .i64 0) := (blk_cell BK482.out 0).trans rfl; have hcz34_1 : w32.cell? ⟨gb482, 1, none⟩ = some (.int .i64 0) := (blk_cell BK482.out 1).trans rfl; have hfz34_0 := blk_frozen BK482.out 0; have hfz34_1 := blk_frozen BK482.out 1))
                      refine bodyPost_ret (results_ct rfl _ _ gb482 23 #[.int .i64 (wrap64 (-t487)), .int .i64 x487001_14] (0, 0) _ rfl (by (with_reducible repeat (first | refine blk_drewN ?_ _ | refine blk_drew ?_ | refine blk_alloc ?_ _)); refine blk_put (cs := #[.int .i64 (wrap64 (-t487)), .int .i64 0]) ?_ 1 _ rfl; (with_reducible repeat (first | refine blk_drewN ?_ _ | refine blk_drew ?_ | refine blk_alloc ?_ _)); refine blk_put (cs := #[.int .i64 0, .int .i64 0]) ?_ 0 _ rfl; (with_reducible repeat (first | refine blk_drewN ?_ _ | refine blk_drew ?_ | refine blk_alloc ?_ _)); exact BK482.out) Tryd.underlying23 rfl (by kernel_rfl)) rfl ?_
                      exact ⟨by first | rfl | (simp [errW_none, errW_some] <;> rfl) | (simp [*, errW_none, errW_some] <;> rfl), fa⟩
                    · rw [if_neg c29] at H
                      have c29b0 : (t489.toList == a0.toList) = false := beq_eq_false_iff_ne.mpr c29
                      have c29b1 : (t489.toList != a0.toList) = true := bne_iff_ne.mpr c29
                      simp only [Option.some.injEq, Prod.mk.injEq] at H
                      obtain ⟨rfl, rfl, rfl⟩ := H
                      have hnb35 := NB486_482.out
                      have hnc35 := NB482_486.out
                      have hcz36_0 : wc.cell? ⟨gb486, 0, none⟩ = some (.int .i64 t487) := (blk_cell BK486.out 0).trans rfl
                      have hcz36_1 : wc.cell? ⟨gb486, 1, none⟩ = some (.int .i64 x487001_14) := (blk_cell BK486.out 1).trans rfl
                      have hfz36_0 := blk_frozen BK486.out 0
                      have hfz36_1 := blk_frozen BK486.out 1
                      go_wp2_with (first | ((with_reducible refine gate_callee (f := 33) rfl ?_); refine goesA (some 47) rfl rfl Tryd.func33 (by kernel_rfl) rfl #[.agg #[.int .i64 (wrap64 (-t487)), .int .i64 x487001_14]] rfl ?_; (with_reducible refine (fleuronref01_Text.calls kj14 (wrap64 (-t487)) x487001_14 t489 t490 _ A27.out).mono ?_); rintro e w37 ⟨rfl, hb⟩; refine ⟨_, rfl, ?_⟩; have n0_ := Fa.mk (blk_below (g := gb482) (o := .cells #[.int .i64 0, .int .i64 0] 23 (0, 0)) (by (with_reducible repeat (first | refine blk_drewN ?_ _ | refine blk_drew ?_ | refine blk_alloc ?_ _)); refine blk_far ?_ NB482_486.out _; (with_reducible repeat (first | refine blk_drewN ?_ _ | refine blk_drew ?_ | refine blk_alloc ?_ _)); exact BK482.out) hb); have n1_ := Fa.mk (blk_below (g := gb486) (o := .cells #[.int .i64 (wrap64 (-t487)), .int .i64 x487001_14] 23 (0, 0)) (by (with_reducible repeat (first | refine blk_drewN ?_ _ | refine blk_drew ?_ | refine blk_alloc ?_ _)); refine blk_put (cs := #[.int .i64 t487, .int .i64 x487001_14]) ?_ 0 _ rfl; (with_reducible repeat (first | refine blk_drewN ?_ _ | refine blk_drew ?_ | refine blk_alloc ?_ _)); exact BK486.out) hb); have n2_ := Fa.mk (bst w hb); clear BK482; clear BK486; clear HB; have BK482 := n0_; have BK486 := n1_; have HB := n2_; clear n0_ n1_ n2_; (try clear hb); (try clear hb2); (try clear hk); (try clear hi); have hcz38_0 : w37.cell? ⟨gb482, 0, none⟩ = some (.int .i64 0) := (blk_cell BK482.out 0).trans rfl; have hcz38_1 : w37.cell? ⟨gb482, 1, none⟩ = some (.int .i64 0) := (blk_cell BK482.out 1).trans rfl; have hfz38_0 := blk_frozen BK482.out 0; have hfz38_1 := blk_frozen BK482.out 1))
                      refine bodyPost_ret (results_ct rfl _ _ gb482 23 #[.int .i64 0, .int .i64 0] (0, 0) _ rfl (by (with_reducible repeat (first | refine blk_drewN ?_ _ | refine blk_drew ?_ | refine blk_alloc ?_ _)); refine blk_put (cs := #[.int .i64 0, .int .i64 0]) ?_ 1 _ rfl; (with_reducible repeat (first | refine blk_drewN ?_ _ | refine blk_drew ?_ | refine blk_alloc ?_ _)); refine blk_put (cs := #[.int .i64 0, .int .i64 0]) ?_ 0 _ rfl; (with_reducible repeat (first | refine blk_drewN ?_ _ | refine blk_drew ?_ | refine blk_alloc ?_ _)); exact BK482.out) Tryd.underlying23 rfl (by kernel_rfl)) rfl ?_
                      exact ⟨by first | rfl | (simp [errW_none, errW_some] <;> rfl) | (simp [*, errW_none, errW_some] <;> rfl), fa⟩
                  · rw [if_neg c28] at H
                    have c28b0 : (t490 == 0) = false := beq_eq_false_iff_ne.mpr c28
                    have c28b1 : (t490 != 0) = true := bne_iff_ne.mpr c28
                    simp only [Option.some.injEq, Prod.mk.injEq] at H
                    obtain ⟨rfl, rfl, rfl⟩ := H
                    have hnb39 := NB486_482.out
                    have hnc39 := NB482_486.out
                    have hcz40_0 : wc.cell? ⟨gb486, 0, none⟩ = some (.int .i64 t487) := (blk_cell BK486.out 0).trans rfl
                    have hcz40_1 : wc.cell? ⟨gb486, 1, none⟩ = some (.int .i64 x487001_14) := (blk_cell BK486.out 1).trans rfl
                    have hfz40_0 := blk_frozen BK486.out 0
                    have hfz40_1 := blk_frozen BK486.out 1
                    go_wp2_with (first | ((with_reducible refine gate_callee (f := 33) rfl ?_); refine goesA (some 47) rfl rfl Tryd.func33 (by kernel_rfl) rfl #[.agg #[.int .i64 (wrap64 (-t487)), .int .i64 x487001_14]] rfl ?_; (with_reducible refine (fleuronref01_Text.calls kj14 (wrap64 (-t487)) x487001_14 t489 t490 _ A27.out).mono ?_); rintro e w41 ⟨rfl, hb⟩; refine ⟨_, rfl, ?_⟩; have n0_ := Fa.mk (blk_below (g := gb482) (o := .cells #[.int .i64 0, .int .i64 0] 23 (0, 0)) (by (with_reducible repeat (first | refine blk_drewN ?_ _ | refine blk_drew ?_ | refine blk_alloc ?_ _)); refine blk_far ?_ NB482_486.out _; (with_reducible repeat (first | refine blk_drewN ?_ _ | refine blk_drew ?_ | refine blk_alloc ?_ _)); exact BK482.out) hb); have n1_ := Fa.mk (blk_below (g := gb486) (o := .cells #[.int .i64 (wrap64 (-t487)), .int .i64 x487001_14] 23 (0, 0)) (by (with_reducible repeat (first | refine blk_drewN ?_ _ | refine blk_drew ?_ | refine blk_alloc ?_ _)); refine blk_put (cs := #[.int .i64 t487, .int .i64 x487001_14]) ?_ 0 _ rfl; (with_reducible repeat (first | refine blk_drewN ?_ _ | refine blk_drew ?_ | refine blk_alloc ?_ _)); exact BK486.out) hb); have n2_ := Fa.mk (bst w hb); clear BK482; clear BK486; clear HB; have BK482 := n0_; have BK486 := n1_; have HB := n2_; clear n0_ n1_ n2_; (try clear hb); (try clear hb2); (try clear hk); (try clear hi); have hcz42_0 : w41.cell? ⟨gb482, 0, none⟩ = some (.int .i64 0) := (blk_cell BK482.out 0).trans rfl; have hcz42_1 : w41.cell? ⟨gb482, 1, none⟩ = some (.int .i64 0) := (blk_cell BK482.out 1).trans rfl; have hfz42_0 := blk_frozen BK482.out 0; have hfz42_1 := blk_frozen BK482.out 1))
                    refine bodyPost_ret (results_ct rfl _ _ gb482 23 #[.int .i64 0, .int .i64 0] (0, 0) _ rfl (by (with_reducible repeat (first | refine blk_drewN ?_ _ | refine blk_drew ?_ | refine blk_alloc ?_ _)); refine blk_put (cs := #[.int .i64 0, .int .i64 0]) ?_ 1 _ rfl; (with_reducible repeat (first | refine blk_drewN ?_ _ | refine blk_drew ?_ | refine blk_alloc ?_ _)); refine blk_put (cs := #[.int .i64 0, .int .i64 0]) ?_ 0 _ rfl; (with_reducible repeat (first | refine blk_drewN ?_ _ | refine blk_drew ?_ | refine blk_alloc ?_ _)); exact BK482.out) Tryd.underlying23 rfl (by kernel_rfl)) rfl ?_
                    exact ⟨by first | rfl | (simp [errW_none, errW_some] <;> rfl) | (simp [*, errW_none, errW_some] <;> rfl), fa⟩
                · replace c26 := Bool.eq_false_iff.mpr c26
                  subst c26
                  have H1 : ((fleuronref01_Text.f kj14 t487 x487001_14).bind fun bt491 => (if bt491.2 = 0 then (if bt491.1.toList = a0.toList then (some (t487, x487001_14, 0)) else (some (0, 0, 30))) else (some (0, 0, 30)))) = some (r1, r2, r3) := by rw [if_neg (show ¬ (false = true) by decide)] at H; exact H
                  clear H
                  have H := H1
                  clear H1
                  replace H := Option.bind_eq_some_iff.mp H
                  obtain ⟨⟨t491, t492⟩, A430, H⟩ := H
                  replace H : (if t492 = 0 then (if t491.toList = a0.toList then (some (t487, x487001_14, 0)) else (some (0, 0, 30))) else (some (0, 0, 30))) = some (r1, r2, r3) := H
                  have A43 := Fa.mk A430
                  clear A430
                  by_cases c44 : t492 = 0
                  · rw [if_pos c44] at H
                    have c44b0 : (t492 == 0) = true := beq_iff_eq.mpr c44
                    have c44b1 : (t492 != 0) = false := bne_eq_false_iff_eq.mpr c44
                    clear c44
                    by_cases c45 : t491.toList = a0.toList
                    · rw [if_pos c45] at H
                      have c45b0 : (t491.toList == a0.toList) = true := beq_iff_eq.mpr c45
                      have c45b1 : (t491.toList != a0.toList) = false := bne_eq_false_iff_eq.mpr c45
                      clear c45
                      simp only [Option.some.injEq, Prod.mk.injEq] at H
                      obtain ⟨rfl, rfl, rfl⟩ := H
                      have hnb46 := NB486_482.out
                      have hnc46 := NB482_486.out
                      have hcz47_0 : wc.cell? ⟨gb486, 0, none⟩ = some (.int .i64 t487) := (blk_cell BK486.out 0).trans rfl
                      have hcz47_1 : wc.cell? ⟨gb486, 1, none⟩ = some (.int .i64 x487001_14) := (blk_cell BK486.out 1).trans rfl
                      have hfz47_0 := blk_frozen BK486.out 0
                      have hfz47_1 := blk_frozen BK486.out 1
                      go_wp2_with (first | ((with_reducible refine gate_callee (f := 33) rfl ?_); refine goesA (some 47) rfl rfl Tryd.func33 (by kernel_rfl) rfl #[.agg #[.int .i64 t487, .int .i64 x487001_14]] rfl ?_; (with_reducible refine (fleuronref01_Text.calls kj14 t487 x487001_14 t491 t492 _ A43.out).mono ?_); rintro e w48 ⟨rfl, hb⟩; refine ⟨_, rfl, ?_⟩; have n0_ := Fa.mk (blk_below (g := gb482) (o := .cells #[.int .i64 0, .int .i64 0] 23 (0, 0)) fa hb); have n1_ := Fa.mk (blk_below (g := gb486) (o := .cells #[.int .i64 t487, .int .i64 x487001_14] 23 (0, 0)) fa hb); have n2_ := Fa.mk (bst w hb); clear BK482; clear BK486; clear HB; have BK482 := n0_; have BK486 := n1_; have HB := n2_; clear n0_ n1_ n2_; (try clear hb); (try clear hb2); (try clear hk); (try clear hi); have hcz49_0 : w48.cell? ⟨gb486, 0, none⟩ = some (.int .i64 t487) := (blk_cell BK486.out 0).trans rfl; have hcz49_1 : w48.cell? ⟨gb486, 1, none⟩ = some (.int .i64 x487001_14) := (blk_cell BK486.out 1).trans rfl; have hfz49_0 := blk_frozen BK486.out 0; have hfz49_1 := blk_frozen BK486.out 1; have hcz50_0 : w48.cell? ⟨gb482, 0, none⟩ = some (.int .i64 0) := (blk_cell BK482.out 0).trans rfl; have hcz50_1 : w48.cell? ⟨gb482, 1, none⟩ = some (.int .i64 0) := (blk_cell BK482.out 1).trans rfl; have hfz50_0 := blk_frozen BK482.out 0; have hfz50_1 := blk_frozen BK482.out 1))
                      refine bodyPost_ret (results_ct rfl _ _ gb482 23 #[.int .i64 t487, .int .i64 x487001_14] (0, 0) _ rfl (by (with_reducible repeat (first | refine blk_drewN ?_ _ | refine blk_drew ?_ | refine blk_alloc ?_ _)); refine blk_put (cs := #[.int .i64 t487, .int .i64 0]) ?_ 1 _ rfl; (with_reducible repeat (first | refine blk_drewN ?_ _ | refine blk_drew ?_ | refine blk_alloc ?_ _)); refine blk_put (cs := #[.int .i64 0, .int .i64 0]) ?_ 0 _ rfl; (with_reducible repeat (first | refine blk_drewN ?_ _ | refine blk_drew ?_ | refine blk_alloc ?_ _)); exact BK482.out) Tryd.underlying23 rfl (by kernel_rfl)) rfl ?_
                      exact ⟨by first | rfl | (simp [errW_none, errW_some] <;> rfl) | (simp [*, errW_none, errW_some] <;> rfl), fa⟩
                    · rw [if_neg c45] at H
                      have c45b0 : (t491.toList == a0.toList) = false := beq_eq_false_iff_ne.mpr c45
                      have c45b1 : (t491.toList != a0.toList) = true := bne_iff_ne.mpr c45
                      simp only [Option.some.injEq, Prod.mk.injEq] at H
                      obtain ⟨rfl, rfl, rfl⟩ := H
                      have hnb51 := NB486_482.out
                      have hnc51 := NB482_486.out
                      have hcz52_0 : wc.cell? ⟨gb486, 0, none⟩ = some (.int .i64 t487) := (blk_cell BK486.out 0).trans rfl
                      have hcz52_1 : wc.cell? ⟨gb486, 1, none⟩ = some (.int .i64 x487001_14) := (blk_cell BK486.out 1).trans rfl
                      have hfz52_0 := blk_frozen BK486.out 0
                      have hfz52_1 := blk_frozen BK486.out 1
                      go_wp2_with (first | ((with_reducible refine gate_callee (f := 33) rfl ?_); refine goesA (some 47) rfl rfl Tryd.func33 (by kernel_rfl) rfl #[.agg #[.int .i64 t487, .int .i64 x487001_14]] rfl ?_; (with_reducible refine (fleuronref01_Text.calls kj14 t487 x487001_14 t491 t492 _ A43.out).mono ?_); rintro e w53 ⟨rfl, hb⟩; refine ⟨_, rfl, ?_⟩; have n0_ := Fa.mk (blk_below (g := gb482) (o := .cells #[.int .i64 0, .int .i64 0] 23 (0, 0)) fa hb); have n1_ := Fa.mk (blk_below (g := gb486) (o := .cells #[.int .i64 t487, .int .i64 x487001_14] 23 (0, 0)) fa hb); have n2_ := Fa.mk (bst w hb); clear BK482; clear BK486; clear HB; have BK482 := n0_; have BK486 := n1_; have HB := n2_; clear n0_ n1_ n2_; (try clear hb); (try clear hb2); (try clear hk); (try clear hi); have hcz54_0 : w53.cell? ⟨gb482, 0, none⟩ = some (.int .i64 0) := (blk_cell BK482.out 0).trans rfl; have hcz54_1 : w53.cell? ⟨gb482, 1, none⟩ = some (.int .i64 0) := (blk_cell BK482.out 1).trans rfl; have hfz54_0 := blk_frozen BK482.out 0; have hfz54_1 := blk_frozen BK482.out 1))
                      refine bodyPost_ret (results_ct rfl _ _ gb482 23 #[.int .i64 0, .int .i64 0] (0, 0) _ rfl (by (with_reducible repeat (first | refine blk_drewN ?_ _ | refine blk_drew ?_ | refine blk_alloc ?_ _)); refine blk_put (cs := #[.int .i64 0, .int .i64 0]) ?_ 1 _ rfl; (with_reducible repeat (first | refine blk_drewN ?_ _ | refine blk_drew ?_ | refine blk_alloc ?_ _)); refine blk_put (cs := #[.int .i64 0, .int .i64 0]) ?_ 0 _ rfl; (with_reducible repeat (first | refine blk_drewN ?_ _ | refine blk_drew ?_ | refine blk_alloc ?_ _)); exact BK482.out) Tryd.underlying23 rfl (by kernel_rfl)) rfl ?_
                      exact ⟨by first | rfl | (simp [errW_none, errW_some] <;> rfl) | (simp [*, errW_none, errW_some] <;> rfl), fa⟩
                  · rw [if_neg c44] at H
                    have c44b0 : (t492 == 0) = false := beq_eq_false_iff_ne.mpr c44
                    have c44b1 : (t492 != 0) = true := bne_iff_ne.mpr c44
                    simp only [Option.some.injEq, Prod.mk.injEq] at H
                    obtain ⟨rfl, rfl, rfl⟩ := H
                    have hnb55 := NB486_482.out
                    have hnc55 := NB482_486.out
                    have hcz56_0 : wc.cell? ⟨gb486, 0, none⟩ = some (.int .i64 t487) := (blk_cell BK486.out 0).trans rfl
                    have hcz56_1 : wc.cell? ⟨gb486, 1, none⟩ = some (.int .i64 x487001_14) := (blk_cell BK486.out 1).trans rfl
                    have hfz56_0 := blk_frozen BK486.out 0
                    have hfz56_1 := blk_frozen BK486.out 1
                    go_wp2_with (first | ((with_reducible refine gate_callee (f := 33) rfl ?_); refine goesA (some 47) rfl rfl Tryd.func33 (by kernel_rfl) rfl #[.agg #[.int .i64 t487, .int .i64 x487001_14]] rfl ?_; (with_reducible refine (fleuronref01_Text.calls kj14 t487 x487001_14 t491 t492 _ A43.out).mono ?_); rintro e w57 ⟨rfl, hb⟩; refine ⟨_, rfl, ?_⟩; have n0_ := Fa.mk (blk_below (g := gb482) (o := .cells #[.int .i64 0, .int .i64 0] 23 (0, 0)) fa hb); have n1_ := Fa.mk (blk_below (g := gb486) (o := .cells #[.int .i64 t487, .int .i64 x487001_14] 23 (0, 0)) fa hb); have n2_ := Fa.mk (bst w hb); clear BK482; clear BK486; clear HB; have BK482 := n0_; have BK486 := n1_; have HB := n2_; clear n0_ n1_ n2_; (try clear hb); (try clear hb2); (try clear hk); (try clear hi); have hcz58_0 : w57.cell? ⟨gb482, 0, none⟩ = some (.int .i64 0) := (blk_cell BK482.out 0).trans rfl; have hcz58_1 : w57.cell? ⟨gb482, 1, none⟩ = some (.int .i64 0) := (blk_cell BK482.out 1).trans rfl; have hfz58_0 := blk_frozen BK482.out 0; have hfz58_1 := blk_frozen BK482.out 1))
                    refine bodyPost_ret (results_ct rfl _ _ gb482 23 #[.int .i64 0, .int .i64 0] (0, 0) _ rfl (by (with_reducible repeat (first | refine blk_drewN ?_ _ | refine blk_drew ?_ | refine blk_alloc ?_ _)); refine blk_put (cs := #[.int .i64 0, .int .i64 0]) ?_ 1 _ rfl; (with_reducible repeat (first | refine blk_drewN ?_ _ | refine blk_drew ?_ | refine blk_alloc ?_ _)); refine blk_put (cs := #[.int .i64 0, .int .i64 0]) ?_ 0 _ rfl; (with_reducible repeat (first | refine blk_drewN ?_ _ | refine blk_drew ?_ | refine blk_alloc ?_ _)); exact BK482.out) Tryd.underlying23 rfl (by kernel_rfl)) rfl ?_
                    exact ⟨by first | rfl | (simp [errW_none, errW_some] <;> rfl) | (simp [*, errW_none, errW_some] <;> rfl), fa⟩

end Go.Proofs.YtndbdnkpnjibkaaDoor.P
