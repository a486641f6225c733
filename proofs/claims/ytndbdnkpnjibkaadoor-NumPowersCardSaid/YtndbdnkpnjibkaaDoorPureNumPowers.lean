/- The plain law of NumPowers. -/
import Derived.Test.YtndbdnkpnjibkaaDoorRes
import Derived.Test.YtndbdnkpnjibkaaDoorPxfleuronref01Mod
import Derived.Test.YtndbdnkpnjibkaaDoorPxfleuronref01Power
import Derived.Test.YtndbdnkpnjibkaaDoorPxnumDecimal
namespace Go.Proofs.YtndbdnkpnjibkaaDoor.P
open Go.RowKit Go.Proofs.YtndbdnkpnjibkaaDoorW.PrintWords Go.Proofs.YtndbdnkpnjibkaaDoorW.PrintLast Go.Proofs.YtndbdnkpnjibkaaDoorW.PrintMore
set_option linter.unusedVariables false
/-- The remainder that has the divisor's sign. -/
def fmodV (t u : Int) : Int := if u < 0 then -((-t) % (-u)) else t % u
def modV (a b c d : Int) : Int × Int × Int := if (vB a b && vB c d) = true then (if c = 0 then (0, 0, 18) else exr (Rat.divInt (fmodV (a * d) (c * b)) (b * d))) else (0, 0, 2)
theorem fmod_b {t u : Int} (hu : u ≠ 0) : -(u.natAbs : Int) ≤ fmodV t u ∧ fmodV t u ≤ u.natAbs := by
  unfold fmodV
  by_cases h : u < 0
  · rw [if_pos h]
    have m1 := Int.emod_nonneg (-t) (show -u ≠ 0 by omega)
    have m2 := Int.emod_lt_of_pos (-t) (show 0 < -u by omega)
    omega
  · rw [if_neg h]
    have m1 := Int.emod_nonneg t hu
    have m2 := Int.emod_lt_of_pos t (show 0 < u by omega)
    omega
/-- The program's way to it: the machine's remainder, turned where its sign is the other. -/
theorem left_fmod {t u : Int} (hu : u ≠ 0) : fmodV t u = if Int.tmod t u = 0 then Int.tmod t u else if (decide (Int.tmod t u < 0) != decide (u < 0)) = true then Int.tmod t u + u else Int.tmod t u := by
  have e := Int.mul_tdiv_add_tmod t u
  obtain ⟨D, hD⟩ : ∃ D : Int, Int.tdiv t u = D := ⟨_, rfl⟩
  obtain ⟨M, hM⟩ : ∃ M : Int, Int.tmod t u = M := ⟨_, rfl⟩
  have hlt : M.natAbs < u.natAbs := by rw [← hM, Int.natAbs_tmod]; exact Nat.mod_lt _ (by omega)
  rw [hD, hM] at e
  rw [hM]
  unfold fmodV
  have key : ∀ {x y m k : Int}, 0 ≤ m → m < y → x = y * k + m → x % y = m := by
    intro x y m k h0 h1 h2
    rw [h2, Int.add_comm, Int.add_mul_emod_self_left, Int.emod_eq_of_lt h0 h1]
  by_cases hn : u < 0
  · rw [if_pos hn]
    by_cases h0 : M = 0
    · rw [if_pos h0, key (m := 0) (k := D) (by omega) (by omega) (by rw [Int.neg_mul]; omega)]; omega
    rw [if_neg h0]
    by_cases hm : M < 0
    · rw [if_neg (by simp [hm, hn]), key (m := -M) (k := D) (by omega) (by omega) (by rw [Int.neg_mul]; omega)]; omega
    · rw [if_pos (by simp [hn]; omega), key (m := -(M + u)) (k := D - 1) (by omega) (by omega) (by rw [Int.neg_mul, Int.mul_sub]; omega)]; omega
  · rw [if_neg hn]
    by_cases h0 : M = 0
    · rw [if_pos h0, key (m := 0) (k := D) (by omega) (by omega) (by omega)]; omega
    rw [if_neg h0]
    by_cases hm : M < 0
    · rw [if_pos (by simp [hm]; omega), key (m := M + u) (k := D - 1) (by omega) (by omega) (by rw [Int.mul_sub]; omega)]
    · rw [if_neg (by simp; omega), key (m := M) (k := D) (by omega) (by omega) (by omega)]
theorem Mod_ev {a b c d : Int} (ha : I64 a) (hb : I64 b) (hc : I64 c) (hd : I64 d) : Ev (fun k => num_Mod.f k a b c d) (modV a b c d) := by
  unfold num_Mod.f modV
  by_cases hv : (vB a b && vB c d) = true
  rotate_left
  · have hL : Ev (fun k => num_Left.f k a b c d) (0, 0, 2) := by
      unfold num_Left.f
      exact Ev.bind (valid2_ev ha hb hc hd) (Ev.neg hv (Ev.const rfl))
    exact Ev.to (Ev.bind hL (Ev.neg (by show ¬ (2 : Int) = 0; decide) (Ev.const rfl))) (if_neg hv).symm
  refine Ev.to ?_ (if_pos hv).symm
  have hv' := hv
  simp only [Bool.and_eq_true] at hv
  obtain ⟨a1, b1, b2⟩ := vB_b hv.1
  obtain ⟨c1, d1, d2⟩ := vB_b hv.2
  have m1 := mul_small a1 d1
  have m2 := mul_small c1 b1
  have m3 := mul_small b1 d1
  have p3 : 0 < b * d := Int.mul_pos (by omega) (by omega)
  by_cases hz : c = 0
  · have hL : Ev (fun k => num_Left.f k a b c d) (0, 0, 18) := by
      unfold num_Left.f
      exact Ev.bind (valid2_ev ha hb hc hd) (Ev.pos hv' (Ev.pos hz (Ev.const rfl)))
    exact Ev.to (Ev.bind hL (Ev.neg (by show ¬ (18 : Int) = 0; decide) (Ev.const rfl))) (if_pos hz).symm
  refine Ev.to ?_ (if_neg hz).symm
  have hu : c * b ≠ 0 := Int.mul_ne_zero hz (by omega)
  have hb' := fmod_b (t := a * d) hu
  have hL : Ev (fun k => num_Left.f k a b c d) (fmodV (a * d) (c * b), b * d, 0) := by
    unfold num_Left.f
    refine Ev.bind (valid2_ev ha hb hc hd) (Ev.pos hv' (Ev.neg hz ?_))
    rw [w64_id (x := a * d) (by omega) (by omega), w64_id (x := c * b) (by omega) (by omega), w64_id (x := b * d) (by omega) (by omega)]
    refine Ev.neg hu ?_
    have hf := left_fmod (t := a * d) hu
    by_cases h0 : Int.tmod (a * d) (c * b) = 0
    · rw [if_pos h0] at hf; rw [hf]; exact Ev.pos h0 (Ev.const rfl)
    rw [if_neg h0] at hf
    refine Ev.neg h0 ?_
    by_cases hs : (decide (Int.tmod (a * d) (c * b) < 0) != decide (c * b < 0)) = true
    · rw [if_pos hs] at hf; rw [← hf, w64_id (by omega) (by omega)]; exact Ev.pos hs (Ev.const rfl)
    · rw [if_neg hs] at hf; rw [hf]; exact Ev.neg hs (Ev.const rfl)
  refine Ev.bind hL (Ev.pos rfl (Ev.bind (Exact_ev (p := fmodV (a * d) (c * b)) (q := b * d) (by unfold I64; omega) (by unfold I64; omega) (by omega)) (Ev.const rfl)))
theorem RMod_ev {a b c d : Int} (ha : I64 a) (hb : I64 b) (hc : I64 c) (hd : I64 d) : Ev (fun k => fleuronref01_Mod.f k a b c d) (modV a b c d) := by
  unfold fleuronref01_Mod.f modV
  refine Ev.bind (both_ev ha hb hc hd) ?_
  by_cases hv : (vB a b && vB c d) = true
  rotate_left
  · exact Ev.to (Ev.neg hv (Ev.const rfl)) (if_neg hv).symm
  refine Ev.to (Ev.pos hv ?_) (if_pos hv).symm
  simp only [Bool.and_eq_true] at hv
  obtain ⟨a1, b1, b2⟩ := vB_b hv.1
  obtain ⟨c1, d1, d2⟩ := vB_b hv.2
  have m1 := mul_small a1 d1
  have m2 := mul_small c1 b1
  have m3 := mul_small b1 d1
  have p3 : 0 < b * d := Int.mul_pos (by omega) (by omega)
  by_cases hz : c = 0
  · exact Ev.to (Ev.pos hz (Ev.const rfl)) (if_pos hz).symm
  refine Ev.to (Ev.neg hz ?_) (if_neg hz).symm
  have hu : c * b ≠ 0 := Int.mul_ne_zero hz (by omega)
  have hb' := fmod_b (t := a * d) hu
  rw [w64_id (x := a * d) (by omega) (by omega), w64_id (x := c * b) (by omega) (by omega), w64_id (x := b * d) (by omega) (by omega), w64_id (x := -(a * d)) (by omega) (by omega), w64_id (x := -(c * b)) (by omega) (by omega)]
  unfold fmodV at hb' ⊢
  by_cases hn : c * b < 0
  · rw [if_pos hn] at hb' ⊢
    refine Ev.pos hn (Ev.bind (Ev.const (down_eq (p := -(a * d)) (q := -(c * b)) (by unfold I64; omega) (by omega) (by omega))) ?_)
    show Ev (fun k => Option.bind (fleuronref01_Make.f k (wrap64 (-(-(a * d) % -(c * b)))) (b * d)) _) _
    rw [w64_id (by omega) (by omega)]
    refine Ev.bind (RMake_ev (q := b * d) (by unfold I64; omega) (by unfold I64; omega)) (Ev.const ?_)
    rw [if_neg (by omega)]
  · rw [if_neg hn] at hb' ⊢
    refine Ev.neg hn (Ev.bind (Ev.const (down_eq (p := a * d) (q := c * b) (by unfold I64; omega) (by omega) (by omega))) ?_)
    refine Ev.bind (RMake_ev (p := (a * d) % (c * b)) (q := b * d) (by unfold I64; omega) (by unfold I64; omega)) (Ev.const ?_)
    rw [if_neg (by omega)]
/-- The power by so many products, each of which may fall. -/
def powV (p q : Int) : Nat → Int → Int → Int × Int × Int
  | 0, x, y => (x, y, 0)
  | n + 1, x, y => if (doV ⟨#[42]⟩ false x y p q).2.2 = 0 then powV p q n (doV ⟨#[42]⟩ false x y p q).1 (doV ⟨#[42]⟩ false x y p q).2.1 else (0, 0, (doV ⟨#[42]⟩ false x y p q).2.2)
theorem exr_b (r : Rat) : I64 (exr r).1 ∧ I64 (exr r).2.1 := by
  unfold exr
  by_cases h : small r
  · rw [if_pos h]; unfold small at h; unfold I64; dsimp only; omega
  · rw [if_neg h]; unfold I64; dsimp only; omega
theorem doV_b (op : ByteArray) (a b c d : Int) : I64 (doV op false a b c d).1 ∧ I64 (doV op false a b c d).2.1 := by
  have z : I64 0 ∧ I64 0 := by unfold I64; omega
  have o : ∀ r, outv false r = exr r := fun r => rfl
  unfold doV
  simp only [o]
  repeat' split
  all_goals first | exact exr_b _ | exact z
theorem pow_loop {p q : Int} (hp : I64 p) (hq : I64 q) (N : Int) (hN0 : 0 ≤ N) (hN : N ≤ 64) : ∀ (n : Nat) (i x y : Int), i + n = N → 0 ≤ i → I64 x → I64 y → Ev (fun k => num_Power.l0 k N i p q x y) (powV p q n x y) := by
  intro n
  induction n with
  | zero =>
    intro i x y h h0 hx hy
    refine Ev.succ ?_
    simp only [num_Power.l0]
    exact Ev.neg (by omega) (Ev.const rfl)
  | succ n ih =>
    intro i x y h h0 hx hy
    refine Ev.succ ?_
    simp only [num_Power.l0]
    refine Ev.pos (by omega) (Ev.bind (Mul_ev hx hy hp hq) ?_)
    rw [w64_id (x := i + 1) (by omega) (by omega)]
    unfold powV
    have hb := doV_b ⟨#[42]⟩ x y p q
    by_cases hz : (doV ⟨#[42]⟩ false x y p q).2.2 = 0
    · exact Ev.to (Ev.pos hz (ih (i + 1) _ _ (by omega) (by omega) hb.1 hb.2)) (if_pos hz).symm
    · exact Ev.to (Ev.neg hz (Ev.const rfl)) (if_neg hz).symm
theorem rpow_loop {p q : Int} (hp : I64 p) (hq : I64 q) (N : Int) (hN0 : 0 ≤ N) (hN : N ≤ 64) : ∀ (n : Nat) (i x y : Int), i + n = N → 0 ≤ i → I64 x → I64 y → Ev (fun k => fleuronref01_Power.l0 k N i p q x y) (powV p q n x y) := by
  intro n
  induction n with
  | zero =>
    intro i x y h h0 hx hy
    refine Ev.succ ?_
    simp only [fleuronref01_Power.l0]
    exact Ev.neg (by omega) (Ev.const rfl)
  | succ n ih =>
    intro i x y h h0 hx hy
    refine Ev.succ ?_
    simp only [fleuronref01_Power.l0]
    refine Ev.pos (by omega) (Ev.bind (RMul_ev hx hy hp hq) ?_)
    rw [w64_id (x := i + 1) (by omega) (by omega)]
    unfold powV
    have hb := doV_b ⟨#[42]⟩ x y p q
    by_cases hz : (doV ⟨#[42]⟩ false x y p q).2.2 = 0
    · exact Ev.to (Ev.pos hz (ih (i + 1) _ _ (by omega) (by omega) hb.1 hb.2)) (if_pos hz).symm
    · exact Ev.to (Ev.neg hz (Ev.const rfl)) (if_neg hz).symm
def powerV (p q n : Int) : Int × Int × Int :=
  if vB p q = true ∧ -64 ≤ n ∧ n ≤ 64 then
    if n < 0 then (if p = 0 then (0, 0, 18) else powV (exr (Rat.divInt q p)).1 (exr (Rat.divInt q p)).2.1 (-n).toNat 1 1)
    else powV p q n.toNat 1 1
  else (0, 0, 2)
theorem I64_1 : I64 1 := by unfold I64; omega
theorem Power_ev {p q n : Int} (hp : I64 p) (hq : I64 q) (hn : I64 n) : Ev (fun k => num_Power.f k p q n) (powerV p q n) := by
  unfold num_Power.f
  refine Ev.bind (Valid_ev hp hq) ?_
  have bad : ¬ (vB p q = true ∧ -64 ≤ n ∧ n ≤ 64) → Ev (fun k => num_Power.j0 k n true p q) (powerV p q n) := by
    intro h
    refine Ev.succ ?_
    simp only [num_Power.j0]
    exact Ev.to (Ev.pos trivial (Ev.const rfl)) (if_neg h).symm
  by_cases hv : vB p q = true
  rotate_left
  · exact Ev.neg hv (bad (fun h => hv h.1))
  refine Ev.pos hv ?_
  by_cases h1 : n < -64
  · exact Ev.pos h1 (bad (by omega))
  refine Ev.neg h1 ?_
  by_cases h2 : n > 64
  · rw [decide_eq_true h2]; exact bad (by omega)
  rw [decide_eq_false h2]
  refine Ev.succ ?_
  simp only [num_Power.j0]
  refine Ev.neg (by decide) ?_
  refine Ev.to ?_ (if_pos ⟨hv, by omega, by omega⟩).symm
  by_cases h3 : n < 0
  · refine Ev.to (Ev.pos h3 ?_) (if_pos h3).symm
    by_cases h4 : p = 0
    · exact Ev.to (Ev.pos h4 (Ev.const rfl)) (if_pos h4).symm
    refine Ev.to (Ev.neg h4 (Ev.bind (Exact_ev hq hp h4) ?_)) (if_neg h4).symm
    have hb := exr_b (Rat.divInt q p)
    refine Ev.succ ?_
    simp only [num_Power.j1]
    rw [w64_id (x := -n) (by omega) (by omega)]
    exact pow_loop hb.1 hb.2 (-n) (by omega) (by omega) _ 0 1 1 (by omega) (by omega) I64_1 I64_1
  · refine Ev.to (Ev.neg h3 ?_) (if_neg h3).symm
    refine Ev.succ ?_
    simp only [num_Power.j1]
    exact pow_loop hp hq n (by omega) (by omega) _ 0 1 1 (by omega) (by omega) I64_1 I64_1
theorem RPower_ev {p q n : Int} (hp : I64 p) (hq : I64 q) (hn : I64 n) : Ev (fun k => fleuronref01_Power.f k p q n) (powerV p q n) := by
  unfold fleuronref01_Power.f
  refine Ev.bind (RValid_ev hp hq) ?_
  have bad : ¬ (vB p q = true ∧ -64 ≤ n ∧ n ≤ 64) → Ev (fun k => fleuronref01_Power.j0 k n true p q) (powerV p q n) := by
    intro h
    refine Ev.succ ?_
    simp only [fleuronref01_Power.j0]
    exact Ev.to (Ev.pos trivial (Ev.const rfl)) (if_neg h).symm
  by_cases hv : vB p q = true
  rotate_left
  · exact Ev.neg hv (bad (fun h => hv h.1))
  refine Ev.pos hv ?_
  by_cases h1 : n < -64
  · exact Ev.pos h1 (bad (by omega))
  refine Ev.neg h1 ?_
  by_cases h2 : n > 64
  · rw [decide_eq_true h2]; exact bad (by omega)
  rw [decide_eq_false h2]
  refine Ev.succ ?_
  simp only [fleuronref01_Power.j0]
  refine Ev.neg (by decide) ?_
  refine Ev.to ?_ (if_pos ⟨hv, by omega, by omega⟩).symm
  have j2 : ∀ {N x y : Int}, 0 ≤ N → N ≤ 64 → I64 x → I64 y → Ev (fun k => fleuronref01_Power.j2 k N x y) (powV x y N.toNat 1 1) := by
    intro N x y h0 h5 hx hy
    refine Ev.succ ?_
    simp only [fleuronref01_Power.j2]
    exact rpow_loop hx hy N h0 h5 _ 0 1 1 (by omega) (by omega) I64_1 I64_1
  by_cases h4 : p = 0
  · refine Ev.pos h4 (Ev.succ ?_)
    simp only [fleuronref01_Power.j1]
    by_cases h3 : n < 0
    · exact Ev.to (Ev.to (Ev.pos (decide_eq_true h3) (Ev.const rfl)) (if_pos h4).symm) (if_pos h3).symm
    · exact Ev.to (Ev.neg (by rw [decide_eq_false h3]; decide) (Ev.neg h3 (j2 (by omega) (by omega) hp hq))) (if_neg h3).symm
  · refine Ev.neg h4 (Ev.succ ?_)
    simp only [fleuronref01_Power.j1]
    refine Ev.neg (by decide) ?_
    by_cases h3 : n < 0
    · refine Ev.to (Ev.to (Ev.pos h3 (Ev.bind (RMake_ev hq hp) ?_)) (if_neg h4).symm) (if_pos h3).symm
      have hb := exr_b (Rat.divInt q p)
      rw [if_neg h4, w64_id (x := -n) (by omega) (by omega)]
      exact j2 (by omega) (by omega) hb.1 hb.2
    · exact Ev.to (Ev.neg h3 (j2 (by omega) (by omega) hp hq)) (if_neg h3).symm
theorem NumPowers_pure (a b c d n : Int) (ha : (Lit.int .i64 a).wf = true) (hb : (Lit.int .i64 b).wf = true) (hc : (Lit.int .i64 c).wf = true) (hd : (Lit.int .i64 d).wf = true) (hn : (Lit.int .i64 n).wf = true) : ∃ k, fleuronlaw01_NumPowers.f k a b c d n = some true := by
  have ia := I64_of ha
  have ib := I64_of hb
  have ic := I64_of hc
  have id := I64_of hd
  have im := I64_of hn
  refine Ev.here ?_
  unfold fleuronlaw01_NumPowers.f
  refine Ev.bind (Mod_ev ia ib ic id) (Ev.bind (RMod_ev ia ib ic id) (Ev.bind (Power_ev ia ib im) (Ev.bind (RPower_ev ia ib im) ?_)))
  exact Ev.pos (by simp) (Ev.pos rfl (Ev.pos (by simp) (Ev.pos rfl (Ev.bind awake_ev (Ev.const rfl)))))
end Go.Proofs.YtndbdnkpnjibkaaDoor.P
