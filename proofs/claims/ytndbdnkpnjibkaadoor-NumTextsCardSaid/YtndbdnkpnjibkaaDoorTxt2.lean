/- Text, Parse and Decimal: what they come to, for the program and for the plain twin. -/
import Derived.Test.YtndbdnkpnjibkaaDoorTxt
namespace Go.Proofs.YtndbdnkpnjibkaaDoor.P
open Go.RowKit Go.Proofs.YtndbdnkpnjibkaaDoorW.PrintWords Go.Proofs.YtndbdnkpnjibkaaDoorW.PrintLast Go.Proofs.YtndbdnkpnjibkaaDoorW.PrintMore
set_option linter.unusedVariables false

theorem ba_append (a b : List UInt8) : (⟨a.toArray⟩ : ByteArray) ++ ⟨b.toArray⟩ = ⟨(a ++ b).toArray⟩ := by
  apply ByteArray.ext
  apply Array.toList_inj.mp
  rw [Joins.data_append]
theorem ba_cons (c : UInt8) (b : List UInt8) : (⟨#[c]⟩ : ByteArray) ++ ⟨b.toArray⟩ = ⟨(c :: b).toArray⟩ := ba_append [c] b
theorem ba_size (a : List UInt8) : (⟨a.toArray⟩ : ByteArray).size = a.length := by
  show a.toArray.size = _
  simp
theorem FI_eq {n : Int} (h : I64 n) : strconv_FormatInt.f n 10 = some ⟨(Lib.itoa n).toArray⟩ := by
  unfold strconv_FormatInt.f
  rw [if_pos ⟨rfl, h.1, h.2⟩]
/-- A number as text. -/
def textL (p q : Int) : List UInt8 := Lib.itoa p ++ (if q = 1 then [] else 47 :: Lib.itoa q)
def textV (p q : Int) : ByteArray × Int := if vB p q = true then (⟨(textL p q).toArray⟩, 0) else (⟨#[]⟩, 2)
theorem Text_ev {p q : Int} (hp : I64 p) (hq : I64 q) : Ev (fun k => num_Text.f k p q) (textV p q) := by
  unfold num_Text.f textV
  refine Ev.bind (Valid_ev hp hq) ?_
  by_cases hv : vB p q = true
  rotate_left
  · exact Ev.to (Ev.neg hv (Ev.const rfl)) (if_neg hv).symm
  obtain ⟨p1, q1, q2⟩ := vB_b hv
  have l1 := itoa_len p1
  have l2 := itoa_len q1
  refine Ev.to (Ev.pos hv (Ev.bind (Ev.const (FI_eq hp)) ?_)) (if_pos hv).symm
  unfold textL
  by_cases h1 : q = 1
  · refine Ev.pos h1 (Ev.const ?_); rw [if_pos h1, List.append_nil]
  refine Ev.neg h1 (Ev.bind (Ev.const (FI_eq hq)) ?_)
  rw [if_neg h1, ba_cons, ba_append, ba_size, ba_size, ba_size]
  exact Ev.pos (by omega) (Ev.pos (by simp only [List.length_cons]; omega) (Ev.const rfl))
theorem rdig_eq {n : Nat} (h : n < 18446744073709551616) : fleuronref01_digits.f (n : Int) = some ⟨(Lib.decDigits n).toArray⟩ := by
  unfold fleuronref01_digits.f
  rw [if_pos (by omega), Int.toNat_natCast]
theorem RText_ev {p q : Int} (hp : I64 p) (hq : I64 q) : Ev (fun k => fleuronref01_Text.f k p q) (textV p q) := by
  unfold fleuronref01_Text.f textV
  refine Ev.bind (RValid_ev hp hq) ?_
  by_cases hv : vB p q = true
  rotate_left
  · exact Ev.to (Ev.neg hv (Ev.const rfl)) (if_neg hv).symm
  obtain ⟨p1, q1, q2⟩ := vB_b hv
  have l1 := dd_len10 (u := p.natAbs) (by omega)
  have l2 := dd_len10 (u := q.natAbs) (by omega)
  have eq : Lib.itoa q = Lib.decDigits q.natAbs := by
    unfold Lib.itoa; rw [if_neg (by omega), show q.toNat = q.natAbs by omega]
  refine Ev.to (Ev.pos hv (Ev.bind (Ev.const (rsize_eq hp)) (Ev.bind (Ev.const (rdig_eq (by omega))) ?_))) (if_pos hv).symm
  have dq : fleuronref01_digits.f (IntKind.u64.wrap q) = some ⟨(Lib.decDigits q.natAbs).toArray⟩ := by
    rw [u64_id (by omega) (by omega)]
    have := rdig_eq (n := q.natAbs) (by omega)
    rw [show (q.natAbs : Int) = q by omega] at this
    exact this
  unfold textL
  by_cases hn : p < 0
  · have ep : Lib.itoa p = 45 :: Lib.decDigits p.natAbs := by unfold Lib.itoa; rw [if_pos hn]
    refine Ev.pos hn ?_
    rw [ep, ba_cons, ba_size, ba_size]
    refine Ev.pos (by omega) ?_
    by_cases h1 : q = 1
    · refine Ev.pos h1 (Ev.const ?_); rw [if_pos h1, List.append_nil]
    refine Ev.neg h1 (Ev.bind (Ev.const dq) ?_)
    rw [if_neg h1, ba_cons, ba_append, ba_size, ba_size, eq]
    exact Ev.pos (by omega) (Ev.pos (by simp only [List.length_cons]; omega) (Ev.const rfl))
  · have ep : Lib.itoa p = Lib.decDigits p.natAbs := by unfold Lib.itoa; rw [if_neg hn, show p.toNat = p.natAbs by omega]
    refine Ev.neg hn ?_
    rw [ep]
    by_cases h1 : q = 1
    · refine Ev.pos h1 (Ev.const ?_); rw [if_pos h1, List.append_nil]
    refine Ev.neg h1 (Ev.bind (Ev.const dq) ?_)
    rw [if_neg h1, ba_cons, ba_append, ba_size, ba_size, ba_size, eq]
    exact Ev.pos (by omega) (Ev.pos (by simp only [List.length_cons]; omega) (Ev.const rfl))

/-! Parse. -/
def good (l : List UInt8) (p q : Int) : Prop := vB p q = true ∧ textL p q = l
theorem parseVal_I64 (l : List UInt8) : I64 (parseVal l).1 := by
  unfold parseVal I64
  cases hE : Lib.parseIntB 64 l with
  | ok v =>
    have := Lib.parseIntB_bounds hE
    dsimp only
    simp only [Nat.add_one_sub_one] at this
    omega
  | range =>
    dsimp only
    cases l with
    | nil => simp [Lib.intSat]
    | cons c r =>
      by_cases h45 : c = 45
      · subst h45; rw [Lib.intSat_minus]; omega
      · rw [Lib.intSat_other 64 c r (by intro e; exact h45 (UInt8.toNat_inj.mp e))]; omega
  | _ => dsimp only; omega
theorem cut_good {l : List UInt8} {p q : Int} (h : good l p q) : (Lib.cut l [47]).1 = Lib.itoa p ∧ ((Lib.cut l [47]).2.2 = false ∧ q = 1 ∨ (Lib.cut l [47]).2.2 = true ∧ (Lib.cut l [47]).2.1 = Lib.itoa q) := by
  obtain ⟨_, rfl⟩ := h
  unfold textL
  by_cases h1 : q = 1
  · rw [if_pos h1, List.append_nil, cut_no _ _ (itoa_no (Or.inr rfl))]
    exact ⟨rfl, Or.inl ⟨rfl, h1⟩⟩
  · rw [if_neg h1, cut_at _ _ _ (itoa_no (Or.inr rfl))]
    exact ⟨rfl, Or.inr ⟨rfl, rfl⟩⟩
theorem pv_one : parseVal [49] = (1, true) := by decide +kernel
/-- The program's parse, told on the row of bytes. -/
def parseP (l : List UInt8) : Int := (parseVal (Lib.cut l [47]).1).1
def parseQ (l : List UInt8) : Int := (parseVal (if (Lib.cut l [47]).2.2 = true then (Lib.cut l [47]).2.1 else [49])).1
open Classical in
noncomputable def parseV (l : List UInt8) : Int × Int × Int := if good l (parseP l) (parseQ l) then (parseP l, parseQ l, 0) else (0, 0, 30)
theorem good_parse {l : List UInt8} {p q : Int} (h : good l p q) : parseVal (Lib.cut l [47]).1 = (p, true) ∧ parseVal (if (Lib.cut l [47]).2.2 = true then (Lib.cut l [47]).2.1 else [49]) = (q, true) := by
  obtain ⟨p1, q1, q2⟩ := vB_b h.1
  obtain ⟨c1, c2⟩ := cut_good h
  refine ⟨by rw [c1]; exact parseVal_itoa p1, ?_⟩
  rcases c2 with ⟨c2, rfl⟩ | ⟨c2, c3⟩
  · rw [c2, if_neg (by decide)]; exact pv_one
  · rw [c2, if_pos rfl, c3]; exact parseVal_itoa q1
theorem good_is {l : List UInt8} {p q : Int} (h : good l p q) : p = parseP l ∧ q = parseQ l := by
  obtain ⟨h1, h2⟩ := good_parse h
  unfold parseP parseQ
  rw [h1, h2]; exact ⟨rfl, rfl⟩
theorem parseV_good {l : List UInt8} {p q : Int} (h : good l p q) : parseV l = (p, q, 0) := by
  obtain ⟨rfl, rfl⟩ := good_is h
  exact if_pos h
theorem parseV_bad {l : List UInt8} (h : ∀ p q, ¬ good l p q) : parseV l = (0, 0, 30) := if_neg (h _ _)
theorem Parse_ev {s : ByteArray} (hs : s.size ≤ 1000000) : Ev (fun k => num_Parse.f k s) (parseV s.data.toList) := by
  unfold num_Parse.f
  have hc : strings_Cut.f s ⟨#[47]⟩ = some (⟨(Lib.cut s.data.toList [47]).1.toArray⟩, ⟨(Lib.cut s.data.toList [47]).2.1.toArray⟩, (Lib.cut s.data.toList [47]).2.2) := by
    unfold strings_Cut.f
    rw [if_pos ⟨rfl, by omega⟩]
  refine Ev.bind (Ev.const hc) ?_
  simp only
  obtain ⟨pv, hpv⟩ : ∃ x, parseVal (Lib.cut s.data.toList [47]).1 = x := ⟨_, rfl⟩
  obtain ⟨qv, hqv⟩ : ∃ x, parseVal (if (Lib.cut s.data.toList [47]).2.2 = true then (Lib.cut s.data.toList [47]).2.1 else [49]) = x := ⟨_, rfl⟩
  have ip : I64 pv.1 := by rw [← hpv]; exact parseVal_I64 _
  have iq : I64 qv.1 := by rw [← hqv]; exact parseVal_I64 _
  rw [hpv, hqv]
  refine Ev.bind (Text_ev ip iq) (Ev.const ?_)
  congr 1
  by_cases hg : good s.data.toList pv.1 qv.1
  · obtain ⟨g1, g2⟩ := good_parse hg
    rw [parseV_good hg]
    unfold textV
    rw [if_pos hg.1, if_pos ⟨by rw [← hpv, g1], by rw [← hqv, g2], rfl, hg.2⟩]
  · have : parseV s.data.toList = (0, 0, 30) := by
      unfold parseV parseP parseQ
      rw [hpv, hqv, if_neg hg]
    rw [this, if_neg]
    rintro ⟨h1, h2, h3, h4⟩
    apply hg
    unfold textV at h3 h4
    by_cases hv : vB pv.1 qv.1 = true
    · rw [if_pos hv] at h4; exact ⟨hv, h4⟩
    · rw [if_neg hv] at h3; exact absurd h3 (by decide)
/-- The plain twin's parse of a row of digits. -/
def wholeV (l : List UInt8) (m : Nat) : Int := if digs l 1 m = true then digVal l else -1
theorem wholeV_dig {l : List UInt8} {m : Nat} (h : isDig l) (h1 : 1 ≤ l.length) (h2 : l.length ≤ m) : wholeV l m = (natVal l : Int) := by
  unfold wholeV digs
  rw [decide_eq_true h1, decide_eq_true h2, if_pos, digVal_of h]
  simp only [Bool.true_and, List.all_eq_true]
  intro c hc
  have := h c hc
  simp; omega
theorem wholeV_b (l : List UInt8) {m : Nat} (hm : m ≤ 10) : -1 ≤ wholeV l m ∧ wholeV l m < 10000000000 := by
  unfold wholeV
  by_cases h : digs l 1 m = true
  · rw [if_pos h]
    obtain ⟨h1, h2, h3⟩ := digs_all h
    have e := digVal_nat l 0 h3
    obtain ⟨_, i2⟩ := parseUintM_digs l 0 0 h3 (by decide) (by omega)
    have hp : (10 : Nat) ^ (0 + l.length) ≤ 10 ^ 10 := Nat.pow_le_pow_right (by decide) (by omega)
    unfold digVal
    rw [show (0 : Int) = ((0 : Nat) : Int) from rfl, e]
    omega
  · rw [if_neg h]; omega
def rdrop (x : List UInt8) : List UInt8 := if x.head? = some 45 then x.drop 1 else x
def rsgn (x : List UInt8) (n : Int) : Int := if x.head? = some 45 then -n else n
def rQ (l : List UInt8) : Int := if (Lib.cut l [47]).2.2 = true then wholeV (Lib.cut l [47]).2.1 10 else 1
def rP0 (l : List UInt8) : Int := wholeV (rdrop (Lib.cut l [47]).1) 10
def rP (l : List UInt8) : Int := rsgn (Lib.cut l [47]).1 (rP0 l)
theorem good_rparse {l : List UInt8} {p q : Int} (h : good l p q) : 0 ≤ rP0 l ∧ rP l = p ∧ rQ l = q := by
  obtain ⟨p1, q1, q2⟩ := vB_b h.1
  obtain ⟨c1, c2⟩ := cut_good h
  have hw : ∀ u : Nat, u < 10000000000 → wholeV (Lib.decDigits u) 10 = u := fun u hu => by
    rw [wholeV_dig (dd_dig u) (dd_pos u) (dd_len10 hu), dd_val]
  have hQ : rQ l = q := by
    unfold rQ
    rcases c2 with ⟨c2, rfl⟩ | ⟨c2, c3⟩
    · rw [c2, if_neg (by decide)]
    · rw [c2, if_pos rfl, c3]
      unfold Lib.itoa
      rw [if_neg (by omega), hw _ (by omega)]; omega
  have hP : 0 ≤ rP0 l ∧ rP l = p := by
    unfold rP rP0 rdrop rsgn
    rw [c1]
    unfold Lib.itoa
    by_cases hn : p < 0
    · rw [if_pos hn, List.head?_cons, if_pos rfl, if_pos rfl, List.drop_one, List.tail_cons, hw _ (by omega)]; omega
    · have hh : (Lib.decDigits p.toNat).head? ≠ some 45 := by
        intro e
        have := dd_dig p.toNat 45 (List.mem_of_mem_head? e)
        revert this; decide
      rw [if_neg hn, if_neg hh, if_neg hh, hw _ (by omega)]; omega
  exact ⟨hP.1, hP.2, hQ⟩
theorem RParse_ev {s : ByteArray} (hs : s.size ≤ 1000000) : Ev (fun k => fleuronref01_Parse.f k s) (parseV s.data.toList) := by
  have hlen : s.data.toList.length = s.size := Array.length_toList
  have hsz1 : (Lib.cut s.data.toList [47]).1.length ≤ s.size := by
    unfold Lib.cut; split
    · rw [← hlen]; simp; omega
    · rw [← hlen]; exact Nat.le_refl _
  have hsz2 : (Lib.cut s.data.toList [47]).2.1.length ≤ s.size := by
    unfold Lib.cut; split
    · rw [← hlen]; simp
    · simp
  unfold fleuronref01_Parse.f
  refine Ev.bind (rcut_ev 47 hs) ?_
  obtain ⟨x, hx⟩ : ∃ x, (Lib.cut s.data.toList [47]).1 = x := ⟨_, rfl⟩
  obtain ⟨y, hy⟩ : ∃ y, (Lib.cut s.data.toList [47]).2.1 = y := ⟨_, rfl⟩
  obtain ⟨b, hb⟩ : ∃ b, (Lib.cut s.data.toList [47]).2.2 = b := ⟨_, rfl⟩
  rw [hx] at hsz1
  rw [hy] at hsz2
  rw [hx, hy, hb]
  show Ev (fun k => if ((⟨x.toArray⟩ : ByteArray).size : Int) > 0 then _ else _) _
  have W : ∀ (l : List UInt8) (n : Nat), n ≤ 10 → l.length ≤ 1000000 → Ev (fun k => fleuronref01_whole.f k ⟨l.toArray⟩ (n : Int)) (wholeV l n) := fun l n hn hl => by
    have := rwhole_ev (s := ⟨l.toArray⟩) hn (by rw [ba_size]; exact hl)
    exact this
  have fin : ∀ (below : Bool) (x' : List UInt8) (p0 q : Int), wholeV x' 10 = p0 → (if b = true then wholeV y 10 else 1) = q → x'.length ≤ 1000000 →
      Ev (fun k => fleuronref01_Parse.j1 k s ⟨x'.toArray⟩ ⟨y.toArray⟩ b below 0 1) (if p0 < 0 then (0, 0, 30) else if vB (if below = true then -p0 else p0) q = true ∧ textL (if below = true then -p0 else p0) q = s.data.toList then ((if below = true then -p0 else p0), q, 0) else (0, 0, 30)) := by
    intro below x' p0 q h1 h2 h3
    have bp := wholeV_b x' (m := 10) (by omega)
    rw [h1] at bp
    have bq : -1 ≤ q ∧ q < 10000000000 := by
      rw [← h2]; split
      · exact wholeV_b y (by omega)
      · omega
    have j2 : Ev (fun k => fleuronref01_Parse.j2 k s below p0 q) (if p0 < 0 then (0, 0, 30) else if vB (if below = true then -p0 else p0) q = true ∧ textL (if below = true then -p0 else p0) q = s.data.toList then ((if below = true then -p0 else p0), q, 0) else (0, 0, 30)) := by
      refine Ev.succ ?_
      simp only [fleuronref01_Parse.j2]
      by_cases hn : p0 < 0
      · exact Ev.to (Ev.pos hn (Ev.const rfl)) (if_pos hn).symm
      refine Ev.to (Ev.neg hn ?_) (if_neg hn).symm
      have last : ∀ p : Int, I64 p → Ev (fun k => (fleuronref01_Text.f k p q).bind fun bt489 => (if bt489.2 = 0 then (if bt489.1.toList = s.toList then (some (p, q, (0 : Int))) else (some (0, 0, 30))) else (some (0, 0, 30)))) (if vB p q = true ∧ textL p q = s.data.toList then (p, q, 0) else (0, 0, 30)) := by
        intro p ip
        refine Ev.bind (RText_ev ip (by unfold I64; omega)) ?_
        unfold textV
        by_cases hv : vB p q = true
        · rw [if_pos hv]
          refine Ev.pos rfl ?_
          by_cases ht : textL p q = s.data.toList
          · refine Ev.to (Ev.pos ?_ (Ev.const rfl)) (if_pos ⟨hv, ht⟩).symm
            rw [tl_data, tl_data]; exact ht
          · refine Ev.to (Ev.neg ?_ (Ev.const rfl)) (if_neg (fun h => ht h.2)).symm
            rw [tl_data, tl_data]; exact ht
        · rw [if_neg hv]
          exact Ev.to (Ev.neg (by show ¬ (2 : Int) = 0; decide) (Ev.const rfl)) (if_neg (fun h => hv h.1)).symm
      by_cases hbl : below = true
      · subst hbl
        refine Ev.pos rfl ?_
        rw [w64_id (x := -p0) (by omega) (by omega), if_pos rfl]
        exact last (-p0) (by unfold I64; omega)
      · refine Ev.neg hbl ?_
        rw [if_neg hbl]
        exact last p0 (by unfold I64; omega)
    refine Ev.succ ?_
    simp only [fleuronref01_Parse.j1]
    refine Ev.bind (W x' 10 (by omega) h3) ?_
    rw [h1]
    by_cases hbb : b = true
    · rw [if_pos hbb] at h2
      refine Ev.pos hbb (Ev.bind (W y 10 (by omega) (by omega)) ?_)
      rw [h2]; exact j2
    · rw [if_neg hbb] at h2
      refine Ev.neg hbb ?_
      rw [← h2] at j2 ⊢; exact j2
  -- what it comes to is the program's parse
  have same : (if rP0 s.data.toList < 0 then (0, 0, 30) else if vB (rP s.data.toList) (rQ s.data.toList) = true ∧ textL (rP s.data.toList) (rQ s.data.toList) = s.data.toList then (rP s.data.toList, rQ s.data.toList, 0) else (0, 0, 30)) = parseV s.data.toList := by
    by_cases hg : ∃ p q, good s.data.toList p q
    · obtain ⟨p, q, hg⟩ := hg
      obtain ⟨g1, g2, g3⟩ := good_rparse hg
      rw [if_neg (by omega), g2, g3, if_pos (show vB p q = true ∧ textL p q = s.data.toList from hg), parseV_good hg]
    · rw [parseV_bad (fun p q h => hg ⟨p, q, h⟩)]
      by_cases h0 : rP0 s.data.toList < 0
      · rw [if_pos h0]
      · rw [if_neg h0, if_neg (fun h : vB (rP s.data.toList) (rQ s.data.toList) = true ∧ textL (rP s.data.toList) (rQ s.data.toList) = s.data.toList => hg ⟨_, _, h⟩)]
  rw [← same]
  unfold rP rQ rP0 rdrop rsgn
  rw [hx, hy, hb]
  rw [ba_size]
  cases x with
  | nil =>
    refine Ev.neg (by simp) (Ev.succ ?_)
    simp only [fleuronref01_Parse.j0]
    refine Ev.neg (by decide) ?_
    exact fin false [] _ _ rfl rfl (by simp)
  | cons c r =>
    refine Ev.pos (by simp) (Ev.pos (by simp) ?_)
    have hbt : bt ⟨(c :: r).toArray⟩ 0 = (c.toNat : Int) := bt_eq (s := ⟨(c :: r).toArray⟩) (i := 0) (by simp)
    rw [hbt]
    by_cases hc : c = 45
    · subst hc
      refine Ev.succ ?_
      simp only [fleuronref01_Parse.j0]
      refine Ev.pos (by decide) (Ev.pos (by rw [ba_size]; simp; omega) ?_)
      have e : (⟨((45 : UInt8) :: r).toArray⟩ : ByteArray).extract 1 (⟨((45 : UInt8) :: r).toArray⟩ : ByteArray).size = ⟨r.toArray⟩ := by
        rw [Lib.extract_eq, List.take_of_length_le (by rw [ba_size]; simp)]; simp
      rw [e]
      exact fin true r _ _ rfl rfl (by simp at hsz1; omega)
    · have hne : ((c.toNat : Int) == 45) = false := by
        rw [beq_eq_false_iff_ne]; intro e; exact hc (UInt8.toNat_inj.mp (by rw [show (45 : UInt8).toNat = 45 from rfl]; omega))
      rw [hne]
      refine Ev.succ ?_
      simp only [fleuronref01_Parse.j0]
      refine Ev.neg (by decide) ?_
      have hh : ¬ (c :: r).head? = some 45 := by rw [List.head?_cons]; intro e; exact hc (Option.some.inj e)
      rw [if_neg hh, if_neg hh]
      exact fin false (c :: r) _ _ rfl rfl (by omega)
end Go.Proofs.YtndbdnkpnjibkaaDoor.P
