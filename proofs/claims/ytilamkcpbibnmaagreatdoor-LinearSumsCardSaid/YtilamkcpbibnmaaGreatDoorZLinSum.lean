import Derived.Test.YtilamkcpbibnmaaGreatDoorZLinAt
import Derived.Test.YtilamkcpbibnmaaGreatDoorZPxfleuronref08names
import Derived.Test.YtilamkcpbibnmaaGreatDoorZPxlinearjoin
namespace Go.Proofs.YtilamkcpbibnmaaGreatDoor.P
open Go.RowKit Go.Proofs.YtilamkcpbibnmaaGreatDoorW.PrintWords Go.Proofs.YtilamkcpbibnmaaGreatDoorW.PrintLast Go.Proofs.YtilamkcpbibnmaaGreatDoorW.PrintMore
set_option linter.unusedVariables false
def cfp (n : ByteArray) (l : LT) : Int × Int := ((findT n l).f1.f0, (findT n l).f1.f1)
def sumL (op : ByteArray) (a b : LT) : List ByteArray → LT → LT × Int
  | [], out => (out, 0)
  | n :: ns, out => let c := doV op true (cfp n a).1 (cfp n a).2 (cfp n b).1 (cfp n b).2; if c.2.2 = 0 then sumL op a b ns (if c.1 = 0 then out else out ++ [⟨n, ⟨c.1, c.2.1⟩⟩]) else ([], c.2.2)
def mrg : LT → LT → List ByteArray
  | [], b => b.map (·.f0)
  | a, [] => a.map (·.f0)
  | t :: ts, s :: ss => if bl t.f0.toList s.f0.toList = true then t.f0 :: mrg ts (s :: ss) else if t.f0.toList = s.f0.toList then t.f0 :: mrg ts ss else s.f0 :: mrg (t :: ts) ss
termination_by a b => a.length + b.length
theorem bytes_ext {x y : ByteArray} (h : x.toList = y.toList) : x = y := by
  rw [tld, tld] at h
  exact WideShapes.bytes_inj h
def asc : List ByteArray → Prop
  | [] => True
  | n :: ns => (∀ m ∈ ns, bl n.toList m.toList = true) ∧ asc ns
theorem asc_uniq : ∀ {l m : List ByteArray}, asc l → asc m → (∀ n, n ∈ l ↔ n ∈ m) → l = m
  | [], [], _, _, _ => rfl
  | [], y :: m, _, _, h => absurd ((h y).mpr List.mem_cons_self) (by simp)
  | x :: l, [], _, _, h => absurd ((h x).mp List.mem_cons_self) (by simp)
  | x :: l, y :: m, h1, h2, h => by
    have exy : x = y := by
      have a := (h x).mp List.mem_cons_self
      have b := (h y).mpr List.mem_cons_self
      rcases List.mem_cons.mp a with e | a
      · exact e
      rcases List.mem_cons.mp b with e | b
      · exact e.symm
      have q1 := h2.1 x a
      have q2 := h1.1 y b
      have := bl_trans q1 q2
      rw [bl_irrefl] at this; cases this
    subst exy
    congr 1
    refine asc_uniq h1.2 h2.2 (fun n => ⟨fun hn => ?_, fun hn => ?_⟩)
    · rcases List.mem_cons.mp ((h n).mp (List.mem_cons_of_mem _ hn)) with e | hm
      · subst e
        have := h1.1 n hn
        rw [bl_irrefl] at this; cases this
      · exact hm
    · rcases List.mem_cons.mp ((h n).mpr (List.mem_cons_of_mem _ hn)) with e | hm
      · subst e
        have := h2.1 n hn
        rw [bl_irrefl] at this; cases this
      · exact hm
theorem asc_names {z : Bool} : ∀ {l : LT} {p : Option (List UInt8)}, risP z p l = true → asc (l.map (·.f0))
  | [], _, _ => trivial
  | t :: ts, p, h => by
    simp only [risP, Bool.and_eq_true] at h
    refine ⟨fun m hm => ?_, asc_names h.2⟩
    obtain ⟨u, hu, rfl⟩ := List.mem_map.mp hm
    exact (ris_lt ts _ h.2).1 _ rfl u hu
theorem mrg_mem : ∀ (a b : LT) (n : ByteArray), n ∈ mrg a b ↔ n ∈ a.map (·.f0) ∨ n ∈ b.map (·.f0)
  | [], b, n => by simp [mrg]
  | t :: ts, [], n => by simp [mrg]
  | t :: ts, s :: ss, n => by
    unfold mrg
    split
    · rw [List.mem_cons, mrg_mem ts (s :: ss) n]
      exact ⟨fun h => h.elim (fun e => .inl (List.mem_cons.mpr (.inl e))) (fun h => h.elim (fun h => .inl (List.mem_cons_of_mem _ h)) .inr), fun h => h.elim (fun h => (List.mem_cons.mp h).elim .inl (fun h => .inr (.inl h))) (fun h => .inr (.inr h))⟩
    · split
      · rename_i h2
        have e := bytes_ext h2
        rw [List.mem_cons, mrg_mem ts ss n]
        exact ⟨fun h => h.elim (fun e => .inl (List.mem_cons.mpr (.inl e))) (fun h => h.elim (fun h => .inl (List.mem_cons_of_mem _ h)) (fun h => .inr (List.mem_cons_of_mem _ h))), fun h => h.elim (fun h => (List.mem_cons.mp h).elim .inl (fun h => .inr (.inl h))) (fun h => (List.mem_cons.mp h).elim (fun x => .inl (x.trans e.symm)) (fun h => .inr (.inr h)))⟩
      · rw [List.mem_cons, mrg_mem (t :: ts) ss n]
        exact ⟨fun h => h.elim (fun e => .inr (List.mem_cons.mpr (.inl e))) (fun h => h.elim .inl (fun h => .inr (List.mem_cons_of_mem _ h))), fun h => h.elim (fun h => .inr (.inl h)) (fun h => (List.mem_cons.mp h).elim .inl (fun h => .inr (.inr h)))⟩
termination_by a b => a.length + b.length
theorem mrg_len : ∀ (a b : LT), (mrg a b).length ≤ a.length + b.length
  | [], b => by simp [mrg]
  | t :: ts, [] => by simp [mrg]
  | t :: ts, s :: ss => by
    have h1 := mrg_len ts (s :: ss)
    have h2 := mrg_len ts ss
    have h3 := mrg_len (t :: ts) ss
    simp only [List.length_cons] at h1 h2 h3
    unfold mrg
    split
    · simp only [List.length_cons]; omega
    · split
      · simp only [List.length_cons]; omega
      · simp only [List.length_cons]; omega
termination_by a b => a.length + b.length
theorem mrg_asc : ∀ (a b : LT), asc (a.map (·.f0)) → asc (b.map (·.f0)) → asc (mrg a b)
  | [], b, _, h => by simpa [mrg] using h
  | t :: ts, [], h, _ => by simpa [mrg] using h
  | t :: ts, s :: ss, h1, h2 => by
    unfold mrg
    split
    · rename_i hlt
      refine ⟨fun m hm => ?_, mrg_asc ts (s :: ss) h1.2 h2⟩
      rcases (mrg_mem _ _ _).mp hm with hm | hm
      · exact h1.1 m hm
      · rcases List.mem_cons.mp hm with e | hm
        · subst e; exact hlt
        · exact bl_trans hlt (h2.1 m hm)
    · rename_i hlt
      split
      · rename_i he
        refine ⟨fun m hm => ?_, mrg_asc ts ss h1.2 h2.2⟩
        rcases (mrg_mem _ _ _).mp hm with hm | hm
        · exact h1.1 m hm
        · have := h2.1 m hm; rw [← he] at this; exact this
      · rename_i he
        have hgt := bl_not (by simpa using hlt) he
        refine ⟨fun m hm => ?_, mrg_asc (t :: ts) ss h1 h2.2⟩
        rcases (mrg_mem _ _ _).mp hm with hm | hm
        · rcases List.mem_cons.mp hm with e | hm
          · subst e; exact hgt
          · exact bl_trans hgt (h1.1 m hm)
        · exact h2.1 m hm
termination_by a b => a.length + b.length
theorem nidx_spec (n : ByteArray) : ∀ (l : List ByteArray), asc l → (∀ m ∈ l.take (nidx n l), bl m.toList n.toList = true) ∧ (∀ m ∈ l.drop (nidx n l), bl m.toList n.toList = false)
  | [], _ => ⟨fun m hm => by simp at hm, fun m hm => by simp at hm⟩
  | x :: xs, h => by
    obtain ⟨i1, i2⟩ := nidx_spec n xs h.2
    rw [nidx_cons]
    by_cases hlt : Op.bytesLess x.toList n.toList = true
    · rw [if_pos hlt]
      refine ⟨fun m hm => ?_, fun m hm => ?_⟩
      · rw [List.take_succ_cons] at hm
        rcases List.mem_cons.mp hm with e | hm
        · subst e; exact hlt
        · exact i1 m hm
      · rw [List.drop_succ_cons] at hm; exact i2 m hm
    · rw [if_neg hlt]
      refine ⟨fun m hm => by simp at hm, fun m hm => ?_⟩
      rcases List.mem_cons.mp hm with e | hm
      · subst e; simpa [bl] using hlt
      · cases hq : bl m.toList n.toList with
        | false => rfl
        | true => exact absurd (bl_trans (h.1 m hm) hq) hlt
theorem asc_append : ∀ {l m : List ByteArray}, asc l → asc m → (∀ x ∈ l, ∀ y ∈ m, bl x.toList y.toList = true) → asc (l ++ m)
  | [], m, _, h, _ => h
  | x :: l, m, h1, h2, h => ⟨fun y hy => by
      rcases List.mem_append.mp hy with hy | hy
      · exact h1.1 y hy
      · exact h x List.mem_cons_self y hy, asc_append h1.2 h2 (fun x' hx y hy => h x' (List.mem_cons_of_mem _ hx) y hy)⟩
theorem asc_take : ∀ {l : List ByteArray} (i : Nat), asc l → asc (l.take i)
  | [], i, _ => by simp [asc]
  | x :: l, 0, _ => by simp [asc]
  | x :: l, i + 1, h => ⟨fun y hy => h.1 y (List.mem_of_mem_take hy), asc_take i h.2⟩
theorem asc_drop : ∀ {l : List ByteArray} (i : Nat), asc l → asc (l.drop i)
  | [], i, _ => by simp [asc]
  | x :: l, 0, h => h
  | x :: l, i + 1, h => asc_drop i h.2
theorem rdB_get {l : List ByteArray} {i : Nat} (h : i < l.length) : rdB l (i : Int) = l[i] := by
  unfold rdB rdOf
  rw [Int.toNat_natCast, List.getD_eq_getElem?_getD, List.getElem?_eq_getElem h]; rfl
theorem ins_spec (n : ByteArray) {l : List ByteArray} (h : asc l) : asc (insN n l) ∧ ∀ m, m ∈ insN n l ↔ m = n ∨ m ∈ l := by
  obtain ⟨i1, i2⟩ := nidx_spec n l h
  unfold insN
  split
  · rename_i hh
    obtain ⟨hlt, he⟩ := hh
    rw [rdB_get hlt] at he
    have e := bytes_ext he
    refine ⟨h, fun m => ⟨.inr, fun hm => ?_⟩⟩
    rcases hm with rfl | hm
    · rw [← e]; exact List.getElem_mem hlt
    · exact hm
  · rename_i hh
    have hn : ∀ m ∈ l.drop (nidx n l), bl n.toList m.toList = true := by
      intro m hm
      have hlt : nidx n l < l.length := by
        rcases Nat.lt_or_ge (nidx n l) l.length with h | h
        · exact h
        · rw [List.drop_eq_nil_of_le h] at hm; cases hm
      have h0 : n.toList ≠ l[nidx n l].toList := fun e => hh ⟨hlt, by rw [rdB_get hlt]; exact e.symm⟩
      have hd := List.drop_eq_getElem_cons hlt
      have hb : bl n.toList l[nidx n l].toList = true := bl_not (i2 _ (by rw [hd]; exact List.mem_cons_self)) (Ne.symm h0)
      rw [hd] at hm
      rcases List.mem_cons.mp hm with e | hm
      · rw [e]; exact hb
      · have ha := asc_drop (nidx n l) h
        rw [hd] at ha
        exact bl_trans hb (ha.1 m hm)
    refine ⟨asc_append (asc_take _ h) ⟨fun m hm => hn m hm, asc_drop _ h⟩ (fun x hx y hy => ?_), fun m => ?_⟩
    · rcases List.mem_cons.mp hy with e | hy
      · subst e; exact i1 x hx
      · exact bl_trans (i1 x hx) (hn y hy)
    · have : m ∈ l ↔ m ∈ l.take (nidx n l) ∨ m ∈ l.drop (nidx n l) := by rw [← List.mem_append, List.take_append_drop]
      rw [this]; simp only [List.mem_append, List.mem_cons, or_false, List.not_mem_nil]
      constructor
      · rintro (h | h | h)
        · exact .inr (.inl h)
        · exact .inl h
        · exact .inr (.inr h)
      · rintro (h | h | h)
        · exact .inr (.inl h)
        · exact .inl h
        · exact .inr (.inr h)
theorem nall_spec : ∀ (ts : LT) (l : List ByteArray), asc l → asc (nall ts l) ∧ ∀ m, m ∈ nall ts l ↔ m ∈ ts.map (·.f0) ∨ m ∈ l
  | [], l, h => ⟨h, fun m => by simp [nall]⟩
  | t :: ts, l, h => by
    obtain ⟨a1, a2⟩ := ins_spec t.f0 h
    obtain ⟨b1, b2⟩ := nall_spec ts _ a1
    refine ⟨b1, fun m => ?_⟩
    show m ∈ nall ts (insN t.f0 l) ↔ _
    rw [b2, a2, List.map_cons, List.mem_cons]
    constructor
    · rintro (h | h | h)
      · exact .inl (.inr h)
      · exact .inl (.inl h)
      · exact .inr h
    · rintro ((h | h) | h)
      · exact .inr (.inl h)
      · exact .inl h
      · exact .inr (.inr h)
theorem names_mrg {z : Bool} {a b : LT} {p q : Option (List UInt8)} (ha : risP z p a = true) (hb : risP z q b = true) : nall (a ++ b) [] = mrg a b := by
  obtain ⟨h1, h2⟩ := nall_spec (a ++ b) [] trivial
  refine asc_uniq h1 (mrg_asc a b (asc_names ha) (asc_names hb)) (fun n => ?_)
  rw [h2, mrg_mem, List.map_append, List.mem_append]; simp
theorem cfp_eq {n : ByteArray} {t : S47} {ts : LT} (h : t.f0.toList = n.toList) : cfp n (t :: ts) = (t.f1.f0, t.f1.f1) := by
  unfold cfp findT
  rw [List.find?_cons_of_pos (by simpa using h)]; rfl
theorem cfp_ne {n : ByteArray} {t : S47} {ts : LT} (h : t.f0.toList ≠ n.toList) : cfp n (t :: ts) = cfp n ts := by
  unfold cfp findT
  rw [List.find?_cons_of_neg (by simpa using h)]
theorem cfp_none {n : ByteArray} : ∀ {l : LT}, (∀ t ∈ l, t.f0.toList ≠ n.toList) → cfp n l = (0, 1)
  | [], _ => rfl
  | t :: ts, h => (cfp_ne (h t List.mem_cons_self)).trans (cfp_none (fun u hu => h u (List.mem_cons_of_mem _ hu)))
theorem cfp_I64 (n : ByteArray) : ∀ (l : LT), (∀ t ∈ l, TOk t) → I64 (cfp n l).1 ∧ I64 (cfp n l).2
  | [], _ => ⟨by show I64 0; unfold I64; omega, by show I64 1; unfold I64; omega⟩
  | t :: ts, h => by
    by_cases e : t.f0.toList = n.toList
    · rw [cfp_eq e]
      obtain ⟨h1, h2, _⟩ := h t List.mem_cons_self
      exact ⟨I64_of h1, I64_of h2⟩
    · rw [cfp_ne e]; exact cfp_I64 n ts (fun u hu => h u (List.mem_cons_of_mem _ hu))
theorem sumL_congr {op : ByteArray} {a b a' b' : LT} : ∀ (ns : List ByteArray) (out : LT), (∀ n ∈ ns, cfp n a = cfp n a' ∧ cfp n b = cfp n b') → sumL op a b ns out = sumL op a' b' ns out
  | [], _, _ => rfl
  | n :: ns, out, h => by
    obtain ⟨h1, h2⟩ := h n List.mem_cons_self
    simp only [sumL]
    rw [h1, h2]
    split
    · exact sumL_congr ns _ (fun m hm => h m (List.mem_cons_of_mem _ hm))
    · rfl
theorem mrg_nil : ∀ a : LT, mrg a [] = a.map (·.f0)
  | [] => by simp [mrg]
  | t :: ts => by simp [mrg]
theorem jhead : ∀ (a b : LT), asc (a.map (·.f0)) → asc (b.map (·.f0)) → a.length + b.length ≠ 0 → mrg a b = jname a b :: mrg (jrest (jname a b) a) (jrest (jname a b) b) ∧ (∀ t ∈ jrest (jname a b) a, bl (jname a b).toList t.f0.toList = true) ∧ (∀ t ∈ jrest (jname a b) b, bl (jname a b).toList t.f0.toList = true)
  | [], [], _, _, h => absurd rfl h
  | [], s :: ss, _, hb, _ => by
    have hn : jname [] (s :: ss) = s.f0 := rfl
    have ra : jrest s.f0 [] = [] := rfl
    have rb : jrest s.f0 (s :: ss) = ss := by simp [jrest, jis]
    rw [hn, ra, rb]
    exact ⟨by simp [mrg], fun t ht => (by cases ht), fun t ht => hb.1 _ (List.mem_map_of_mem ht)⟩
  | t :: ts, [], ha, _, _ => by
    have hn : jname (t :: ts) [] = t.f0 := rfl
    have ra : jrest t.f0 [] = [] := rfl
    have rb : jrest t.f0 (t :: ts) = ts := by simp [jrest, jis]
    rw [hn, ra, rb, mrg_nil, mrg_nil]
    exact ⟨rfl, fun u hu => ha.1 _ (List.mem_map_of_mem hu), fun t ht => (by cases ht)⟩
  | t :: ts, s :: ss, ha, hb, _ => by
    have rt : jrest t.f0 (t :: ts) = ts := by simp [jrest, jis]
    have rs : jrest s.f0 (s :: ss) = ss := by simp [jrest, jis]
    by_cases hlt : bl t.f0.toList s.f0.toList = true
    · have hn : jname (t :: ts) (s :: ss) = t.f0 := by
        have : jfirst (t :: ts) (s :: ss) = true := by show (bl t.f0.toList s.f0.toList || _) = true; rw [hlt]; rfl
        unfold jname; rw [if_pos this]; rfl
      have r2 : jrest t.f0 (s :: ss) = s :: ss := by
        unfold jrest; rw [if_neg]; show ¬ (s.f0.toList == t.f0.toList) = true
        intro e; exact bl_ne hlt (by have e' := eq_of_beq e; exact e'.symm)
      rw [hn, rt, r2]
      refine ⟨by rw [mrg, if_pos hlt], fun u hu => ha.1 _ (List.mem_map_of_mem hu), fun u hu => ?_⟩
      rcases List.mem_cons.mp hu with e | hu
      · rw [e]; exact hlt
      · exact bl_trans hlt (hb.1 _ (List.mem_map_of_mem hu))
    · by_cases he : t.f0.toList = s.f0.toList
      · have hn : jname (t :: ts) (s :: ss) = t.f0 := by
          have : jfirst (t :: ts) (s :: ss) = true := by show (_ || (t.f0.toList == s.f0.toList)) = true; rw [he]; simp
          unfold jname; rw [if_pos this]; rfl
        have r2 : jrest t.f0 (s :: ss) = ss := by
          unfold jrest; rw [if_pos]; · rfl
          show (s.f0.toList == t.f0.toList) = true
          simp [he]
        rw [hn, rt, r2]
        refine ⟨by rw [mrg, if_neg hlt, if_pos he], fun u hu => ha.1 _ (List.mem_map_of_mem hu), fun u hu => ?_⟩
        rw [he]; exact hb.1 _ (List.mem_map_of_mem hu)
      · have hgt := bl_not (by simpa using hlt) he
        have hn : jname (t :: ts) (s :: ss) = s.f0 := by
          have : ¬ jfirst (t :: ts) (s :: ss) = true := by
            show ¬ (bl t.f0.toList s.f0.toList || (t.f0.toList == s.f0.toList)) = true
            simp [he]; simpa using hlt
          unfold jname; rw [if_neg this]; rfl
        have r2 : jrest s.f0 (t :: ts) = t :: ts := by
          unfold jrest; rw [if_neg]; show ¬ (t.f0.toList == s.f0.toList) = true
          intro e; exact he (by simpa using e)
        rw [hn, rs, r2]
        refine ⟨by rw [mrg, if_neg hlt, if_neg he], fun u hu => ?_, fun u hu => hb.1 _ (List.mem_map_of_mem hu)⟩
        rcases List.mem_cons.mp hu with e | hu
        · rw [e]; exact hgt
        · exact bl_trans hgt (ha.1 _ (List.mem_map_of_mem hu))
theorem jc_cfp {n : ByteArray} {l : LT} (h : ∀ t ∈ jrest n l, bl n.toList t.f0.toList = true) : jc0 n l = (cfp n l).1 ∧ jc1 n l = (cfp n l).2 ∧ ∀ m : ByteArray, bl n.toList m.toList = true → cfp m l = cfp m (jrest n l) := by
  cases l with
  | nil => exact ⟨rfl, rfl, fun _ _ => rfl⟩
  | cons t ts =>
    by_cases hj : jis n (t :: ts) = true
    · have e : t.f0.toList = n.toList := by simpa [jis] using hj
      rw [cfp_eq e]
      refine ⟨if_pos hj, if_pos hj, fun m hm => ?_⟩
      have hr : jrest n (t :: ts) = ts := by unfold jrest; rw [if_pos hj]; rfl
      rw [hr]; exact cfp_ne (by rw [e]; exact bl_ne hm)
    · have hr : jrest n (t :: ts) = t :: ts := by unfold jrest; rw [if_neg hj]
      rw [hr] at h ⊢
      rw [cfp_none (fun u hu => (bl_ne (h u hu)).symm)]
      exact ⟨if_neg hj, if_neg hj, fun _ _ => rfl⟩
theorem jrest_mem {n : ByteArray} {l : LT} {t : S47} (h : t ∈ jrest n l) : t ∈ l := by
  unfold jrest at h
  split at h
  · exact List.mem_of_mem_drop h
  · exact h
theorem jrest_asc {n : ByteArray} {l : LT} (h : asc (l.map (·.f0))) : asc ((jrest n l).map (·.f0)) := by
  unfold jrest
  split
  · rw [List.map_drop]; exact asc_drop 1 h
  · exact h
theorem jgo_ev {op : ByteArray} : ∀ (N : Nat) (a b out : LT), a.length + b.length ≤ N → asc (a.map (·.f0)) → asc (b.map (·.f0)) → (∀ t ∈ a, TOk t) → (∀ t ∈ b, TOk t) → Ev (fun k => jgo k op N a b out) (sumL op a b (mrg a b) out)
  | 0, a, b, out, h, _, _, _, _ => by
    have ea : a = [] := List.eq_nil_of_length_eq_zero (by omega)
    have eb : b = [] := List.eq_nil_of_length_eq_zero (by omega)
    subst ea; subst eb
    exact Ev.as (by simp [mrg, sumL]) (Ev.const (a := (out, 0)) rfl)
  | N + 1, a, b, out, h, ha, hb, ta, tb => by
    simp only [jgo]
    by_cases h0 : a.length + b.length = 0
    · have ea : a = [] := List.eq_nil_of_length_eq_zero (by omega)
      have eb : b = [] := List.eq_nil_of_length_eq_zero (by omega)
      subst ea; subst eb
      exact Ev.as (by simp [mrg, sumL]) (Ev.pos h0 (Ev.const (a := (out, 0)) rfl))
    refine Ev.neg h0 ?_
    obtain ⟨e1, e2, e3⟩ := jhead a b ha hb h0
    have hlt := jrest_lt h0
    obtain ⟨x1, x2, x3⟩ := jc_cfp e2
    obtain ⟨y1, y2, y3⟩ := jc_cfp e3
    obtain ⟨i1, i2⟩ := cfp_I64 (jname a b) a ta
    obtain ⟨i3, i4⟩ := cfp_I64 (jname a b) b tb
    rw [x1, x2, y1, y2, e1]
    refine Ev.bind (Near_near_ev i1 i2 i3 i4) ?_
    simp only [sumL]
    by_cases hc : (doV op true (cfp (jname a b) a).1 (cfp (jname a b) a).2 (cfp (jname a b) b).1 (cfp (jname a b) b).2).2.2 = 0
    · rw [if_pos hc]
      refine Ev.pos hc (Ev.as ?_ (jgo_ev N _ _ _ (by omega) (jrest_asc ha) (jrest_asc hb) (fun t ht => ta t (jrest_mem ht)) (fun t ht => tb t (jrest_mem ht))))
      refine (sumL_congr _ _ (fun m hm => ?_)).symm
      have hm : bl (jname a b).toList m.toList = true := by
        rcases (mrg_mem _ _ _).mp hm with hm | hm
        · obtain ⟨u, hu, rfl⟩ := List.mem_map.mp hm; exact e2 u hu
        · obtain ⟨u, hu, rfl⟩ := List.mem_map.mp hm; exact e3 u hu
      exact ⟨x3 m hm, y3 m hm⟩
    · rw [if_neg hc]; exact Ev.neg hc (Ev.const rfl)
theorem bgo_ev {op : ByteArray} {a b : LT} (ha : a.length ≤ 60) (hb : b.length ≤ 60) (ta : ∀ t ∈ a, TOk t) (tb : ∀ t ∈ b, TOk t) : ∀ (ns : List ByteArray) (out : LT), Ev (fun k => bgo k op a b ns out) (sumL op a b ns out)
  | [], out => Ev.const rfl
  | n :: ns, out => by
    simp only [bgo, sumL]
    obtain ⟨i1, i2⟩ := cfp_I64 n a ta
    obtain ⟨i3, i4⟩ := cfp_I64 n b tb
    refine Ev.bind (coef_ev ha) (Ev.bind (coef_ev hb) (Ev.bind (RNear_ev i1 i2 i3 i4) ?_))
    by_cases hc : (doV op true (cfp n a).1 (cfp n a).2 (cfp n b).1 (cfp n b).2).2.2 = 0
    · rw [if_pos hc]; exact Ev.pos hc (bgo_ev ha hb ta tb ns _)
    · rw [if_neg hc]; exact Ev.neg hc (Ev.const rfl)
def sumV (op : ByteArray) (p q : Int) (l : LT) (p' q' : Int) (l' : LT) : Int × Int × LT × Int :=
  if valB p q l = true ∧ valB p' q' l' = true then
    if (doV op true p q p' q').2.2 = 0 then jend (doV op true p q p' q').1 (doV op true p q p' q').2.1 (sumL op l l' (mrg l l') []) else (0, 0, [], (doV op true p q p' q').2.2)
  else (0, 0, [], 2)
theorem sumV_len {op : ByteArray} {p q p' q' : Int} {l l' : LT} : (sumV op p q l p' q' l').2.2.1.length ≤ 60 := by
  unfold sumV
  split
  · split
    · unfold jend
      split
      · split
        · simp
        · rename_i h; show (sumL op l l' (mrg l l') []).1.length ≤ 60; omega
      · simp
    · simp
  · simp
theorem valB_ris {p q : Int} {l : LT} (h : valB p q l = true) : risP false none l = true := by unfold valB at h; simp at h; exact h.2.1
section
variable {op : ByteArray} {p q p' q' : Int} {l l' : LT}
theorem fjoin_ev (hp : I64 p) (hq : I64 q) (hp' : I64 p') (hq' : I64 q') (hl : l.length ≤ 80) (hl' : l'.length ≤ 80) (ht : ∀ t ∈ l, TOk t) (ht' : ∀ t ∈ l', TOk t) : Ev (fun k => linear_join.f k op p q l p' q' l') (sumV op p q l p' q' l') := by
  unfold linear_join.f sumV
  refine Ev.neg (by omega) (Ev.bind (Val_ev hp hq (by omega) ht) ?_)
  cases hv : valB p q l with
  | false => exact Ev.as (by simp) (Ev.neg (by decide) (Ev.const rfl))
  | true =>
    refine Ev.pos rfl (Ev.bind (Val_ev hp' hq' (by omega) ht') ?_)
    cases hw : valB p' q' l' with
    | false => exact Ev.as (by simp) (Ev.neg (by decide) (Ev.const rfl))
    | true =>
      refine Ev.pos rfl (Ev.bind (Near_near_ev hp hq hp' hq') ?_)
      rw [if_pos ⟨rfl, rfl⟩]
      by_cases hc : (doV op true p q p' q').2.2 = 0
      · exact Ev.as (if_pos hc).symm (Ev.pos hc (Ev.bind (jgo_ev _ l l' [] (Nat.le_refl _) (asc_names (valB_ris hv)) (asc_names (valB_ris hw)) ht ht') (Ev.const rfl)))
      · exact Ev.as (if_neg hc).symm (Ev.neg hc (Ev.const rfl))
theorem fboth_ev (hp : I64 p) (hq : I64 q) (hp' : I64 p') (hq' : I64 q') (hl : l.length ≤ 80) (hl' : l'.length ≤ 80) (ht : ∀ t ∈ l, TOk t) (ht' : ∀ t ∈ l', TOk t) : Ev (fun k => fleuronref08_both.f k op p q l p' q' l') (sumV op p q l p' q' l') := by
  unfold fleuronref08_both.f sumV
  refine Ev.neg (by omega) (Ev.bind (RVal_ev hp hq (by omega) ht) ?_)
  cases hv : valB p q l with
  | false => exact Ev.as (by simp) (Ev.neg (by decide) (Ev.const rfl))
  | true =>
    refine Ev.pos rfl (Ev.bind (RVal_ev hp' hq' (by omega) ht') ?_)
    cases hw : valB p' q' l' with
    | false => exact Ev.as (by simp) (Ev.neg (by decide) (Ev.const rfl))
    | true =>
      refine Ev.pos rfl (Ev.bind (RNear_ev hp hq hp' hq') ?_)
      rw [if_pos ⟨rfl, rfl⟩]
      by_cases hc : (doV op true p q p' q').2.2 = 0
      · have hnm : fleuronref08_names.f l l' = some (mrg l l') := by
          unfold fleuronref08_names.f
          rw [if_pos (by omega), names_mrg (valB_ris hv) (valB_ris hw)]
        have hml : (mrg l l').length ≤ l.length + l'.length := mrg_len l l'
        refine Ev.as (if_pos hc).symm (Ev.pos hc (Ev.bind (Ev.const hnm) (Ev.pos (by omega) (Ev.bind (bgo_ev (valB_len hv) (valB_len hw) ht ht' _ _) (Ev.const rfl)))))
      · exact Ev.as (if_neg hc).symm (Ev.neg hc (Ev.const rfl))
end
end Go.Proofs.YtilamkcpbibnmaaGreatDoor.P
