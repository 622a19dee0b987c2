import PyProof.Rows.All
import Wide.All
import OpenK.AllK
import Wide.FinOn
import HandS.ForMost
import HandS.Exc
import HandS.TryOnly
import HandS.ExcOwn
import HandS.WordsExc
import HandS.ExcIs
import HandS.IsInst
import HandS.StrMore
import HandS.Wide
import HandS.TupAny
import HandS.Flow
import PySem.Challenge.RW_desksagree_k51_frames_and_torn_ends
import HandS.TupLe
set_option Elab.async false
set_option maxRecDepth 100000
set_option maxHeartbeats 8000000
namespace K51
open PySem PySem.Spec PyProof.Rows L2
def top (i : Nat) : Stmt := PySem.Challenge.pw_desksagree_k51_frames_and_torn_ends.main.body.getD i (.Pass ⟨0, 0, 0, 0⟩)
abbrev sCheck : Stmt := top 7
abbrev sChecked : Stmt := top 8
abbrev sFramed : Stmt := top 9
abbrev sFAll : Stmt := top 10
abbrev sNumber : Stmt := top 11
abbrev sOneF : Stmt := top 12
abbrev sRead : Stmt := top 13
abbrev sWhole : Stmt := top 14
abbrev sGap : Stmt := top 15
abbrev sEnds : Stmt := top 16
abbrev sLeft : Stmt := top 17
abbrev sSame : Stmt := top 19
abbrev sPool : Stmt := top 20
abbrev sDraw : Stmt := top 21
abbrev sPick : Stmt := top 22
abbrev sLCheck : Stmt := top 23
abbrev sLText : Stmt := top 24
abbrev sLFrame : Stmt := top 25
abbrev sLRead : Stmt := top 26
abbrev sRefused : Stmt := top 27
abbrev sLaw : Stmt := top 28
/-- the codes of a text -/
abbrev tl (x : Str) : List Nat := x.cps.toList
/-- a text of codes -/
abbrev mkS (l : List Nat) : Str := ⟨l.toArray⟩
theorem mkS_tl (x : Str) : mkS (tl x) = x := by cases x; rfl
theorem tl_mkS (l : List Nat) : tl (mkS l) = l := rfl
theorem len_tl (x : Str) : x.length = (tl x).length := by simp [Str.length, tl]
/-- the built-ins that the text calls are those of the interpreter -/
structure Blt (mg : Str → Option Value) : Prop where
  b_len : mg "len" = none
  b_isinstance : mg "isinstance" = none
  b_str : mg "str" = none
  b_int : mg "int" = none
  b_list : mg "list" = none
  b_tuple : mg "tuple" = none
  b_bool : mg "bool" = none
  b_range : mg "range" = none
  b_abs : mg "abs" = none
  b_ord : mg "ord" = none
theorem cut_nat (x : Str) (a b : Nat) (h : b ≤ (tl x).length) : cutS x (some (a : Int)) (some (b : Int)) = mkS (((tl x).drop a).take (b - a)) := by
  have hn : x.length = (tl x).length := len_tl x
  have e1 : HT.sIx x.length 0 (some (a : Int)) = min a x.length := by
    show (if ((a : Int)) < 0 then ((a : Int) + (x.length : Int)).toNat else min ((a : Int)).toNat x.length) = _
    rw [if_neg (by omega)]; rfl
  have e2 : HT.sIx x.length x.length (some (b : Int)) = b := by
    show (if ((b : Int)) < 0 then ((b : Int) + (x.length : Int)).toNat else min ((b : Int)).toNat x.length) = _
    rw [if_neg (by omega)]
    show min b x.length = b
    omega
  show (⟨((x.cps.toList.drop (HT.sIx x.length 0 (some (a : Int)))).take (HT.sIx x.length x.length (some (b : Int)) - HT.sIx x.length 0 (some (a : Int)))).toArray⟩ : Str) = _
  rw [e1, e2]
  by_cases ha : a ≤ x.length
  · rw [Nat.min_eq_left ha]
  · have z : (tl x).length ≤ a := by omega
    have e3 : ((tl x).drop a).take (b - a) = [] := by rw [List.drop_eq_nil_of_le z, List.take_nil]
    have e4 : (x.cps.toList.drop (min a x.length)).take (b - min a x.length) = [] := by
      rw [List.drop_eq_nil_of_le (by show (tl x).length ≤ _; omega), List.take_nil]
    rw [e3, e4]
theorem cut_any (x : Str) (a b : Nat) : cutS x (some (a : Int)) (some (b : Int)) = mkS (((tl x).drop a).take (b - a)) := by
  by_cases h : b ≤ (tl x).length
  · exact cut_nat x a b h
  · have hn : x.length = (tl x).length := len_tl x
    have e1 : HT.sIx x.length 0 (some (a : Int)) = min a x.length := by
      show (if ((a : Int)) < 0 then ((a : Int) + (x.length : Int)).toNat else min ((a : Int)).toNat x.length) = _
      rw [if_neg (by omega)]; rfl
    have e2 : HT.sIx x.length x.length (some (b : Int)) = x.length := by
      show (if ((b : Int)) < 0 then ((b : Int) + (x.length : Int)).toNat else min ((b : Int)).toNat x.length) = _
      rw [if_neg (by omega)]
      show min b x.length = x.length
      omega
    show (⟨((x.cps.toList.drop (HT.sIx x.length 0 (some (a : Int)))).take (HT.sIx x.length x.length (some (b : Int)) - HT.sIx x.length 0 (some (a : Int)))).toArray⟩ : Str) = _
    rw [e1, e2]
    by_cases ha : a ≤ x.length
    · rw [Nat.min_eq_left ha]
      show mkS (((tl x).drop a).take (x.length - a)) = _
      have hd : ((tl x).drop a).length = (tl x).length - a := List.length_drop
      rw [List.take_of_length_le (by omega), List.take_of_length_le (by omega)]
    · have z : (tl x).length ≤ a := by omega
      have e3 : ((tl x).drop a).take (b - a) = [] := by rw [List.drop_eq_nil_of_le z, List.take_nil]
      have e4 : (x.cps.toList.drop (min a x.length)).take (x.length - min a x.length) = [] := by
        rw [List.drop_eq_nil_of_le (by show (tl x).length ≤ _; omega), List.take_nil]
      rw [e3, e4]
def upto (c : Nat) (l : List Nat) : List Nat := l.takeWhile fun d => decide (d ≠ c)
theorem upto_le (c : Nat) (l : List Nat) : (upto c l).length ≤ l.length := by
  induction l with
  | nil => exact Nat.le_refl _
  | cons d r ih =>
    unfold upto at ih ⊢
    rw [List.takeWhile_cons]
    split
    · simpa using ih
    · simp
theorem upto_take (c : Nat) (l : List Nat) : l.take (upto c l).length = upto c l := by
  induction l with
  | nil => rfl
  | cons d r ih =>
    unfold upto at ih ⊢
    rw [List.takeWhile_cons]
    split
    · simp only [List.length_cons, List.take_succ_cons]; rw [ih]
    · rfl
theorem occ_full (s sub : Str) (hi : Nat) : ∀ (l : List Nat) (st : Array Nat × Nat), 1 ≤ st.fst.size → (forIn l st (StrLaws.occBody s sub hi 1)).run = st
  | [], st, h => rfl
  | a :: l, st, h => by
    rw [List.forIn_cons]
    unfold StrLaws.occBody
    rw [if_neg (fun z => by have := z.1.1.1; omega)]
    exact occ_full s sub hi l st h
theorem occ_run (x : Str) (c : Nat) : ∀ (n a f : Nat), a + n = x.length + 1 → f ≤ a →
    (forIn (List.range' a n) ((#[] : Array Nat), f) (StrLaws.occBody x ⟨#[c]⟩ x.length 1)).run.fst.toList =
      if (upto c ((tl x).drop a)).length < ((tl x).drop a).length then [a + (upto c ((tl x).drop a)).length] else []
  | 0, a, f, h, hf => by
    have hx : x.length = (tl x).length := len_tl x
    have e : (tl x).drop a = [] := List.drop_eq_nil_of_le (by omega)
    rw [e]
    rfl
  | n + 1, a, f, h, hf => by
    have hx : x.length = (tl x).length := len_tl x
    rw [List.range'_succ, List.forIn_cons]
    have key := StrLaws.subAt_one x c a
    by_cases hc : (tl x)[a]? = some c
    · have z := key.mpr hc
      have hlt : a < (tl x).length := (List.getElem?_eq_some_iff.mp hc).1
      unfold StrLaws.occBody
      rw [if_pos ⟨⟨⟨by simp, hf⟩, z.1⟩, z.2⟩]
      show ((forIn (List.range' (a + 1) n) ((#[] : Array Nat).push a, a + (⟨#[c]⟩ : Str).length) (StrLaws.occBody x ⟨#[c]⟩ x.length 1)).run).fst.toList = _
      rw [occ_full _ _ _ _ _ (by simp)]
      have e : (tl x).drop a = c :: (tl x).drop (a + 1) := by
        rw [List.drop_eq_getElem_cons hlt]
        rw [(List.getElem?_eq_some_iff.mp hc).2]
      rw [e]
      unfold upto
      rw [List.takeWhile_cons, if_neg (show ¬ decide (c ≠ c) = true by simp)]
      simp
    · have hn : ¬ ((((((#[] : Array Nat), f) : Array Nat × Nat).fst.size < 1 ∧ (((#[] : Array Nat), f) : Array Nat × Nat).snd ≤ a) ∧ a + (⟨#[c]⟩ : Str).length ≤ x.length) ∧ Builtin.Str.subAt x ⟨#[c]⟩ a = true) := fun z => hc (key.mp ⟨z.1.2, z.2⟩)
      have e1 : StrLaws.occBody x ⟨#[c]⟩ x.length 1 a ((#[] : Array Nat), f) = pure (ForInStep.yield ((#[] : Array Nat), f)) := by
        unfold StrLaws.occBody
        rw [if_neg hn]
      rw [e1]
      show ((forIn (List.range' (a + 1) n) ((#[] : Array Nat), f) (StrLaws.occBody x ⟨#[c]⟩ x.length 1)).run).fst.toList = _
      rw [occ_run x c n (a + 1) f (by omega) (by omega)]
      by_cases hlt : a < (tl x).length
      · have e : (tl x).drop a = (tl x)[a] :: (tl x).drop (a + 1) := List.drop_eq_getElem_cons hlt
        have hd : (tl x)[a] ≠ c := fun z => hc (by rw [List.getElem?_eq_getElem hlt, z])
        have e2 : upto c ((tl x).drop a) = (tl x)[a] :: upto c ((tl x).drop (a + 1)) := by
          rw [e]
          unfold upto
          rw [List.takeWhile_cons, if_pos (by simpa using hd)]
        rw [e2, e]
        simp only [List.length_cons, Nat.add_lt_add_iff_right]
        split
        · congr 1; omega
        · rfl
      · have e : (tl x).drop a = [] := List.drop_eq_nil_of_le (by omega)
        have e3 : (tl x).drop (a + 1) = [] := List.drop_eq_nil_of_le (by omega)
        rw [e, e3]
        rfl
theorem find_one (x : Str) (c a : Nat) (ha : a ≤ (tl x).length) : Txt.find3 x ⟨#[c]⟩ (a : Int) = if (upto c ((tl x).drop a)).length < ((tl x).drop a).length then ((a + (upto c ((tl x).drop a)).length : Nat) : Int) else -1 := by
  have hx : x.length = (tl x).length := len_tl x
  have e0 : fromIndex x.length (a : Int) = a := by
    unfold fromIndex
    rw [if_neg (by omega)]
    omega
  unfold Txt.find3
  rw [e0, StrLaws.occ_eq, occ_run x c _ a a (by omega) (Nat.le_refl _)]
  by_cases h : (upto c ((tl x).drop a)).length < ((tl x).drop a).length
  · rw [if_pos h, if_pos h]
  · rw [if_neg h, if_neg h]
theorem lc_str {x : Str} {g : TG} {tt : TT} {te : TE} {vs : List Nat} {σ : L2.St} {H1 : Hp} {D : Addr} {Qd : Hp → Prop} (Pv : Nat → Hp → Prop) (h0 : Pv 0 (upd H1 D (.lst [])))
    (hs : ∀ i c H, (tl x)[i]? = some c → Pv i H → g (.str ⟨#[c]⟩) (wipe σ vs) H fun σ2 H2 => wipe σ2 vs = wipe σ vs ∧ tt σ2 H2 fun b H3 =>
      if b = true then te σ2 H3 fun y H4 => ∃ acc, H4 D = some (.lst acc) ∧ acc.length < sizeLine ∧ Pv (i + 1) (upd H4 D (.lst (acc ++ [y]))) else Pv (i + 1) H3) (hd : ∀ H, Pv (tl x).length H → Qd H) :
    ∃ W : Nat → Nat → Hp → Prop, (∃ m, W 0 m (upd H1 D (.lst []))) ∧ ∀ i m H, W i m H →
      ((Its x).stop i H ∧ Qd H) ∨ ((Its x).go i H ∧ ∃ Nx : Hp → Prop, (∀ H', Nx H' → ∃ m', m' < m ∧ W (i + 1) m' H') ∧ ∀ v H', (Its x).yld i H v H' → g v (wipe σ vs) H' fun σ2 H2 => wipe σ2 vs = wipe σ vs ∧ tt σ2 H2 fun b H3 =>
        if b = true then te σ2 H3 fun y H4 => ∃ acc, H4 D = some (.lst acc) ∧ acc.length < sizeLine ∧ Nx (upd H4 D (.lst (acc ++ [y]))) else Nx H3) := by
  have hx : x.cps.size = (tl x).length := by simp [tl]
  refine ⟨fun i m H => m = (tl x).length - i ∧ i ≤ (tl x).length ∧ Pv i H, ⟨(tl x).length, by simp, Nat.zero_le _, h0⟩, ?_⟩
  rintro i m H ⟨rfl, hi, p⟩
  by_cases hlt : i < (tl x).length
  · refine .inr ⟨(by show i < x.cps.size; omega), Pv (i + 1), fun H' p' => ⟨(tl x).length - (i + 1), by omega, rfl, hlt, p'⟩, fun v H' y => ?_⟩
    obtain ⟨e, c, hc, ev⟩ := y
    subst e
    subst ev
    exact hs i c _ (by rw [Array.getElem?_toList]; exact hc) p
  · have e : i = (tl x).length := by omega
    subst e
    exact .inl ⟨(by show x.cps.size ≤ _; omega), hd H p⟩
/-- what the class InvalidPaper, at C, is -/
structure ErrT (K : PySem.W.Frag) (mg : Str → Option Value) (C : Addr) : Prop where
  gP : mg "InvalidPaper" = some (.ref C)
  xP : PySem.W.excIn K C [.type "ValueError", .type "Exception", .type "BaseException", .type "object"] "ValueError.__new__" = true
  kP : PySem.W.keepIn K (.ref C) = true
  bP : PySem.W.subIn K (.ref C) (.type "BaseException") = some true
  tP : PySem.W.typeIn K (.ref C) = some (.type "type")
def goodSign (c : Nat) : Bool := !(decide (c = 63) || !(decide (32 ≤ c) && decide (c ≤ 126)))
theorem le1 (a b : Nat) : (!decide (([a] : List Nat) < [b])) = decide (b ≤ a) := by
  by_cases h : a < b
  · have e1 : ([a] : List Nat) < [b] := List.Lex.rel h
    rw [decide_eq_true e1, decide_eq_false (by omega)]; rfl
  · have e1 : ¬ ([a] : List Nat) < [b] := by
      intro z
      cases z with
      | cons z => cases z
      | rel z => exact h z
    rw [decide_eq_false e1, decide_eq_true (by omega)]; rfl
theorem take_snoc {α : Type} : ∀ {l : List α} {i : Nat} {x : α}, l[i]? = some x → l.take (i + 1) = l.take i ++ [x]
  | [], i, x, h => by simp at h
  | a :: l, 0, x, h => by
    have e : a = x := Option.some.inj h
    subst e
    rfl
  | a :: l, i + 1, x, h => by
    have ih := take_snoc (l := l) (i := i) (x := x) h
    show a :: l.take (i + 1) = a :: l.take i ++ [x]
    rw [ih]
    rfl
theorem one_eq (c d : Nat) : decide (V.str ⟨#[c]⟩ = V.str ⟨#[d]⟩) = decide (c = d) := by
  by_cases h : c = d
  · subst h; simp
  · rw [decide_eq_false h, decide_eq_false]
    intro e
    have := V.str.inj e
    simp at this
    exact h this
theorem sz1 {n : Nat} (h : n ≤ sizeLine) (m : Nat) (hm : m < n) : m < sizeLine := Nat.lt_of_lt_of_le hm h
theorem same_upd {H H1 : Hp} {p : Addr} {o : HO} (s : Same H H1) (hp : H1 p = none) : Same H (upd H1 p o) := fun b u e => by
  rw [upd_ne (ne_of_none (s b u e) hp)]
  exact s b u e
theorem inV_strs (s : Str) (L : List Str) : inV (V.str s) (L.map V.str) = L.any fun y => y == s := by
  unfold inV
  rw [List.any_map]
  rfl
theorem flat_strs (L : List Str) : (L.map V.str).all flatV = true := by
  rw [List.all_map]
  exact List.all_eq_true.mpr fun _ _ => rfl
theorem strs_at {L : List Str} {i : Nat} {y : V} (h : (L.map V.str)[i]? = some y) : ∃ s, L[i]? = some s ∧ y = V.str s := by
  rw [List.getElem?_map] at h
  cases e : L[i]? with
  | none => rw [e] at h; cases h
  | some s => rw [e] at h; exact ⟨s, rfl, (Option.some.inj h).symm⟩
theorem paired_imp {α β : Type} {R S : α → β → Prop} (h : ∀ a b, R a b → S a b) : ∀ {xs : List α} {ys : List β}, Paired R xs ys → Paired S xs ys
  | _, _, .nil => .nil
  | _, _, .cons r t => .cons (h _ _ r) (paired_imp h t)
theorem paired_snoc {α β : Type} {R : α → β → Prop} {a : α} {b : β} (h : R a b) : ∀ {xs : List α} {ys : List β}, Paired R xs ys → Paired R (xs ++ [a]) (ys ++ [b])
  | _, _, .nil => .cons h .nil
  | _, _, .cons r t => .cons r (paired_snoc h t)
theorem paired_at {α β : Type} {R : α → β → Prop} : ∀ {xs : List α} {ys : List β} {i : Nat} {x : α}, Paired R xs ys → xs[i]? = some x → ∃ y, ys[i]? = some y ∧ R x y
  | _, _, _, _, .nil, e => by simp at e
  | _, _, 0, _, .cons r _, e => by
    have := Option.some.inj e
    subst this
    exact ⟨_, rfl, r⟩
  | _, _, i + 1, _, .cons _ t, e => by
    obtain ⟨y, e1, e2⟩ := paired_at (i := i) t (by simpa using e)
    exact ⟨y, by simpa using e1, e2⟩
theorem paired_len {α β : Type} {R : α → β → Prop} : ∀ {xs : List α} {ys : List β}, Paired R xs ys → xs.length = ys.length
  | _, _, .nil => rfl
  | _, _, .cons _ t => by rw [List.length_cons, List.length_cons, paired_len t]
theorem upto_app {c : Nat} : ∀ {u rest : List Nat}, (∀ d ∈ u, d ≠ c) → upto c (u ++ c :: rest) = u
  | [], rest, _ => by
    unfold upto
    rw [List.nil_append, List.takeWhile_cons, if_neg (by simp)]
  | d :: u, rest, h => by
    have ih := upto_app (c := c) (u := u) (rest := rest) (fun e he => h e (List.mem_cons_of_mem _ he))
    unfold upto at ih ⊢
    rw [List.cons_append, List.takeWhile_cons, if_pos (by simpa using h d (List.mem_cons_self ..)), ih]
theorem upto_step {c : Nat} {l : List Nat} {n d : Nat} (h : l[n]? = some d) (hd : d ≠ c) (hp : n ≤ (upto c l).length) : n + 1 ≤ (upto c l).length := by
  induction l generalizing n with
  | nil => simp at h
  | cons e r ih =>
    unfold upto at ih hp ⊢
    rw [List.takeWhile_cons] at hp ⊢
    cases n with
    | zero =>
      have : e = d := by simpa using h
      subst this
      rw [if_pos (by simpa using hd)]
      simp
    | succ n =>
      by_cases he : decide (e ≠ c) = true
      · rw [if_pos he] at hp ⊢
        have := ih (n := n) (by simpa using h) (by simpa using hp)
        simpa using this
      · rw [if_neg he] at hp
        simp at hp
theorem upto_stop {c : Nat} {l : List Nat} {n : Nat} (hp : n ≤ (upto c l).length) (h : ∀ d, l[n]? = some d → d = c) : n = (upto c l).length := by
  induction l generalizing n with
  | nil => simp [upto] at hp ⊢; exact hp
  | cons e r ih =>
    unfold upto at ih hp ⊢
    rw [List.takeWhile_cons] at hp ⊢
    by_cases he : decide (e ≠ c) = true
    · rw [if_pos he] at hp ⊢
      cases n with
      | zero => exact absurd (h e rfl) (by simpa using he)
      | succ n =>
        have := ih (n := n) (by simpa using hp) (fun d hd => h d (by simpa using hd))
        simpa using this
    · rw [if_neg he] at hp ⊢
      simpa using hp
theorem upto_get {c : Nat} : ∀ {l : List Nat} {n d : Nat}, l[n]? = some d → n < (upto c l).length → (upto c l)[n]? = some d
  | [], n, d, h, _ => by simp at h
  | e :: r, n, d, h, hn => by
    unfold upto at hn ⊢
    rw [List.takeWhile_cons] at hn ⊢
    by_cases he : decide (e ≠ c) = true
    · rw [if_pos he] at hn ⊢
      cases n with
      | zero => exact h
      | succ n =>
        have := upto_get (c := c) (l := r) (n := n) (d := d) (by simpa using h) (by unfold upto; simpa using hn)
        unfold upto at this
        simpa using this
    · rw [if_neg he] at hn
      simp at hn
theorem sum_mem : ∀ {l : List Nat} {n : Nat}, n ∈ l → n ≤ l.sum
  | a :: l, n, h => by
    rw [List.sum_cons]
    rcases List.mem_cons.mp h with rfl | h
    · omega
    · have := sum_mem h
      omega
theorem pss_when {X : Cx} {st : List Stmt} {t : TS} {p : Prop} (h : p → PSs X st t) : PSs X st (fun D σ H => p ∧ t D σ H) := ⟨fun pins s σ H D I ⟨hp, ht⟩ => (h hp).run pins s σ H D I ht⟩
/-- what the classes of errors are, for the law's except clause -/
structure CatchT (K : PySem.W.Frag) (mg : Str → Option Value) (CD C : Addr) : Prop where
  gD : mg "DeskError" = some (.ref CD)
  exm : PySem.W.exmOne K (.ref C) (.ref CD) = some true
  ec : ExcC K C
  kC : PySem.W.kitOne K (.ref C) (.ref C) = some true
  kV : PySem.W.kitOne K (.ref C) (.type "ValueError") = some true
  b_VE : mg "ValueError" = none
theorem iteF' {b : Bool} {p q : Prop} (e : b = false) (h : q) : if b = true then p else q := by
  rw [e]; exact h
theorem app_len (s t : Str) : (s ++ t).length = s.length + t.length := by
  have e : tl (s ++ t) = tl s ++ tl t := TL.tl_append s t
  rw [len_tl, e, List.length_append, len_tl, len_tl]
theorem mem_strs {L : List Str} {v : V} (h : v ∈ L.map V.str) : ∃ s, s ∈ L ∧ v = V.str s := by
  obtain ⟨s, h1, h2⟩ := List.mem_map.mp h
  exact ⟨s, h1, h2.symm⟩
theorem mem_cut {xs : List V} {lo hi : Option Int} {v : V} (h : v ∈ cutV xs lo hi) : v ∈ xs := by
  unfold cutV at h
  exact List.mem_of_mem_drop (List.mem_of_mem_take h)
theorem cut_le (xs : List V) (lo hi : Option Int) : (cutV xs lo hi).length ≤ xs.length := by
  unfold cutV
  rw [List.length_take, List.length_drop]
  omega
end K51

namespace K51
open PySem PySem.Spec PyProof.Rows L2
/-! ### _law_pool, _law_draw, _law_pick -/
theorem scPool : FnScope ["script"] ["script"] (defScope sPool) := ⟨rfl, rfl, rfl, by decide +kernel, rfl, by decide +kernel, by decide +kernel⟩
theorem scDraw : FnScope ["pool", "many", "found", "cell", "mixed"] ["pool", "many"] (defScope sDraw) := ⟨rfl, rfl, rfl, by decide +kernel, rfl, by decide +kernel, by decide +kernel⟩
theorem scPick : FnScope ["pool", "rows"] ["pool", "rows"] (defScope sPick) := ⟨rfl, rfl, rfl, by decide +kernel, rfl, by decide +kernel, by decide +kernel⟩
theorem scSame : FnScope ["actual", "due", "k"] ["actual", "due"] (defScope sSame) := ⟨rfl, rfl, rfl, by decide +kernel, rfl, by decide +kernel, by decide +kernel⟩
/-- a pool at p: its cells at l, how many are taken, what is left of the last great one, the last small one, how many were drawn of it -/
def PoolL (H : Hp) (p l : Addr) : Prop := ∃ (ns : List Int) (a b c d : Int), H p = some (.lst [.ref l, .int a, .int b, .int c, .int d]) ∧ H l = some (.lst (ns.map V.int)) ∧ ns.length ≤ 63 ∧ 0 ≤ a ∧ 0 ≤ b ∧ l ≠ p
/-- all but p is as it was -/
def SameBut (p : Addr) (H H' : Hp) : Prop := ∀ b o, b ≠ p → H b = some o → H' b = some o
theorem SameBut.refl (p : Addr) (H : Hp) : SameBut p H H := fun _ _ _ e => e
theorem SameBut.trans {p : Addr} {H H1 H2 : Hp} (a : SameBut p H H1) (b : SameBut p H1 H2) : SameBut p H H2 := fun c o n e => b c o n (a c o n e)
theorem SameBut.upd {p : Addr} {H H1 : Hp} {o : HO} (a : SameBut p H H1) : SameBut p H (upd H1 p o) := fun b u n e => by rw [upd_ne n]; exact a b u n e
theorem SameBut.of {p : Addr} {H H1 : Hp} (a : Same H H1) : SameBut p H H1 := fun b u _ e => a b u e
theorem SameBut.new {p q : Addr} {H H1 : Hp} {o : HO} (a : SameBut p H H1) (hq : H1 q = none) : SameBut p H (L2.upd H1 q o) := fun b u n e => by
  rw [upd_ne (ne_of_none (a b u n e) hq)]
  exact a b u n e
def spPool (K : PySem.W.Frag) : Sp := fun vs H Q _ => ∃ (a : Addr) (ns : List Int), vs = [.ref a] ∧ SqL K H a (ns.map V.int) ∧ ns.length ≤ 63 ∧ ∀ H' p l, Same H H' → H p = none → H l = none → PoolL H' p l → Q (.ref p) H'
def spDraw : Sp := fun vs H Q _ => ∃ (p l : Addr) (m : Int), vs = [.ref p, .int m] ∧ PoolL H p l ∧ 1 ≤ m ∧ m ≤ 1000000000000000000 ∧ ∀ v H', 0 ≤ v → v < m → PoolL H' p l → SameBut p H H' → Q (.int v) H'
def spPick : Sp := fun vs H Q _ => ∃ (p r l : Addr) (xs : List V), vs = [.ref p, .ref r] ∧ PoolL H p l ∧ H r = some (.lst xs) ∧ r ≠ p ∧ 1 ≤ xs.length ∧ xs.length ≤ sizeLine ∧ ∀ v H', v ∈ xs → PoolL H' p l → SameBut p H H' → Q v H'
section
variable {P : Program} {w : World} {K : PySem.W.Frag} {mg : Str → Option Value} {base : Heap}
theorem ok_pool {f : Addr} {fd : FuncData} (F : Fun K "_law_pool" "_law_pool" sPool f fd) (T : Blt mg) : FnOk P w K mg base CX0 1 f fd ["script"] (spPool K) := by
  refine F.ok scPool (fun vs H Q E h => ?_) (fun cdv A outer s H vs Q E hr h => ?_)
  · obtain ⟨a, ns, rfl, _⟩ := h
    rfl
  · obtain ⟨a, ns, rfl, hS, hn, k⟩ := h
    refine ⟨_, (pss_one (ps_ret (pe_lst (pa_cons (pe_callTy call_list_of (by rfl) T.b_list (by decide +kernel) (pa_cons (pv 0) pa_nil)) (pa_cons pe_int (pa_cons pe_int (pa_cons pe_int (pa_cons pe_int pa_nil)))))))), ?_⟩
    refine ⟨_, rfl, a, _, rfl, .inl hS, fun l hl => ⟨(by show 5 ≤ sizeLine; decide), fun p hp => ?_⟩⟩
    have nlp : l ≠ p := ne_of_none upd_same hp
    have hp0 : H p = Option.none := by rw [upd_ne (Ne.symm nlp)] at hp; exact hp
    exact k _ p l (same_upd (same_upd (Same.refl _) hl) hp) hp0 hl ⟨ns, 0, 0, 0, 0, upd_same, by rw [upd_ne nlp, upd_same], hn, by omega, by omega, nlp⟩
theorem ok_draw {f : Addr} {fd : FuncData} (F : Fun K "_law_draw" "_law_draw" sDraw f fd) (T : Blt mg) : FnOk P w K mg base CX0 1 f fd ["pool", "many"] spDraw := by
  refine F.ok scDraw (fun vs H Q E h => ?_) (fun cdv A outer s H vs Q E hr h => ?_)
  · obtain ⟨p, l, m, rfl, _⟩ := h
    rfl
  · obtain ⟨p, l, m, rfl, ⟨ns, a, b, c, d, hp, hl, hn, ha, hb, nlp⟩, h1, h2, k⟩ := h
    refine ⟨_, (pss_cons (ps_if (pt_cmpR op_gt (pe_ix (r := rIxL K) ix_list (pv 0) pe_int (fun _ _ => rfl)) pe_int (nomark _)) (pss_cons (ps_set (i := 2) scDraw.nd rfl (Or.inl rfl) (pe_op op_modN (pe_callTy call_int1 (by rfl) T.b_int (by decide +kernel) (pa_cons (pe_ix (r := rIxL K) ix_list (pv 0) pe_int (fun _ _ => rfl)) pa_nil)) (pv 1)))
    (pss_cons (ps_asg (pe_op op_fdivW (pe_ix (r := rIxL K) ix_list (pv 0) pe_int (fun _ _ => rfl)) (pv 1)) (pg_sub (pv 0) pe_int set_list))
    (pss_one (ps_ret (pv 2))))) pss_nil)
    (pss_cons (ps_if (PW.pt (pw_and (pt_cmpR op_eq (pe_op op_modN (pe_callTy call_int1 (by rfl) T.b_int (by decide +kernel) (pa_cons (pe_ix (r := rIxL K) ix_list (pv 0) pe_int (fun _ _ => rfl)) pa_nil)) pe_int) pe_int (nomark _)) (pw_and1 (pt_cmpR op_lt (pe_ix (r := rIxL K) ix_list (pv 0) pe_int (fun _ _ => rfl)) (pe_callB call_len (by rfl) T.b_len (by decide +kernel) (pa_cons (pe_ix (r := rIxL K) ix_list (pv 0) pe_int (fun _ _ => rfl)) pa_nil)) (nomark _))))) (pss_cons (ps_set (i := 3) scDraw.nd rfl (Or.inl rfl) (pe_callB call_abs (by rfl) T.b_abs (by decide +kernel) (pa_cons (pe_ix (r := rIxL K) ix_list (pe_ix (r := rIxL K) ix_list (pv 0) pe_int (fun _ _ => rfl)) (pe_ix (r := rIxL K) ix_list (pv 0) pe_int (fun _ _ => rfl)) (fun _ _ => rfl)) pa_nil)))
    (pss_cons (ps_asg (pe_op op_add (pe_ix (r := rIxL K) ix_list (pv 0) pe_int (fun _ _ => rfl)) pe_int) (pg_sub (pv 0) pe_int set_list))
    (pss_cons (ps_if (pt_cmpR op_ge (pv 3) (pe_op op_pow pe_int pe_int) (nomark _)) (pss_cons (ps_asg (pe_op op_fdivW (pv 3) (pv 1)) (pg_sub (pv 0) pe_int set_list))
    (pss_one (ps_ret (pe_op op_modN (pe_callTy call_int1 (by rfl) T.b_int (by decide +kernel) (pa_cons (pv 3) pa_nil)) (pv 1))))) pss_nil)
    (pss_one (ps_asg (pv 3) (pg_sub (pv 0) pe_int set_list)))))) pss_nil)
    (pss_cons (ps_asg (pe_op op_add (pe_ix (r := rIxL K) ix_list (pv 0) pe_int (fun _ _ => rfl)) pe_int) (pg_sub (pv 0) pe_int set_list))
    (pss_cons (ps_set (i := 4) scDraw.nd rfl (Or.inl rfl) (pe_op op_modN (pe_callTy call_int1 (by rfl) T.b_int (by decide +kernel) (pa_cons (pe_op op_add (pe_op op_add (pe_op op_mul (pe_ix (r := rIxL K) ix_list (pv 0) pe_int (fun _ _ => rfl)) pe_int) (pe_op op_mul (pe_ix (r := rIxL K) ix_list (pv 0) pe_int (fun _ _ => rfl)) pe_int)) pe_int) pa_nil)) pe_int))
    (pss_cons (ps_set (i := 4) scDraw.nd rfl (Or.inl rfl) (pe_op op_modN (pe_callTy call_int1 (by rfl) T.b_int (by decide +kernel) (pa_cons (pe_op op_add (pe_op op_mul (pv 4) (pv 4)) (pe_op op_mul (pe_ix (r := rIxL K) ix_list (pv 0) pe_int (fun _ _ => rfl)) pe_int)) pa_nil)) pe_int))
    (pss_one (ps_ret (pe_op op_modN (pe_callTy call_int1 (by rfl) T.b_int (by decide +kernel) (pa_cons (pv 4) pa_nil)) (pv 1))))))))), ?_⟩
    have m0 : (0 : Int) < m := by omega
    have mne : m ≠ 0 := by omega
    have hw : CDivW 0 m := by
      have z := wide_div (i := 0) (j := m) (b := 63) m0 (by omega) (by omega) (by omega)
      exact z
    have hw' : ∀ i : Int, CDivW i m := fun i => hw
    -- the end: pool[4] = pool[4] + 1 .. return
    have fin : ∀ (a b c d : Int) (x y : Option V) (H' : Hp), H' p = some (.lst [.ref l, .int a, .int b, .int c, .int d]) → H' l = some (.lst (ns.map V.int)) → 0 ≤ a → 0 ≤ b → SameBut p H H' →
        tSeq (tAsg (tOp (rI0 fun i j => .int (i + j)) (tOp (rIxL K) (tVar 0) (tC (.int 4))) (tC (.int 1))) (gSub (tVar 0) (tC (.int 4)) rSetL))
          (tSeq (tAsg (tOp (rI (fun i j => j ≠ 0) fun i j => .int (i.fmod j)) (tCB (fun xs H Q => (∃ i, xs = [.int i] ∧ Q (.int i) H) ∨ ∃ k, xs = [.bl k] ∧ Q (.int (if k then 1 else 0)) H)
            (tCons (tOp (rI0 fun i j => .int (i + j)) (tOp (rI0 fun i j => .int (i + j)) (tOp (rI CMul fun i j => .int (i * j)) (tOp (rIxL K) (tVar 0) (tC (.int 3))) (tC (.int 48271))) (tOp (rI CMul fun i j => .int (i * j)) (tOp (rIxL K) (tVar 0) (tC (.int 4))) (tC (.int 69621)))) (tC (.int 7919))) tNil)) (tC (.int 2147483647))) (gName 4))
          (tSeq (tAsg (tOp (rI (fun i j => j ≠ 0) fun i j => .int (i.fmod j)) (tCB (fun xs H Q => (∃ i, xs = [.int i] ∧ Q (.int i) H) ∨ ∃ k, xs = [.bl k] ∧ Q (.int (if k then 1 else 0)) H)
            (tCons (tOp (rI0 fun i j => .int (i + j)) (tOp (rI CMul fun i j => .int (i * j)) (tVar 4) (tVar 4)) (tOp (rI CMul fun i j => .int (i * j)) (tOp (rIxL K) (tVar 0) (tC (.int 4))) (tC (.int 40692)))) tNil)) (tC (.int 2147483399))) (gName 4))
          (tRet (tOp (rI (fun i j => j ≠ 0) fun i j => .int (i.fmod j)) (tCB (fun xs H Q => (∃ i, xs = [.int i] ∧ Q (.int i) H) ∨ ∃ k, xs = [.bl k] ∧ Q (.int (if k then 1 else 0)) H) (tCons (tVar 4) tNil)) (tVar 1)))))
          { nx := fun _ H' => Q .non H', rt := Q } [some (.ref p), some (.int m), x, y, none] H' := by
      intro a b c d x y H' hp hl ha hb sb
      refine ⟨_, rfl, p, _, _, _, rfl, rfl, SqL.of hp, atI_nat (j := 4) rfl, _, _, rfl, rfl, _, rfl, p, _, _, 4, rfl, rfl, hp, rfl, ?_⟩
      have hl' : upd H' p (.lst [.ref l, .int a, .int b, .int c, .int (d + 1)]) l = some (.lst (ns.map V.int)) := by rw [upd_ne nlp]; exact hl
      show tSeq _ _ _ _ (upd H' p (.lst [.ref l, .int a, .int b, .int c, .int (d + 1)]))
      have hp2 : upd H' p (.lst [V.ref l, V.int a, V.int b, V.int c, V.int (d + 1)]) p = some (.lst [V.ref l, V.int a, V.int b, V.int c, V.int (d + 1)]) := upd_same
      have sb2 : SameBut p H (upd H' p (.lst [V.ref l, V.int a, V.int b, V.int c, V.int (d + 1)])) := sb.upd
      generalize upd H' p (.lst [V.ref l, V.int a, V.int b, V.int c, V.int (d + 1)]) = H2 at *
      refine ⟨_, rfl, p, _, _, _, rfl, rfl, SqL.of hp2, atI_nat (j := 3) rfl, _, _, rfl, rfl, .inr ⟨by decide, by decide⟩, ?_⟩
      refine ⟨_, rfl, p, _, _, _, rfl, rfl, SqL.of hp2, atI_nat (j := 4) rfl, _, _, rfl, rfl, .inr ⟨by decide, by decide⟩, ?_⟩
      refine ⟨_, _, rfl, rfl, _, _, rfl, rfl, .inl ⟨_, rfl, _, _, rfl, rfl, (show (2147483647 : Int) ≠ 0 by decide), ?_⟩⟩
      have q0 := Int.fmod_nonneg_of_pos (c * 48271 + (d + 1) * 69621 + 7919) (show (0 : Int) < 2147483647 by decide)
      have q1 := Int.fmod_lt_of_pos (c * 48271 + (d + 1) * 69621 + 7919) (show (0 : Int) < 2147483647 by decide)
      refine ⟨_, rfl, _, rfl, _, _, rfl, rfl, .inl ⟨by omega, by omega⟩, ?_⟩
      refine ⟨_, rfl, p, _, _, _, rfl, rfl, SqL.of hp2, atI_nat (j := 4) rfl, _, _, rfl, rfl, .inr ⟨by decide, by decide⟩, ?_⟩
      refine ⟨_, _, rfl, rfl, .inl ⟨_, rfl, _, _, rfl, rfl, (show (2147483399 : Int) ≠ 0 by decide), ?_⟩⟩
      refine ⟨_, rfl, .inl ⟨_, rfl, _, rfl, _, _, rfl, rfl, mne, ?_⟩⟩
      exact k _ _ (Int.fmod_nonneg_of_pos _ m0) (Int.fmod_lt_of_pos _ m0) ⟨ns, a, b, c, d + 1, hp2, hl', hn, ha, hb, nlp⟩ sb2
    refine ⟨_, rfl, p, _, _, _, rfl, rfl, SqL.of hp, atI_nat (j := 2) rfl, _, _, rfl, rfl, _, rfl, ?_⟩
    refine ite2 (fun hb0 => ?_) (fun hb0 => ?_)
    · -- what is left of a great cell
      refine ⟨_, rfl, p, _, _, _, rfl, rfl, SqL.of hp, atI_nat (j := 2) rfl, .inl ⟨_, rfl, _, rfl, _, _, rfl, rfl, mne, ?_⟩⟩
      refine ⟨_, rfl, p, _, _, _, rfl, rfl, SqL.of hp, atI_nat (j := 2) rfl, _, rfl, _, _, rfl, rfl, hw' _, _, rfl, p, _, _, 2, rfl, rfl, hp, rfl, ?_⟩
      refine ⟨_, rfl, ?_⟩
      exact k _ _ (Int.fmod_nonneg_of_pos _ m0) (Int.fmod_lt_of_pos _ m0) ⟨ns, a, b / m, c, d, upd_same, by rw [upd_ne nlp]; exact hl, hn, ha, Int.ediv_nonneg hb (by omega), nlp⟩ (SameBut.refl p H).upd
    · refine ⟨_, rfl, p, _, _, _, rfl, rfl, SqL.of hp, atI_nat (j := 4) rfl, .inl ⟨_, rfl, _, _, rfl, rfl, (show (8 : Int) ≠ 0 by decide), rfl, _, rfl, ?_⟩⟩
      refine ite2 (fun h8 => ?_) (fun h8 => ?_)
      · refine ⟨_, rfl, p, _, _, _, rfl, rfl, SqL.of hp, atI_nat (j := 1) rfl, _, rfl, p, _, _, _, rfl, rfl, SqL.of hp, atI_nat (j := 0) rfl, _, _, rfl, .inl ⟨_, SqL.of hl, rfl⟩, _, _, rfl, rfl, _, rfl, ?_⟩
        refine ite2 (fun hlt => ?_) (fun hlt => ?_)
        · have hlt' := of_decide_eq_true hlt
          rw [List.length_map] at hlt'
          obtain ⟨n, rfl⟩ := Int.eq_ofNat_of_zero_le ha
          have hn' : n < ns.length := by omega
          refine ⟨_, rfl, p, _, _, _, rfl, rfl, SqL.of hp, atI_nat (j := 0) rfl, _, rfl, p, _, _, _, rfl, rfl, SqL.of hp, atI_nat (j := 1) rfl, l, _, _, _, rfl, rfl, SqL.of hl, atI_nat (v := V.int ns[n]) (by simp [hn']), _, rfl, ?_⟩
          have hcell : 0 ≤ (if ns[n] < 0 then -ns[n] else ns[n]) := by split <;> omega
          generalize (if ns[n] < 0 then -ns[n] else ns[n]) = cell at *
          refine ⟨_, rfl, p, _, _, _, rfl, rfl, SqL.of hp, atI_nat (j := 1) rfl, _, _, rfl, rfl, _, rfl, p, _, _, 1, rfl, rfl, hp, rfl, ?_⟩
          have hp2 : upd H p (.lst [V.ref l, V.int ((n : Int) + 1), V.int b, V.int c, V.int d]) p = some (.lst [V.ref l, V.int ((n : Int) + 1), V.int b, V.int c, V.int d]) := upd_same
          have hl2 : upd H p (.lst [V.ref l, V.int ((n : Int) + 1), V.int b, V.int c, V.int d]) l = some (.lst (ns.map V.int)) := by rw [upd_ne nlp]; exact hl
          have sb2 : SameBut p H (upd H p (.lst [V.ref l, V.int ((n : Int) + 1), V.int b, V.int c, V.int d])) := (SameBut.refl p H).upd
          show tSeq _ _ _ _ (upd H p (.lst [V.ref l, V.int ((n : Int) + 1), V.int b, V.int c, V.int d]))
          generalize upd H p (.lst [V.ref l, V.int ((n : Int) + 1), V.int b, V.int c, V.int d]) = H2 at *
          refine ⟨_, rfl, _, _, rfl, rfl, ⟨by decide, by decide, by decide⟩, _, _, rfl, rfl, _, rfl, ?_⟩
          refine ite2 (fun hg => ?_) (fun hg => ?_)
          · refine ⟨_, rfl, _, rfl, _, _, rfl, rfl, hw' _, _, rfl, p, _, _, 2, rfl, rfl, hp2, rfl, ?_⟩
            refine ⟨_, rfl, .inl ⟨_, rfl, _, rfl, _, _, rfl, rfl, mne, ?_⟩⟩
            exact k _ _ (Int.fmod_nonneg_of_pos _ m0) (Int.fmod_lt_of_pos _ m0) ⟨ns, (n : Int) + 1, cell / m, c, d, upd_same, by rw [upd_ne nlp]; exact hl2, hn, by omega, Int.ediv_nonneg hcell (by omega), nlp⟩ sb2.upd
          · refine ⟨_, rfl, _, rfl, p, _, _, 3, rfl, rfl, hp2, rfl, ?_⟩
            exact fin ((n : Int) + 1) b cell d none (some (.int cell)) _ upd_same (by rw [upd_ne nlp]; exact hl2) (by omega) hb sb2.upd
        · exact fin a b c d none none H hp hl ha hb (SameBut.refl p H)
      · refine iteF ?_
        exact fin a b c d none none H hp hl ha hb (SameBut.refl p H)
theorem ok_pick {f fD : Addr} {fd fdD : FuncData} (F : Fun K "_law_pick" "_law_pick" sPick f fd) (T : Blt mg)
    (FD : FnOk P w K mg base CX0 1 fD fdD ["pool", "many"] spDraw) (mgD : mg "_law_draw" = some (.ref fD)) (kD : PySem.W.keepIn K (.ref fD) = true) (bD : Binds K fdD ["pool", "many"] []) : FnOk P w K mg base CX0 2 f fd ["pool", "rows"] spPick := by
  refine F.ok scPick (fun vs H Q E h => ?_) (fun cdv A outer s H vs Q E hr h => ?_)
  · obtain ⟨p, r, l, xs, rfl, _⟩ := h
    rfl
  · obtain ⟨p, r, l, xs, rfl, hP, hr1, nrp, hx, hz, k⟩ := h
    refine ⟨_, (pss_one (ps_ret (pe_ix (r := rIxL K) ix_list (pv 1) (pe_call FD hr rfl mgD kD bD .nil pass0 (pa_cons (pv 0) (pa_cons (pe_callB call_len (by rfl) T.b_len (by decide +kernel) (pa_cons (pv 1) pa_nil)) pa_nil))) (fun _ _ => rfl)))), ?_⟩
    refine ⟨_, rfl, _, rfl, _, rfl, _, _, rfl, .inl ⟨_, SqL.of hr1, rfl⟩, p, l, (xs.length : Int), rfl, hP, by omega, ?_, fun v H' h0 hv hP' sb => ?_⟩
    · rw [sizeLine_eq] at hz; omega
    · obtain ⟨n, rfl⟩ := Int.eq_ofNat_of_zero_le h0
      have hn : n < xs.length := by omega
      refine ⟨r, xs, _, xs[n], rfl, rfl, SqL.of (sb _ _ nrp hr1), atI_nat (by simp [hn]), ?_⟩
      exact k _ _ (List.getElem_mem hn) hP' sb
end
/-! ### _law_same: of the same data it says True -/
/-- data without dicts, so deep at most -/
def okD : Nat → PyData → Prop
  | 0, _ => False
  | n + 1, d => match d with
    | .dict _ => False
    | .list ds => ds.length ≤ 1000000 ∧ ∀ e ∈ ds, okD n e
    | .tuple ds => ds.length ≤ 1000000 ∧ ∀ e ∈ ds, okD n e
    | _ => True
theorem seqT {K : PySem.W.Frag} {H H' : Hp} {a : Addr} {xs : List V} (s : Same H H') (h : SqT K H a xs) : SqT K H' a xs := by
  rcases h with (h | ⟨o, h⟩) | h
  · exact .inl (.inl (s _ _ h))
  · exact .inl (.inr ⟨o, s _ _ h⟩)
  · exact .inr h
mutual
theorem dp_keep {K : PySem.W.Frag} {H H' : Hp} (s : Same H H') : ∀ {d : PyData} {v : V}, Dp K H v d → Dp K H' v d
  | _, _, .non => .non
  | _, _, .bl b => .bl b
  | _, _, .int i => .int i
  | _, _, .str x => .str x
  | _, _, .lst h t => .lst (s.seq h) (dpAll_keep s t)
  | _, _, .tup h t => .tup (by
      rcases h with (h | ⟨o, h⟩) | h
      · exact .inl (.inl (s _ _ h))
      · exact .inl (.inr ⟨o, s _ _ h⟩)
      · exact .inr h) (dpAll_keep s t)
theorem dpAll_keep {K : PySem.W.Frag} {H H' : Hp} (s : Same H H') : ∀ {ds : List PyData} {vs : List V}, DpAll K H vs ds → DpAll K H' vs ds
  | _, _, .nil => .nil
  | _, _, .cons h t => .cons (dp_keep s h) (dpAll_keep s t)
end
theorem dpAll_at {K : PySem.W.Frag} {H : Hp} : ∀ {ds : List PyData} {vs : List V} {i : Nat} {d : PyData}, DpAll K H vs ds → ds[i]? = some d → ∃ v, vs[i]? = some v ∧ Dp K H v d
  | _, _, _, _, .nil, e => by simp at e
  | _, _, 0, _, .cons h _, e => by
    have := Option.some.inj e
    subst this
    exact ⟨_, rfl, h⟩
  | _, _, i + 1, _, .cons _ t, e => by
    obtain ⟨x, e1, e2⟩ := dpAll_at (i := i) t (by simpa using e)
    exact ⟨x, by simpa using e1, e2⟩
theorem dpAll_len {K : PySem.W.Frag} {H : Hp} : ∀ {ds : List PyData} {vs : List V}, DpAll K H vs ds → vs.length = ds.length
  | _, _, .nil => rfl
  | _, _, .cons _ t => by rw [List.length_cons, List.length_cons, dpAll_len t]
/-- the type of a list, a tuple as the heap tells it -/
theorem tyL {K : PySem.W.Frag} {H : Hp} {a : Addr} {xs : List V} (h : SqL K H a xs) : TyX K H (.ref a) (.type "list") := by
  rcases h with (h | ⟨o, h⟩) | ⟨o, its, n, h, c, _⟩
  · exact .base (.lst h)
  · exact .base (.frz h)
  · exact .kList h c
theorem tyT {K : PySem.W.Frag} {H : Hp} {a : Addr} {xs : List V} (h : SqT K H a xs) : TyX K H (.ref a) (.type "tuple") := by
  rcases h with (h | ⟨o, h⟩) | ⟨o, its, n, h, c, _⟩
  · exact .base (.tup h)
  · exact .fTuple h
  · exact .kTuple h c
theorem any_no {K : PySem.W.Frag} {t : String} (h1 : kitB t "tuple" = some false) (h2 : kitB t "list" = some false) : PySem.W.kitAny K (.type t) [.type "tuple", .type "list"] = some false :=
  kitAny_cons (kit_ty h1) (fun _ => kitAny_cons (kit_ty h2) (fun _ => kitAny_nil) (fun z => by cases z)) (fun z => by cases z)
theorem any_list {K : PySem.W.Frag} : PySem.W.kitAny K (.type "list") [.type "tuple", .type "list"] = some true :=
  kitAny_cons (b := false) (kit_ty (by decide +kernel)) (fun _ => kitAny_cons (b := true) (kit_ty (by decide +kernel)) (fun z => by cases z) (fun _ => rfl)) (fun z => by cases z)
theorem any_tuple {K : PySem.W.Frag} : PySem.W.kitAny K (.type "tuple") [.type "tuple", .type "list"] = some true :=
  kitAny_cons (b := true) (kit_ty (by decide +kernel)) (fun z => by cases z) (fun _ => rfl)
def spSame (K : PySem.W.Frag) (n : Nat) : Sp := fun vs H Q _ => ∃ (v1 v2 : V) (d : PyData), vs = [v1, v2] ∧ Dp K H v1 d ∧ Dp K H v2 d ∧ okD n d ∧ ∀ H', Same H H' → Q (.bl true) H'
section
variable {P : Program} {w : World} {K : PySem.W.Frag} {mg : Str → Option Value} {base : Heap}
theorem ok_same {f : Addr} {fd : FuncData} (F : Fun K "_law_same" "_law_same" sSame f fd) (T : Blt mg) (mgS : mg "_law_same" = some (.ref f)) (kS : PySem.W.keepIn K (.ref f) = true) (bS : Binds K fd ["actual", "due"] []) :
    ∀ n : Nat, FnOk P w K mg base CX0 (n + 1) f fd ["actual", "due"] (spSame K n)
  | 0 => by
    refine F.ok scSame (fun vs H Q E h => ?_) (fun cdv A outer s H vs Q E hr h => ?_)
    · obtain ⟨v1, v2, d, rfl, _⟩ := h
      rfl
    · obtain ⟨v1, v2, d, rfl, _, _, z, _⟩ := h
      exact z.elim
  | n + 1 => by
    have FS := ok_same F T mgS kS bS n
    refine F.ok scSame (fun vs H Q E h => ?_) (fun cdv A outer s H vs Q E hr h => ?_)
    · obtain ⟨v1, v2, d, rfl, _⟩ := h
      rfl
    · obtain ⟨v1, v2, d, rfl, h1, h2, hd, k⟩ := h
      refine ⟨_, (pss_cons (ps_if (pt_cmpR op_isN (pv 1) pe_non (nomark _)) (pss_one (ps_ret (pe_cmpR op_isN (pv 0) pe_non (nomark _)))) pss_nil)
    (pss_cons (ps_if (pt_val (pe_callB call_isiT (by rfl) T.b_isinstance (by decide +kernel) (pa_cons (pv 1) (pa_cons (pe_tup (pa_cons (pe_bltn (v := .ty "tuple") (u := .type "tuple") (by rfl) T.b_tuple (by decide +kernel) rfl) (pa_cons (pe_bltn (v := .ty "list") (u := .type "list") (by rfl) T.b_list (by decide +kernel) rfl) pa_nil))) pa_nil)))) (pss_cons (ps_if (PW.pt (pw_or (pt_cmpR op_ne (pe_callB call_isi (by rfl) T.b_isinstance (by decide +kernel) (pa_cons (pv 1) (pa_cons (pe_bltn (v := .ty "tuple") (u := .type "tuple") (by rfl) T.b_tuple (by decide +kernel) rfl) pa_nil))) (pe_callB call_isi (by rfl) T.b_isinstance (by decide +kernel) (pa_cons (pv 0) (pa_cons (pe_bltn (v := .ty "tuple") (u := .type "tuple") (by rfl) T.b_tuple (by decide +kernel) rfl) pa_nil))) (nomark _)) (pw_or1 (pt_cmpR op_ne (pe_callB call_isi (by rfl) T.b_isinstance (by decide +kernel) (pa_cons (pv 1) (pa_cons (pe_bltn (v := .ty "list") (u := .type "list") (by rfl) T.b_list (by decide +kernel) rfl) pa_nil))) (pe_callB call_isi (by rfl) T.b_isinstance (by decide +kernel) (pa_cons (pv 0) (pa_cons (pe_bltn (v := .ty "list") (u := .type "list") (by rfl) T.b_list (by decide +kernel) rfl) pa_nil))) (nomark _))))) (pss_one (ps_ret pe_bl)) pss_nil)
    (pss_cons (ps_if (pt_cmpR op_ne (pe_callB call_len (by rfl) T.b_len (by decide +kernel) (pa_cons (pv 0) pa_nil)) (pe_callB call_len (by rfl) T.b_len (by decide +kernel) (pa_cons (pv 1) pa_nil)) (nomark _)) (pss_one (ps_ret pe_bl)) pss_nil)
    (pss_cons (ps_for PassesOwn.never rfl (pi_range1 (by rfl) T.b_range (pa_cons (pe_callB call_len (by rfl) T.b_len (by decide +kernel) (pa_cons (pv 1) pa_nil)) pa_nil)) (pg_name (i := 2) scSame.nd rfl (Or.inl rfl)) (pss_one (ps_if (pt_not (pt_val (pe_call FS hr rfl mgS kS bS .nil pass0 (pa_cons (pe_ix (r := rIx K) ix_seq (pv 0) (pv 2) (fun _ _ => rfl)) (pa_cons (pe_ix (r := rIx K) ix_seq (pv 1) (pv 2) (fun _ _ => rfl)) pa_nil))))) (pss_one (ps_ret pe_bl)) pss_nil)))
    (pss_one (ps_ret pe_bl))))) pss_nil)
    (pss_cons (ps_if (pt_val (pe_callB call_isi (by rfl) T.b_isinstance (by decide +kernel) (pa_cons (pv 1) (pa_cons (pe_bltn (v := .ty "bool") (u := .type "bool") (by rfl) T.b_bool (by decide +kernel) rfl) pa_nil)))) (pss_one (ps_ret (pe_and (pe_callB call_isi (by rfl) T.b_isinstance (by decide +kernel) (pa_cons (pv 0) (pa_cons (pe_bltn (v := .ty "bool") (u := .type "bool") (by rfl) T.b_bool (by decide +kernel) rfl) pa_nil))) (pe_one (pe_cmpR op_eq (pv 0) (pv 1) (nomark _)))))) pss_nil)
    (pss_cons (ps_if (pt_val (pe_callB call_isi (by rfl) T.b_isinstance (by decide +kernel) (pa_cons (pv 1) (pa_cons (pe_bltn (v := .ty "int") (u := .type "int") (by rfl) T.b_int (by decide +kernel) rfl) pa_nil)))) (pss_one (ps_ret (pe_and (pe_callB call_isi (by rfl) T.b_isinstance (by decide +kernel) (pa_cons (pv 0) (pa_cons (pe_bltn (v := .ty "int") (u := .type "int") (by rfl) T.b_int (by decide +kernel) rfl) pa_nil))) (pe_and (pe_not (pe_callB call_isi (by rfl) T.b_isinstance (by decide +kernel) (pa_cons (pv 0) (pa_cons (pe_bltn (v := .ty "bool") (u := .type "bool") (by rfl) T.b_bool (by decide +kernel) rfl) pa_nil)))) (pe_one (pe_cmpR op_eq (pv 0) (pv 1) (nomark _))))))) pss_nil)
    (pss_one (ps_ret (pe_and (pe_callB call_isi (by rfl) T.b_isinstance (by decide +kernel) (pa_cons (pv 0) (pa_cons (pe_bltn (v := .ty "str") (u := .type "str") (by rfl) T.b_str (by decide +kernel) rfl) pa_nil))) (pe_one (pe_cmpR op_eq (pv 0) (pv 1) (nomark _)))))))))), ?_⟩
      cases d with
      | dict _ => exact hd.elim
      | none =>
        cases h1; cases h2
        refine ⟨_, rfl, rfl, _, rfl, ?_⟩
        refine iteT ?_
        refine ⟨_, rfl, rfl, ?_⟩
        exact k _ (Same.refl _)
      | bool b =>
        cases h1; cases h2
        refine ⟨_, rfl, rfl, _, rfl, ?_⟩
        refine iteF ?_
        refine ⟨_, rfl, (by show 2 ≤ sizeLine; decide), fun p hp => ?_⟩
        refine ⟨_, p, _, .type "bool", _, false, rfl, upd_same, .cons (.ty "tuple") (.cons (.ty "list") .nil), .base (.bl _), any_no (by decide +kernel) (by decide +kernel), false, rfl, ?_⟩
        refine iteF ?_
        refine ⟨_, rfl, _, _, .type "bool", _, true, rfl, .ty "bool", .base (.bl _), kit_ty (by decide +kernel), true, rfl, ?_⟩
        refine iteT ?_
        refine ⟨_, rfl, _, _, .type "bool", _, true, rfl, .ty "bool", .base (.bl _), kit_ty (by decide +kernel), true, rfl, ?_⟩
        refine iteT ?_
        refine ⟨_, rfl, _, rfl, rfl, ?_⟩
        rw [decide_eq_true rfl]
        exact k _ (same_upd (Same.refl _) hp)
      | int i =>
        cases h1; cases h2
        refine ⟨_, rfl, rfl, _, rfl, ?_⟩
        refine iteF ?_
        refine ⟨_, rfl, (by show 2 ≤ sizeLine; decide), fun p hp => ?_⟩
        refine ⟨_, p, _, .type "int", _, false, rfl, upd_same, .cons (.ty "tuple") (.cons (.ty "list") .nil), .base (.int _), any_no (by decide +kernel) (by decide +kernel), false, rfl, ?_⟩
        refine iteF ?_
        refine ⟨_, rfl, _, _, .type "int", _, false, rfl, .ty "bool", .base (.int _), kit_ty (by decide +kernel), false, rfl, ?_⟩
        refine iteF ?_
        refine ⟨_, rfl, _, _, .type "int", _, true, rfl, .ty "int", .base (.int _), kit_ty (by decide +kernel), true, rfl, ?_⟩
        refine iteT ?_
        refine ⟨_, rfl, _, _, .type "int", _, true, rfl, .ty "int", .base (.int _), kit_ty (by decide +kernel), true, rfl, ?_⟩
        refine iteT ?_
        refine ⟨_, rfl, _, _, .type "int", _, false, rfl, .ty "bool", .base (.int _), kit_ty (by decide +kernel), false, rfl, true, rfl, ?_⟩
        refine iteT ?_
        refine ⟨_, rfl, _, rfl, rfl, ?_⟩
        rw [decide_eq_true rfl]
        exact k _ (same_upd (Same.refl _) hp)
      | str x =>
        cases h1; cases h2
        refine ⟨_, rfl, rfl, _, rfl, ?_⟩
        refine iteF ?_
        refine ⟨_, rfl, (by show 2 ≤ sizeLine; decide), fun p hp => ?_⟩
        refine ⟨_, p, _, .type "str", _, false, rfl, upd_same, .cons (.ty "tuple") (.cons (.ty "list") .nil), .base (.str _), any_no (by decide +kernel) (by decide +kernel), false, rfl, ?_⟩
        refine iteF ?_
        refine ⟨_, rfl, _, _, .type "str", _, false, rfl, .ty "bool", .base (.str _), kit_ty (by decide +kernel), false, rfl, ?_⟩
        refine iteF ?_
        refine ⟨_, rfl, _, _, .type "str", _, false, rfl, .ty "int", .base (.str _), kit_ty (by decide +kernel), false, rfl, ?_⟩
        refine iteF ?_
        refine ⟨_, rfl, _, _, .type "str", _, true, rfl, .ty "str", .base (.str _), kit_ty (by decide +kernel), true, rfl, ?_⟩
        refine iteT ?_
        refine ⟨_, rfl, _, rfl, rfl, ?_⟩
        rw [decide_eq_true rfl]
        exact k _ (same_upd (Same.refl _) hp)
      | list ds =>
        cases h1 with
        | lst q1 t1 =>
        cases h2 with
        | lst q2 t2 =>
        rename_i a1 xs1 a2 xs2
        have l1 := dpAll_len t1
        have l2 := dpAll_len t2
        refine ⟨_, rfl, rfl, _, rfl, ?_⟩
        refine iteF ?_
        refine ⟨_, rfl, (by show 2 ≤ sizeLine; decide), fun p hp => ?_⟩
        refine ⟨_, p, _, .type "list", _, true, rfl, upd_same, .cons (.ty "tuple") (.cons (.ty "list") .nil), tyL (Same.seq (same_upd (Same.refl _) hp) q2), any_list, true, rfl, ?_⟩
        refine iteT ?_
        have s0 : Same H (upd H p (.tup [.ty "tuple", .ty "list"])) := same_upd (Same.refl _) hp
        show tSeq _ _ _ _ (upd H p (.tup [.ty "tuple", .ty "list"]))
        generalize upd H p (.tup [V.ty "tuple", V.ty "list"]) = H1 at *
        have p1 := Same.seq s0 q1
        have p2 := Same.seq s0 q2
        refine ⟨_, rfl, _, _, .type "list", _, false, rfl, .ty "tuple", tyL p2, kit_ty (by decide +kernel), _, rfl, _, _, .type "list", _, false, rfl, .ty "tuple", tyL p1, kit_ty (by decide +kernel), rfl, _, rfl, ?_⟩
        refine iteF ?_
        refine ⟨_, rfl, _, _, .type "list", _, true, rfl, .ty "list", tyL p2, kit_ty (by decide +kernel), _, rfl, _, _, .type "list", _, true, rfl, .ty "list", tyL p1, kit_ty (by decide +kernel), rfl, _, rfl, ?_⟩
        refine iteF ?_
        refine ⟨_, rfl, _, _, rfl, .inl ⟨_, p1, rfl⟩, _, rfl, _, _, rfl, .inl ⟨_, p2, rfl⟩, rfl, _, rfl, ?_⟩
        rw [l1, l2]
        refine iteNS rfl ?_
        refine ⟨_, rfl, _, _, rfl, .inl ⟨_, p2, rfl⟩, _, rfl, ?_, ?_, ?_⟩
        · rw [l2]; have := hd.1; omega
        · rw [l2]; have := hd.1; omega
        rw [l2]
        refine for_range (lo := 0) (n := ((ds.length : Nat) : Int).toNat) (fun i σ H' => ∃ v, σ = [some (.ref a1), some (.ref a2), v] ∧ Same H1 H') ⟨none, rfl, Same.refl _⟩ ?_ ?_
        · rintro i σ H' hi ⟨v, rfl, sH⟩
          have hi' : i < ds.length := by simpa using hi
          obtain ⟨x1, e1, d1⟩ := dpAll_at t1 (List.getElem?_eq_getElem hi')
          obtain ⟨x2, e2, d2⟩ := dpAll_at t2 (List.getElem?_eq_getElem hi')
          have s3 := s0.trans sH
          have ei : ((0 : Int) + (i : Int)) = (i : Int) := by omega
          refine ⟨_, rfl, _, rfl, .inl ⟨a1, xs1, _, x1, rfl, rfl, Same.seq sH p1, by rw [ei]; exact atI_nat e1, ?_⟩⟩
          refine ⟨_, rfl, _, rfl, .inl ⟨a2, xs2, _, x2, rfl, rfl, Same.seq sH p2, by rw [ei]; exact atI_nat e2, ?_⟩⟩
          refine ⟨x1, x2, ds[i], rfl, dp_keep s3 d1, dp_keep s3 d2, hd.2 _ (List.getElem_mem hi'), fun H2 s2 => ⟨true, rfl, ?_⟩⟩
          refine iteF ?_
          exact ⟨_, rfl, sH.trans s2⟩
        · rintro σ H' ⟨v, rfl, sH⟩
          exact k _ (s0.trans sH)
      | tuple ds =>
        cases h1 with
        | tup q1 t1 =>
        cases h2 with
        | tup q2 t2 =>
        rename_i a1 xs1 a2 xs2
        have l1 := dpAll_len t1
        have l2 := dpAll_len t2
        refine ⟨_, rfl, rfl, _, rfl, ?_⟩
        refine iteF ?_
        refine ⟨_, rfl, (by show 2 ≤ sizeLine; decide), fun p hp => ?_⟩
        refine ⟨_, p, _, .type "tuple", _, true, rfl, upd_same, .cons (.ty "tuple") (.cons (.ty "list") .nil), tyT (seqT (same_upd (Same.refl _) hp) q2), any_tuple, true, rfl, ?_⟩
        refine iteT ?_
        have s0 : Same H (upd H p (.tup [.ty "tuple", .ty "list"])) := same_upd (Same.refl _) hp
        show tSeq _ _ _ _ (upd H p (.tup [.ty "tuple", .ty "list"]))
        generalize upd H p (.tup [V.ty "tuple", V.ty "list"]) = H1 at *
        have p1 := seqT s0 q1
        have p2 := seqT s0 q2
        refine ⟨_, rfl, _, _, .type "tuple", _, true, rfl, .ty "tuple", tyT p2, kit_ty (by decide +kernel), _, rfl, _, _, .type "tuple", _, true, rfl, .ty "tuple", tyT p1, kit_ty (by decide +kernel), rfl, _, rfl, ?_⟩
        refine iteF ?_
        refine ⟨_, rfl, _, _, .type "tuple", _, false, rfl, .ty "list", tyT p2, kit_ty (by decide +kernel), _, rfl, _, _, .type "tuple", _, false, rfl, .ty "list", tyT p1, kit_ty (by decide +kernel), rfl, _, rfl, ?_⟩
        refine iteF ?_
        refine ⟨_, rfl, _, _, rfl, .inr ⟨_, p1, rfl⟩, _, rfl, _, _, rfl, .inr ⟨_, p2, rfl⟩, rfl, _, rfl, ?_⟩
        rw [l1, l2]
        refine iteNS rfl ?_
        refine ⟨_, rfl, _, _, rfl, .inr ⟨_, p2, rfl⟩, _, rfl, ?_, ?_, ?_⟩
        · rw [l2]; have := hd.1; omega
        · rw [l2]; have := hd.1; omega
        rw [l2]
        refine for_range (lo := 0) (n := ((ds.length : Nat) : Int).toNat) (fun i σ H' => ∃ v, σ = [some (.ref a1), some (.ref a2), v] ∧ Same H1 H') ⟨none, rfl, Same.refl _⟩ ?_ ?_
        · rintro i σ H' hi ⟨v, rfl, sH⟩
          have hi' : i < ds.length := by simpa using hi
          obtain ⟨x1, e1, d1⟩ := dpAll_at t1 (List.getElem?_eq_getElem hi')
          obtain ⟨x2, e2, d2⟩ := dpAll_at t2 (List.getElem?_eq_getElem hi')
          have s3 := s0.trans sH
          have ei : ((0 : Int) + (i : Int)) = (i : Int) := by omega
          refine ⟨_, rfl, _, rfl, .inr (.inl ⟨a1, xs1, _, x1, rfl, rfl, seqT sH p1, by rw [ei]; exact atI_nat e1, ?_⟩)⟩
          refine ⟨_, rfl, _, rfl, .inr (.inl ⟨a2, xs2, _, x2, rfl, rfl, seqT sH p2, by rw [ei]; exact atI_nat e2, ?_⟩)⟩
          refine ⟨x1, x2, ds[i], rfl, dp_keep s3 d1, dp_keep s3 d2, hd.2 _ (List.getElem_mem hi'), fun H2 s2 => ⟨true, rfl, ?_⟩⟩
          refine iteF ?_
          exact ⟨_, rfl, sH.trans s2⟩
        · rintro σ H' ⟨v, rfl, sH⟩
          exact k _ (s0.trans sH)
end
end K51

namespace K51
open PySem PySem.Spec PyProof.Rows L2
theorem for_str {x : Str} {g : TG} {tb : TS} {D : Ends} {σ : L2.St} {H : Hp} (Pv : Nat → L2.St → Hp → Prop) (h0 : Pv 0 σ H)
    (hs : ∀ i c σ H, (tl x)[i]? = some c → Pv i σ H → g (.str ⟨#[c]⟩) σ H fun σ2 H2 => tb { D with nx := Pv (i + 1), ct := Pv (i + 1), bk := D.nx } σ2 H2) (hd : ∀ σ H, Pv (tl x).length σ H → D.nx σ H) :
    ∃ W : Nat → Nat → L2.St → Hp → Prop, (∃ m, W 0 m σ H) ∧ ∀ i m σ H, W i m σ H →
      ((Its x).stop i H ∧ D.nx σ H) ∨ ((Its x).go i H ∧ ∃ N : L2.St → Hp → Prop, (∀ σ' H', N σ' H' → ∃ m', m' < m ∧ W (i + 1) m' σ' H') ∧ ∀ v H', (Its x).yld i H v H' → g v σ H' fun σ2 H2 => tb { D with nx := N, ct := N, bk := D.nx } σ2 H2) := by
  have hx : x.cps.size = (tl x).length := by simp [tl]
  refine ⟨fun i m σ H => m = (tl x).length - i ∧ i ≤ (tl x).length ∧ Pv i σ H, ⟨(tl x).length, by simp, Nat.zero_le _, h0⟩, ?_⟩
  rintro i m σ H ⟨rfl, hi, p⟩
  by_cases hlt : i < (tl x).length
  · refine .inr ⟨(by show i < x.cps.size; omega), Pv (i + 1), fun σ' H' p' => ⟨(tl x).length - (i + 1), by omega, rfl, hlt, p'⟩, fun v H' y => ?_⟩
    obtain ⟨e, c, hc, ev⟩ := y
    subst e
    subst ev
    exact hs i c _ _ (by rw [Array.getElem?_toList]; exact hc) p
  · have e : i = (tl x).length := by omega
    subst e
    exact .inl ⟨(by show x.cps.size ≤ _; omega), hd σ H p⟩
/-- [c for c in x if bad c] -/
theorem lc_filter {x : Str} {σ : L2.St} {H1 : Hp} {D : Addr} {j : Nat} {bad : Nat → Bool} {tt : TT} {Qd : Hp → Prop} (hx : x.length ≤ sizeLine) (hD : H1 D = none)
    (hw : ∀ v, wipe ((wipe σ [j]).set j (some v)) [j] = wipe σ [j]) (hg : ∀ v, ((wipe σ [j]).set j (some v))[j]? = some (some v))
    (ht : ∀ c H' (R : Bool → Hp → Prop), c ∈ tl x → R (bad c) H' → tt ((wipe σ [j]).set j (some (.str ⟨#[c]⟩))) H' R)
    (hd : ∀ H', Same H1 H' → H' D = some (.lst (((tl x).filter bad).map fun c => V.str ⟨#[c]⟩)) → Qd H') :
    ∃ W : Nat → Nat → Hp → Prop, (∃ m, W 0 m (upd H1 D (.lst []))) ∧ ∀ i m H, W i m H →
      ((Its x).stop i H ∧ Qd H) ∨ ((Its x).go i H ∧ ∃ Nx : Hp → Prop, (∀ H', Nx H' → ∃ m', m' < m ∧ W (i + 1) m' H') ∧ ∀ v H', (Its x).yld i H v H' → gName j v (wipe σ [j]) H' fun σ2 H2 => wipe σ2 [j] = wipe σ [j] ∧ tt σ2 H2 fun b H3 =>
        if b = true then tVar j σ2 H3 fun y H4 => ∃ acc, H4 D = some (.lst acc) ∧ acc.length < sizeLine ∧ Nx (upd H4 D (.lst (acc ++ [y]))) else Nx H3) := by
  have hl : x.length = (tl x).length := len_tl x
  refine lc_str (x := x) (fun i H' => H' D = some (.lst ((((tl x).take i).filter bad).map fun c => V.str ⟨#[c]⟩)) ∧ ∀ b, b ≠ D → H' b = H1 b) ⟨upd_same, fun b hb => upd_ne hb⟩ ?_ ?_
  · rintro i c H' hc ⟨h1, h2⟩
    have hi : i < (tl x).length := (List.getElem?_eq_some_iff.mp hc).1
    have et : (tl x).take (i + 1) = (tl x).take i ++ [c] := take_snoc hc
    refine ⟨hw _, ?_⟩
    refine ht c _ _ (List.mem_of_getElem? hc) ?_
    refine ite2 (fun hb => ?_) (fun hb => ?_)
    · refine ⟨_, hg _, _, h1, ?_, ?_, fun b hb => by rw [upd_ne hb]; exact h2 b hb⟩
      · have := List.length_filter_le bad ((tl x).take i)
        rw [List.length_map]
        rw [List.length_take] at this
        omega
      · rw [upd_same, et, List.filter_append, List.map_append]
        simp [hb]
    · refine ⟨?_, h2⟩
      rw [h1, et, List.filter_append, List.map_append]
      simp [hb]
  · rintro H' ⟨h1, h2⟩
    rw [List.take_length] at h1
    refine hd H' (fun b o e => ?_) h1
    have : b ≠ D := fun z => by rw [z, hD] at e; cases e
    rw [h2 b this]; exact e
theorem filt_empty {l : List Nat} {bad : Nat → Bool} : ((l.filter bad).map fun c => V.str ⟨#[c]⟩).isEmpty = l.all fun c => !bad c := by
  induction l with
  | nil => rfl
  | cons c r ih =>
    rw [List.filter_cons, List.all_cons]
    by_cases h : bad c = true
    · rw [if_pos h, h]; rfl
    · rw [if_neg h, ih]
      have : bad c = false := by simpa using h
      rw [this]; rfl
/-! ### the check -/
def chkF (a : Nat) (l : List Nat) : Nat := l.foldl (fun f c => (f * 8191 + c) % 1000003) a
def chk (l : List Nat) : Nat := chkF 7 l
theorem chkF_lt : ∀ (l : List Nat) (a : Nat), a < 1000003 → chkF a l < 1000003
  | [], a, h => h
  | c :: r, a, h => chkF_lt r _ (Nat.mod_lt _ (by decide))
theorem chk_lt (l : List Nat) : chk l < 1000003 := chkF_lt l 7 (by decide)
theorem chkF_snoc (a : Nat) (l : List Nat) (c : Nat) : chkF a (l ++ [c]) = (chkF a l * 8191 + c) % 1000003 := by
  unfold chkF; rw [List.foldl_append]; rfl
theorem fmod_nat (a b : Nat) : Int.fmod (a : Int) (b : Int) = ((a % b : Nat) : Int) := by
  rw [Int.fmod_eq_emod_of_nonneg _ (by omega)]; rfl
structure Con51 (mg : Str → Option Value) : Prop where
  gG : ∃ t, mg "GREAT" = some (.int 1000003 t)
  gS : ∃ t, mg "STEP" = some (.int 8191 t)
  gM : ∃ t, mg "MOST" = some (.int 1000000 t)
theorem scCheck : FnScope ["text", "found", "sign"] ["text"] (defScope sCheck) := ⟨rfl, rfl, rfl, by decide +kernel, rfl, by decide +kernel, by decide +kernel⟩
theorem scLCheck : FnScope ["text", "found", "sign"] ["text"] (defScope sLCheck) := ⟨rfl, rfl, rfl, by decide +kernel, rfl, by decide +kernel, by decide +kernel⟩
def spCheck : Sp := fun vs H Q _ => ∃ x : Str, vs = [.str x] ∧ Q (.int ((chk (tl x) : Nat) : Int)) H
section
variable {P : Program} {w : World} {K : PySem.W.Frag} {mg : Str → Option Value} {base : Heap}
theorem ok_check {f : Addr} {fd : FuncData} (F : Fun K "check_of" "check_of" sCheck f fd) (T : Blt mg) (G : Con51 mg) : FnOk P w K mg base CX0 1 f fd ["text"] spCheck := by
  obtain ⟨tG, GG⟩ := G.gG
  obtain ⟨tS, GS⟩ := G.gS
  refine F.ok scCheck (fun vs H Q E h => ?_) (fun cdv A outer s H vs Q E hr h => ?_)
  · obtain ⟨x, rfl, _⟩ := h
    rfl
  · obtain ⟨x, rfl, k⟩ := h
    refine ⟨_, (pss_cons (ps_set (i := 1) scCheck.nd rfl (Or.inl rfl) pe_int)
    (pss_cons (ps_for PassesOwn.never rfl (pi_str (pv 0)) (pg_name (i := 2) scCheck.nd rfl (Or.inl rfl)) (pss_one (ps_set (i := 1) scCheck.nd rfl (Or.inl rfl) (pe_op op_modN (pe_op op_add (pe_op op_mul (pv 1) (pe_glob (v := .int 8191) rfl GS ⟨_, rfl⟩)) (pe_callB call_ord (by rfl) T.b_ord (by decide +kernel) (pa_cons (pv 2) pa_nil))) (pe_glob (v := .int 1000003) rfl GG ⟨_, rfl⟩)))))
    (pss_one (ps_ret (pv 1))))), ?_⟩
    refine ⟨_, rfl, x, rfl, for_str (x := x) (fun i σ H' => ∃ v : Option V, σ = [some (.str x), some (.int ((chk ((tl x).take i) : Nat) : Int)), v] ∧ H' = H) ⟨_, rfl, rfl⟩ ?_ ?_⟩
    · rintro i c σ H' hc ⟨v, rfl, rfl⟩
      refine ⟨_, rfl, _, _, rfl, rfl, .inr ⟨by decide, by decide⟩, _, rfl, _, rfl, rfl, _, _, rfl, rfl, _, _, rfl, rfl, (show (1000003 : Int) ≠ 0 by decide), ?_⟩
      refine ⟨some (.str ⟨#[c]⟩), ?_, rfl⟩
      have e : Int.fmod (((chk ((tl x).take i) : Nat) : Int) * 8191 + ((c : Nat) : Int)) 1000003 = ((chk ((tl x).take (i + 1)) : Nat) : Int) := by
        rw [take_snoc hc]
        unfold chk
        rw [chkF_snoc, ← fmod_nat]
        congr 1
      rw [← e]
      rfl
    · rintro σ H' ⟨v, rfl, rfl⟩
      rw [List.take_length]
      exact ⟨_, rfl, k⟩
theorem ok_lcheck {f : Addr} {fd : FuncData} (F : Fun K "_law_check" "_law_check" sLCheck f fd) (T : Blt mg) : FnOk P w K mg base CX0 1 f fd ["text"] spCheck := by
  refine F.ok scLCheck (fun vs H Q E h => ?_) (fun cdv A outer s H vs Q E hr h => ?_)
  · obtain ⟨x, rfl, _⟩ := h
    rfl
  · obtain ⟨x, rfl, k⟩ := h
    refine ⟨_, (pss_cons (ps_set (i := 1) scLCheck.nd rfl (Or.inl rfl) pe_int)
    (pss_cons (ps_for PassesOwn.never rfl (pi_str (pv 0)) (pg_name (i := 2) scLCheck.nd rfl (Or.inl rfl)) (pss_one (ps_set (i := 1) scLCheck.nd rfl (Or.inl rfl) (pe_op op_modN (pe_callTy call_int1 (by rfl) T.b_int (by decide +kernel) (pa_cons (pe_op op_add (pe_op op_mul (pv 1) pe_int) (pe_callB call_ord (by rfl) T.b_ord (by decide +kernel) (pa_cons (pv 2) pa_nil))) pa_nil)) pe_int))))
    (pss_one (ps_ret (pv 1))))), ?_⟩
    refine ⟨_, rfl, x, rfl, for_str (x := x) (fun i σ H' => ∃ v : Option V, σ = [some (.str x), some (.int ((chk ((tl x).take i) : Nat) : Int)), v] ∧ H' = H) ⟨_, rfl, rfl⟩ ?_ ?_⟩
    · rintro i c σ H' hc ⟨v, rfl, rfl⟩
      refine ⟨_, rfl, _, _, rfl, rfl, .inr ⟨by decide, by decide⟩, _, rfl, _, rfl, rfl, _, _, rfl, rfl, .inl ⟨_, rfl, _, _, rfl, rfl, (show (1000003 : Int) ≠ 0 by decide), ?_⟩⟩
      refine ⟨some (.str ⟨#[c]⟩), ?_, rfl⟩
      have e : Int.fmod (((chk ((tl x).take i) : Nat) : Int) * 8191 + ((c : Nat) : Int)) 1000003 = ((chk ((tl x).take (i + 1)) : Nat) : Int) := by
        rw [take_snoc hc]
        unfold chk
        rw [chkF_snoc, ← fmod_nat]
        congr 1
      rw [← e]
      rfl
    · rintro σ H' ⟨v, rfl, rfl⟩
      rw [List.take_length]
      exact ⟨_, rfl, k⟩
end
end K51

namespace K51
open PySem PySem.Spec PyProof.Rows L2
/-! ### checked_text, framed -/
def okSign (c : Nat) : Bool := !(decide (c = 63) || (!decide (c = 10) && !(decide (32 ≤ c) && decide (c ≤ 126))))
def goodT (l : List Nat) : Prop := l.all okSign = true
def frameL (l : List Nat) : List Nat := TL.numL l.length ++ 58 :: (TL.numL (chk l) ++ 58 :: (l ++ [10]))
theorem log_small (n : Nat) (h : n ≤ 10000000) : ((n : Nat) : Int).natAbs.log2 < 1920 := by
  rw [Int.natAbs_natCast]
  by_cases h0 : n = 0
  · subst h0; decide
  · have := (Nat.log2_lt h0 (k := 1920)).mpr (by
      have : (10000000 : Nat) < 2 ^ 1920 := by decide +kernel
      omega)
    exact this
theorem num_len {n : Nat} (h : n ≤ 9999999) : (TL.numL n).length ≤ 7 := TL.numL_len (by decide) (by omega)
theorem frame_txt (x : Str) : Str.ofString (toString ((x.length : Nat) : Int)) ++ Str.ofString ":" ++ Str.ofString (toString ((chk (tl x) : Nat) : Int)) ++ Str.ofString ":" ++ x ++ Str.ofString "\n" = mkS (frameL (tl x)) := by
  refine TL.ext_tl ?_
  rw [TL.tl_append, TL.tl_append, TL.tl_append, TL.tl_append, TL.tl_append, TL.tl_num, TL.tl_num, len_tl]
  show TL.numL _ ++ [58] ++ TL.numL _ ++ [58] ++ tl x ++ [10] = frameL (tl x)
  unfold frameL
  simp
theorem frame_len (l : List Nat) (h : l.length ≤ 1000000) : (frameL l).length ≤ l.length + 17 := by
  have h1 := num_len (n := l.length) (by omega)
  have h2 := num_len (n := chk l) (by have := chk_lt l; omega)
  unfold frameL
  simp only [List.length_append, List.length_cons, List.length_nil]
  omega
theorem scChecked : FnScope ["text", "sign"] ["text"] (defScope sChecked) := ⟨rfl, rfl, rfl, by decide +kernel, rfl, by decide +kernel, by decide +kernel⟩
theorem scFramed : FnScope ["text"] ["text"] (defScope sFramed) := ⟨rfl, rfl, rfl, by decide +kernel, rfl, by decide +kernel, by decide +kernel⟩
theorem scLFrame : FnScope ["text"] ["text"] (defScope sLFrame) := ⟨rfl, rfl, rfl, by decide +kernel, rfl, by decide +kernel, by decide +kernel⟩
def spChk : Sp := fun vs H Q _ => ∃ x : Str, vs = [.str x] ∧ x.length ≤ 1000000 ∧ goodT (tl x) ∧ ∀ H', Same H H' → Q (.str x) H'
def spChkX (C : Addr) : Sp := fun vs H _ E => (∃ x : Str, vs = [.str x] ∧ x.length ≤ 1000000 ∧ ¬ goodT (tl x) ∧ ∀ H', Same H H' → E (.ref C) none H') ∨ ((vs = [.non] ∨ ∃ i, vs = [.int i]) ∧ ∀ H', Same H H' → E (.ref C) none H')
def spFrm : Sp := fun vs H Q _ => ∃ x : Str, vs = [.str x] ∧ x.length ≤ 1000000 ∧ goodT (tl x) ∧ ∀ H', Same H H' → Q (.str (mkS (frameL (tl x)))) H'
def spLFrm : Sp := fun vs H Q _ => ∃ x : Str, vs = [.str x] ∧ x.length ≤ 1000000 ∧ Q (.str (mkS (frameL (tl x)))) H
section
variable {P : Program} {w : World} {K : PySem.W.Frag} {mg : Str → Option Value} {base : Heap}
theorem all_nn (l : List Nat) : (l.all fun c => !!okSign c) = l.all okSign := by
  congr 1
  funext c
  exact Bool.not_not _
theorem bad_test {c : Nat} {a b d : Bool} (ha : a = decide (c = 63)) (hb : b = !decide (c = 10)) (hd : d = (decide (32 ≤ c) && decide (c ≤ 126))) : (!okSign c) = (a || (b && !d)) := by
  subst ha hb hd
  unfold okSign
  rw [Bool.not_not]
theorem ok_chk {f : Addr} {fd : FuncData} (F : Fun K "checked_text" "checked_text" sChecked f fd) (T : Blt mg) (G : Con51 mg) : FnOk P w K mg base CX0 1 f fd ["text"] spChk := by
  obtain ⟨tM, GM⟩ := G.gM
  refine F.ok scChecked (fun vs H Q E h => ?_) (fun cdv A outer s H vs Q E hr h => ?_)
  · obtain ⟨x, rfl, _⟩ := h
    rfl
  · obtain ⟨x, rfl, hx, hg, k⟩ := h
    have hx' : x.length ≤ sizeLine := by rw [sizeLine_eq]; omega
    refine ⟨_, (pss_cons (ps_if (PW.pt (pw_or (pt_not (pt_val (pe_callB call_isi (by rfl) T.b_isinstance (by decide +kernel) (pa_cons (pv 0) (pa_cons (pe_bltn (v := .ty "str") (u := .type "str") (by rfl) T.b_str (by decide +kernel) rfl) pa_nil))))) (pw_or1 (pt_cmpR op_gt (pe_callB call_len (by rfl) T.b_len (by decide +kernel) (pa_cons (pv 0) pa_nil)) (pe_glob (v := .int 1000000) rfl GM ⟨_, rfl⟩) (nomark _))))) (pss_one ps_never) pss_nil)
    (pss_cons (ps_if (pt_truth (pe_lc (own := [("sign", 1)]) rfl scChecked.nd (pi_str (pv 0)) (blkOk_by (N := ["text", "sign"]) (sc := defScope sChecked) (own := [("sign", 1)]) (by decide +kernel)) (fun _ _ _ _ _ => (pg_name (i := 1) scChecked.nd rfl (Or.inl rfl))) (fun _ _ _ _ _ => pts_one (PW.pt (pw_or (pt_cmpR op_eq (pv 1) pe_str (nomark _)) (pw_or1 (PW.pt (pw_and (pt_cmpR op_ne (pv 1) pe_str (nomark _)) (pw_and1 (pt_not (pt_chain op_le_str op_le_str pe_str (pv 1) pe_str))))))))) (fun _ _ _ _ _ => (pv 1))) (by intro _; rfl)) (pss_one ps_never) pss_nil)
    (pss_one (ps_ret (pv 0))))), ?_⟩
    refine ⟨_, rfl, _, _, .type "str", _, true, rfl, .ty "str", .base (.str _), kit_ty (by decide +kernel), true, rfl, ?_⟩
    refine iteF ?_
    refine ⟨_, rfl, _, _, rfl, ⟨hx', rfl⟩, _, _, rfl, rfl, _, rfl, ?_⟩
    refine iteF' (decide_eq_false (by omega)) ?_
    refine ⟨_, rfl, x, rfl, fun D hD => lc_filter (bad := fun c => !okSign c) hx' hD (fun _ => rfl) (fun _ => rfl) ?_ ?_⟩
    · intro c H' R hc hR
      refine ⟨_, rfl, rfl, _, rfl, ?_⟩
      rw [show decide (V.str ⟨#[c]⟩ = V.str (Str.ofString "?")) = decide (c = 63) from one_eq c 63]
      refine ite2 (fun h1 => ?_) (fun h1 => ?_)
      · rw [bad_test rfl rfl rfl, h1] at hR; exact hR
      · have h1' : decide (c = 63) = false := by simpa using h1
        refine ⟨_, rfl, rfl, _, rfl, ?_⟩
        rw [show decide (V.str ⟨#[c]⟩ = V.str (Str.ofString "\n")) = decide (c = 10) from one_eq c 10]
        refine ite2 (fun h2 => ?_) (fun h2 => ?_)
        · refine ⟨_, rfl, _, _, rfl, rfl, _, rfl, ?_⟩
          rw [show (!decide (tl (⟨#[c]⟩ : Str) < tl (Str.ofString " "))) = decide (32 ≤ c) from le1 c 32]
          refine ite2 (fun h3 => ?_) (fun h3 => ?_)
          · refine ⟨_, _, rfl, rfl, _, rfl, ?_⟩
            rw [show (!decide (tl (Str.ofString "~") < tl (⟨#[c]⟩ : Str))) = decide (c ≤ 126) from le1 126 c]
            rw [bad_test rfl rfl rfl, h1', h2, h3] at hR; simpa using hR
          · have h3' : decide (32 ≤ c) = false := by simpa using h3
            rw [bad_test rfl rfl rfl, h1', h2, h3'] at hR; exact ⟨_, rfl, hR⟩
        · have h2' : (!decide (c = 10)) = false := by simpa using h2
          rw [bad_test rfl rfl rfl, h1', h2'] at hR; exact hR
    · intro H' s1 h1
      refine ⟨_, .inl ⟨_, SqL.of h1, rfl⟩, ?_⟩
      rw [filt_empty]
      have e : ((tl x).all fun c => !!okSign c) = true := by rw [all_nn]; exact hg
      refine iteF' (by rw [e]; rfl) ?_
      refine ⟨_, rfl, ?_⟩
      exact k _ s1
theorem ok_chkX {f C : Addr} {fd : FuncData} (F : Fun K "checked_text" "checked_text" sChecked f fd) (T : Blt mg) (X : ErrT K mg C) (G : Con51 mg) : FnOk P w K mg base (L2.CX P w) 1 f fd ["text"] (spChkX C) := by
  obtain ⟨tM, GM⟩ := G.gM
  refine F.okX scChecked (fun vs H Q E h => ?_) (fun cdv A outer s H vs Q E hr h => ?_)
  · rcases h with ⟨x, rfl, _⟩ | ⟨rfl | ⟨i, rfl⟩, _⟩ <;> rfl
  · refine ⟨_, (pss_cons (ps_if (PW.pt (pw_or (pt_not (pt_val (pe_callB call_isi (by rfl) T.b_isinstance (by decide +kernel) (pa_cons (pv 0) (pa_cons (pe_bltn (v := .ty "str") (u := .type "str") (by rfl) T.b_str (by decide +kernel) rfl) pa_nil))))) (pw_or1 (pt_cmpR op_gt (pe_callB call_len (by rfl) T.b_len (by decide +kernel) (pa_cons (pv 0) pa_nil)) (pe_glob (v := .int 1000000) rfl GM ⟨_, rfl⟩) (nomark _))))) (pss_one (ps_raise rfl (takes_of rfl rfl rfl rfl) (pmk_own PySem.F.excBase_ValueError X.xP X.gP X.kP (raises_own X.bP X.tP) rfl))) pss_nil)
    (pss_cons (ps_if (pt_truth (pe_lc (own := [("sign", 1)]) rfl scChecked.nd (pi_str (pv 0)) (blkOk_by (N := ["text", "sign"]) (sc := defScope sChecked) (own := [("sign", 1)]) (by decide +kernel)) (fun _ _ _ _ _ => (pg_name (i := 1) scChecked.nd rfl (Or.inl rfl))) (fun _ _ _ _ _ => pts_one (PW.pt (pw_or (pt_cmpR op_eq (pv 1) pe_str (nomark _)) (pw_or1 (PW.pt (pw_and (pt_cmpR op_ne (pv 1) pe_str (nomark _)) (pw_and1 (pt_not (pt_chain op_le_str op_le_str pe_str (pv 1) pe_str))))))))) (fun _ _ _ _ _ => (pv 1))) (by intro _; rfl)) (pss_one (ps_raise rfl (takes_of rfl rfl rfl rfl) (pmk_own PySem.F.excBase_ValueError X.xP X.gP X.kP (raises_own X.bP X.tP) rfl))) pss_nil)
    (pss_one (ps_ret (pv 0))))), ?_⟩
    rcases h with ⟨x, rfl, hx, hg, k⟩ | ⟨rfl | ⟨i, rfl⟩, k⟩
    · have hx' : x.length ≤ sizeLine := by rw [sizeLine_eq]; omega
      refine ⟨_, rfl, _, _, .type "str", _, true, rfl, .ty "str", .base (.str _), kit_ty (by decide +kernel), true, rfl, ?_⟩
      refine iteF ?_
      refine ⟨_, rfl, _, _, rfl, ⟨hx', rfl⟩, _, _, rfl, rfl, _, rfl, ?_⟩
      refine iteF' (decide_eq_false (by omega)) ?_
      refine ⟨_, rfl, x, rfl, fun D hD => lc_filter (bad := fun c => !okSign c) hx' hD (fun _ => rfl) (fun _ => rfl) ?_ ?_⟩
      · intro c H' R hc hR
        refine ⟨_, rfl, rfl, _, rfl, ?_⟩
        rw [show decide (V.str ⟨#[c]⟩ = V.str (Str.ofString "?")) = decide (c = 63) from one_eq c 63]
        refine ite2 (fun h1 => ?_) (fun h1 => ?_)
        · rw [bad_test rfl rfl rfl, h1] at hR; exact hR
        · have h1' : decide (c = 63) = false := by simpa using h1
          refine ⟨_, rfl, rfl, _, rfl, ?_⟩
          rw [show decide (V.str ⟨#[c]⟩ = V.str (Str.ofString "\n")) = decide (c = 10) from one_eq c 10]
          refine ite2 (fun h2 => ?_) (fun h2 => ?_)
          · refine ⟨_, rfl, _, _, rfl, rfl, _, rfl, ?_⟩
            rw [show (!decide (tl (⟨#[c]⟩ : Str) < tl (Str.ofString " "))) = decide (32 ≤ c) from le1 c 32]
            refine ite2 (fun h3 => ?_) (fun h3 => ?_)
            · refine ⟨_, _, rfl, rfl, _, rfl, ?_⟩
              rw [show (!decide (tl (Str.ofString "~") < tl (⟨#[c]⟩ : Str))) = decide (c ≤ 126) from le1 126 c]
              rw [bad_test rfl rfl rfl, h1', h2, h3] at hR; simpa using hR
            · have h3' : decide (32 ≤ c) = false := by simpa using h3
              rw [bad_test rfl rfl rfl, h1', h2, h3'] at hR; exact ⟨_, rfl, hR⟩
          · have h2' : (!decide (c = 10)) = false := by simpa using h2
            rw [bad_test rfl rfl rfl, h1', h2'] at hR; exact hR
      · intro H' s1 h1
        refine ⟨_, .inl ⟨_, SqL.of h1, rfl⟩, ?_⟩
        rw [filt_empty]
        have e : ((tl x).all fun c => !!okSign c) = false := by
          rw [all_nn]
          cases z : (tl x).all okSign with
          | false => rfl
          | true => exact absurd z hg
        rw [e]
        refine iteT ?_
        exact k _ s1
    · refine ⟨_, rfl, _, _, .type "NoneType", _, false, rfl, .ty "str", .base .non, kit_ty (by decide +kernel), false, rfl, ?_⟩
      refine iteT ?_
      exact k _ (Same.refl _)
    · refine ⟨_, rfl, _, _, .type "int", _, false, rfl, .ty "str", .base (.int _), kit_ty (by decide +kernel), false, rfl, ?_⟩
      refine iteT ?_
      exact k _ (Same.refl _)
theorem ok_frm {f fC fK : Addr} {fd gC gK : FuncData} (F : Fun K "framed" "framed" sFramed f fd) (T : Blt mg)
    (FC : FnOk P w K mg base CX0 1 fC gC ["text"] spChk) (mgC : mg "checked_text" = some (.ref fC)) (kC : PySem.W.keepIn K (.ref fC) = true) (bC : Binds K gC ["text"] [])
    (FK : FnOk P w K mg base CX0 1 fK gK ["text"] spCheck) (mgK : mg "check_of" = some (.ref fK)) (kK : PySem.W.keepIn K (.ref fK) = true) (bK : Binds K gK ["text"] []) : FnOk P w K mg base CX0 2 f fd ["text"] spFrm := by
  refine F.ok scFramed (fun vs H Q E h => ?_) (fun cdv A outer s H vs Q E hr h => ?_)
  · obtain ⟨x, rfl, _⟩ := h
    rfl
  · obtain ⟨x, rfl, hx, hg, k⟩ := h
    have hx' : x.length ≤ sizeLine := by rw [sizeLine_eq]; omega
    have hl : x.length = (tl x).length := len_tl x
    have l1 : (Str.ofString (toString ((x.length : Nat) : Int))).length ≤ 7 := by rw [len_tl, show tl _ = TL.numL _ from TL.tl_num _]; exact num_len (by omega)
    have l2 : (Str.ofString (toString ((chk (tl x) : Nat) : Int))).length ≤ 7 := by rw [len_tl, show tl _ = TL.numL _ from TL.tl_num _]; exact num_len (by have := chk_lt (tl x); omega)
    refine ⟨_, (pss_cons (ps_expr (pe_call FC (hr.mono (by decide)) rfl mgC kC bC .nil pass0 (pa_cons (pv 0) pa_nil)))
    (pss_one (ps_ret (pe_op op_add_str (pe_op op_add_str (pe_op op_add_str (pe_op op_add_str (pe_op op_add_str (pe_callTy call_str_int (by rfl) T.b_str (by decide +kernel) (pa_cons (pe_callB call_len (by rfl) T.b_len (by decide +kernel) (pa_cons (pv 0) pa_nil)) pa_nil)) pe_str) (pe_callTy call_str_int (by rfl) T.b_str (by decide +kernel) (pa_cons (pe_call FK (hr.mono (by decide)) rfl mgK kK bK .nil pass0 (pa_cons (pv 0) pa_nil)) pa_nil))) pe_str) (pv 0)) pe_str)))), ?_⟩
    refine ⟨_, rfl, x, rfl, hx, hg, fun H1 s1 => ?_⟩
    refine ⟨_, rfl, _, _, rfl, ⟨hx', rfl⟩, _, rfl, log_small _ (by omega), ?_⟩
    have c1 : (Str.ofString ":").length = 1 := rfl
    have c2 : (Str.ofString "\n").length = 1 := rfl
    refine ⟨_, _, rfl, rfl, by rw [c1, sizeLine_eq]; omega, _, rfl, x, rfl, _, rfl, log_small _ (by have := chk_lt (tl x); omega), _, _, rfl, rfl, by rw [app_len, c1, sizeLine_eq]; omega, _, _, rfl, rfl, by rw [app_len, app_len, c1, sizeLine_eq]; omega, _, rfl, _, _, rfl, rfl, by rw [app_len, app_len, app_len, c1, sizeLine_eq]; omega, _, _, rfl, rfl, by rw [app_len, app_len, app_len, app_len, c1, c2, sizeLine_eq]; omega, ?_⟩
    rw [frame_txt]
    exact k _ s1
theorem ok_frmX {f fC C : Addr} {fd gC : FuncData} (F : Fun K "framed" "framed" sFramed f fd) (T : Blt mg)
    (FC : FnOk P w K mg base (L2.CX P w) 1 fC gC ["text"] (spChkX C)) (mgC : mg "checked_text" = some (.ref fC)) (kC : PySem.W.keepIn K (.ref fC) = true) (bC : Binds K gC ["text"] []) :
    FnOk P w K mg base (L2.CX P w) 2 f fd ["text"] (spChkX C) := by
  refine F.okX scFramed (fun vs H Q E h => ?_) (fun cdv A outer s H vs Q E hr h => ?_)
  · rcases h with ⟨x, rfl, _⟩ | ⟨rfl | ⟨i, rfl⟩, _⟩ <;> rfl
  · refine ⟨_, pss_cons (ps_expr (pe_callS FC hr rfl mgC kC bC (fun σ => passAt (takes_of rfl rfl rfl rfl) σ) (pa_cons (pv 0) pa_nil))) pss_never, ?_⟩
    rcases h with ⟨x, rfl, hx, hg, k⟩ | ⟨rfl | ⟨i, rfl⟩, k⟩
    · exact ⟨_, rfl, .inl ⟨x, rfl, hx, hg, k⟩⟩
    · exact ⟨_, rfl, .inr ⟨.inl rfl, k⟩⟩
    · exact ⟨_, rfl, .inr ⟨.inr ⟨_, rfl⟩, k⟩⟩
theorem ok_lfrm {f fK : Addr} {fd gK : FuncData} (F : Fun K "_law_frame" "_law_frame" sLFrame f fd) (T : Blt mg)
    (FK : FnOk P w K mg base CX0 1 fK gK ["text"] spCheck) (mgK : mg "_law_check" = some (.ref fK)) (kK : PySem.W.keepIn K (.ref fK) = true) (bK : Binds K gK ["text"] []) : FnOk P w K mg base CX0 2 f fd ["text"] spLFrm := by
  refine F.ok scLFrame (fun vs H Q E h => ?_) (fun cdv A outer s H vs Q E hr h => ?_)
  · obtain ⟨x, rfl, _⟩ := h
    rfl
  · obtain ⟨x, rfl, hx, k⟩ := h
    have hx' : x.length ≤ sizeLine := by rw [sizeLine_eq]; omega
    have hl : x.length = (tl x).length := len_tl x
    have l1 : (Str.ofString (toString ((x.length : Nat) : Int))).length ≤ 7 := by rw [len_tl, show tl _ = TL.numL _ from TL.tl_num _]; exact num_len (by omega)
    have l2 : (Str.ofString (toString ((chk (tl x) : Nat) : Int))).length ≤ 7 := by rw [len_tl, show tl _ = TL.numL _ from TL.tl_num _]; exact num_len (by have := chk_lt (tl x); omega)
    refine ⟨_, (pss_one (ps_ret (pe_op op_add_str (pe_op op_add_str (pe_op op_add_str (pe_op op_add_str (pe_op op_add_str (pe_callTy call_str_int (by rfl) T.b_str (by decide +kernel) (pa_cons (pe_callB call_len (by rfl) T.b_len (by decide +kernel) (pa_cons (pv 0) pa_nil)) pa_nil)) pe_str) (pe_callTy call_str_int (by rfl) T.b_str (by decide +kernel) (pa_cons (pe_call FK (hr.mono (by decide)) rfl mgK kK bK .nil pass0 (pa_cons (pv 0) pa_nil)) pa_nil))) pe_str) (pv 0)) pe_str))), ?_⟩
    refine ⟨_, rfl, _, _, rfl, ⟨hx', rfl⟩, _, rfl, log_small _ (by omega), ?_⟩
    have c1 : (Str.ofString ":").length = 1 := rfl
    have c2 : (Str.ofString "\n").length = 1 := rfl
    refine ⟨_, _, rfl, rfl, by rw [c1, sizeLine_eq]; omega, _, rfl, x, rfl, _, rfl, log_small _ (by have := chk_lt (tl x); omega), _, _, rfl, rfl, by rw [app_len, c1, sizeLine_eq]; omega, _, _, rfl, rfl, by rw [app_len, app_len, c1, sizeLine_eq]; omega, _, rfl, _, _, rfl, rfl, by rw [app_len, app_len, app_len, c1, sizeLine_eq]; omega, _, _, rfl, rfl, by rw [app_len, app_len, app_len, app_len, c1, c2, sizeLine_eq]; omega, ?_⟩
    rw [frame_txt]
    exact k
end
end K51

namespace K51
open PySem PySem.Spec PyProof.Rows L2
/-! ### numbers and frames as data -/
def isDig (c : Nat) : Bool := decide (48 ≤ c) && decide (c ≤ 57)
theorem dig_in (c : Nat) : decide (c ∈ tl (Str.ofString "0123456789")) = isDig c := by
  have e : tl (Str.ofString "0123456789") = [48, 49, 50, 51, 52, 53, 54, 55, 56, 57] := by decide +kernel
  rw [e]
  unfold isDig
  rw [Bool.eq_iff_iff, Bool.and_eq_true, decide_eq_true_eq, decide_eq_true_eq, decide_eq_true_eq]
  simp only [List.mem_cons, List.not_mem_nil, or_false]
  omega
def wordAt (l : List Nat) : List Nat := if (upto 58 l).length < l.length ∧ 0 < (upto 58 l).length ∧ (upto 58 l).length ≤ 7 then upto 58 l else []
def numOk (w : List Nat) : Bool := !w.isEmpty && w.all isDig && !(decide (1 < w.length) && decide (w.head? = some 48))
def numAt (l : List Nat) : Option (Nat × Nat) := if numOk (wordAt l) = true then some (NumText.digitsVal (wordAt l), (wordAt l).length + 1) else none
def bodyOk (n c : Nat) (r : List Nat) : Prop := n ≤ 1000000 ∧ (r.take n).length = n ∧ (r.drop n).take 1 = [10] ∧ ¬ 63 ∈ r.take n ∧ chk (r.take n) = c
instance {n c : Nat} {r : List Nat} : Decidable (bodyOk n c r) := by unfold bodyOk; exact inferInstance
def oneFr (l : List Nat) : Option (List Nat × Nat) := match numAt l with
  | none => none
  | some (n, k) => match numAt (l.drop k) with
    | none => none
    | some (c, k2) => if bodyOk n c (l.drop (k + k2)) then some ((l.drop (k + k2)).take n, k + k2 + n + 1) else none
theorem word_lt {l : List Nat} (h : numOk (wordAt l) = true) : (wordAt l).length < l.length ∧ 0 < (wordAt l).length ∧ (wordAt l).length ≤ 7 ∧ wordAt l = upto 58 l := by
  by_cases z : (upto 58 l).length < l.length ∧ 0 < (upto 58 l).length ∧ (upto 58 l).length ≤ 7
  · have e : wordAt l = upto 58 l := by unfold wordAt; rw [if_pos z]
    rw [e]
    exact ⟨z.1, z.2.1, z.2.2, rfl⟩
  · have e : wordAt l = [] := by unfold wordAt; rw [if_neg z]
    rw [e] at h
    exact absurd h (by decide)
theorem numAt_some {l : List Nat} {n k : Nat} (h : numAt l = some (n, k)) : numOk (wordAt l) = true ∧ n = NumText.digitsVal (wordAt l) ∧ k = (wordAt l).length + 1 ∧ 1 ≤ k ∧ k ≤ l.length := by
  unfold numAt at h
  by_cases z : numOk (wordAt l) = true
  · rw [if_pos z] at h
    cases h
    have := word_lt z
    exact ⟨z, rfl, rfl, by omega, by omega⟩
  · rw [if_neg z] at h; cases h
theorem oneFr_some {l t : List Nat} {k : Nat} (h : oneFr l = some (t, k)) : 1 ≤ k ∧ k ≤ l.length ∧ t.length < k := by
  unfold oneFr at h
  split at h
  · cases h
  · rename_i n k1 e1
    split at h
    · cases h
    · rename_i c k2 e2
      split at h
      · rename_i b
        cases h
        obtain ⟨_, b2, b3, _⟩ := b
        have l3 : (((l.drop (k1 + k2)).drop n).take 1).length = 1 := by rw [b3]; rfl
        rw [List.length_take, List.length_drop, List.length_drop] at l3
        refine ⟨by omega, by omega, ?_⟩
        rw [b2]; omega
      · cases h
def readF : Nat → List Nat → List (List Nat) × Nat
  | 0, _ => ([], 0)
  | n + 1, l => match oneFr l with
    | none => ([], 0)
    | some (t, k) => (t :: (readF n (l.drop k)).1, k + (readF n (l.drop k)).2)
def readL (l : List Nat) : List (List Nat) × Nat := readF l.length l
theorem oneFr_nil : oneFr [] = none := by decide +kernel
theorem readF_more : ∀ (n m : Nat) (l : List Nat), l.length ≤ n → l.length ≤ m → readF n l = readF m l
  | 0, 0, l, _, _ => rfl
  | 0, m + 1, l, h, _ => by
    have : l = [] := List.length_eq_zero_iff.mp (by omega)
    subst this
    show ([], 0) = readF (m + 1) []
    unfold readF
    rw [oneFr_nil]
  | n + 1, 0, l, _, h => by
    have : l = [] := List.length_eq_zero_iff.mp (by omega)
    subst this
    show readF (n + 1) [] = ([], 0)
    unfold readF
    rw [oneFr_nil]
  | n + 1, m + 1, l, h1, h2 => by
    unfold readF
    split
    · rfl
    · rename_i t k e
      have := oneFr_some e
      have hd : (l.drop k).length = l.length - k := List.length_drop
      rw [readF_more n m (l.drop k) (by omega) (by omega)]
theorem readL_none {l : List Nat} (h : oneFr l = none) : readL l = ([], 0) := by
  unfold readL
  cases hl : l.length with
  | zero => rfl
  | succ n => unfold readF; rw [h]
theorem readL_some {l t : List Nat} {k : Nat} (h : oneFr l = some (t, k)) : readL l = (t :: (readL (l.drop k)).1, k + (readL (l.drop k)).2) := by
  have hk := oneFr_some h
  have hd : (l.drop k).length = l.length - k := List.length_drop
  unfold readL
  obtain ⟨n, hn⟩ : ∃ n, l.length = n + 1 := ⟨l.length - 1, by omega⟩
  rw [hn]
  show readF (n + 1) l = _
  rw [readF, h]
  dsimp only
  rw [readF_more n (l.drop k).length (l.drop k) (by omega) (Nat.le_refl _)]
theorem readL_le : ∀ (n : Nat) (l : List Nat), l.length ≤ n → (readL l).2 ≤ l.length ∧ (readL l).1.length ≤ l.length
  | n, l, h => by
    cases e : oneFr l with
    | none => rw [readL_none e]; exact ⟨Nat.zero_le _, Nat.zero_le _⟩
    | some p =>
      obtain ⟨t, k⟩ := p
      have hk := oneFr_some e
      have hd : (l.drop k).length = l.length - k := List.length_drop
      cases n with
      | zero => omega
      | succ n =>
        have ih := readL_le n (l.drop k) (by omega)
        rw [readL_some e]
        refine ⟨by show k + _ ≤ _; omega, by rw [List.length_cons]; omega⟩
theorem iteT' {b : Bool} {p q : Prop} (e : b = true) (h : p) : if b = true then p else q := by
  rw [e]; exact h
/-! ### _number, one_frame, read_frames -/
theorem scNumber : FnScope ["text", "at", "end", "word", "sign"] ["text", "at"] (defScope sNumber) := ⟨rfl, rfl, rfl, by decide +kernel, rfl, by decide +kernel, by decide +kernel⟩
theorem scOneF : FnScope ["text", "at", "first", "second", "start", "end", "inside"] ["text", "at"] (defScope sOneF) := ⟨rfl, rfl, rfl, by decide +kernel, rfl, by decide +kernel, by decide +kernel⟩
theorem scRead : FnScope ["text", "found", "at", "frame"] ["text"] (defScope sRead) := ⟨rfl, rfl, rfl, by decide +kernel, rfl, by decide +kernel, by decide +kernel⟩
theorem scWhole : FnScope ["text"] ["text"] (defScope sWhole) := ⟨rfl, rfl, rfl, by decide +kernel, rfl, by decide +kernel, by decide +kernel⟩
theorem scGap : FnScope ["text", "end"] ["text"] (defScope sGap) := ⟨rfl, rfl, rfl, by decide +kernel, rfl, by decide +kernel, by decide +kernel⟩
def spNum : Sp := fun vs H Q _ => ∃ (x : Str) (a : Nat), vs = [.str x, .int (a : Int)] ∧ x.length ≤ 1000000 ∧ a ≤ (tl x).length ∧
  (∀ n k, numAt ((tl x).drop a) = some (n, k) → ∀ H' p, Same H H' → H' p = some (.tup [.int ((n : Nat) : Int), .int ((a + k : Nat) : Int)]) → Q (.ref p) H') ∧ (numAt ((tl x).drop a) = none → ∀ H', Same H H' → Q .non H')
def spOneF : Sp := fun vs H Q _ => ∃ (x : Str) (a : Nat), vs = [.str x, .int (a : Int)] ∧ x.length ≤ 1000000 ∧ a ≤ (tl x).length ∧
  (∀ t k, oneFr ((tl x).drop a) = some (t, k) → ∀ H' p, Same H H' → H' p = some (.tup [.str (mkS t), .int ((a + k : Nat) : Int)]) → Q (.ref p) H') ∧ (oneFr ((tl x).drop a) = none → ∀ H', Same H H' → Q .non H')
def vT (ts : List (List Nat)) : List V := ts.map fun t => V.str (mkS t)
def spRead : Sp := fun vs H Q _ => ∃ x : Str, vs = [.str x] ∧ x.length ≤ 1000000 ∧
  ∀ H' p q, Same H H' → H' p = some (.tup [.ref q, .int (((readL (tl x)).2 : Nat) : Int)]) → H' q = some (.lst (vT (readL (tl x)).1)) → Q (.ref p) H'
def spWhole : Sp := fun vs H Q _ => ∃ x : Str, vs = [.str x] ∧ x.length ≤ 1000000 ∧ ∀ H', Same H H' → Q (.bl (decide ((readL (tl x)).2 = (tl x).length))) H'
def spGap : Sp := fun vs H Q _ => ∃ x : Str, vs = [.str x] ∧ x.length ≤ 1000000 ∧ ∀ H', Same H H' → Q (if (readL (tl x)).2 = (tl x).length then .non else .int (((readL (tl x)).2 : Nat) : Int)) H'
section
variable {P : Program} {w : World} {K : PySem.W.Frag} {mg : Str → Option Value} {base : Heap}
theorem ok_number {f : Addr} {fd : FuncData} (F : Fun K "_number" "_number" sNumber f fd) (T : Blt mg) : FnOk P w K mg base CX0 1 f fd ["text", "at"] spNum := by
  refine F.ok scNumber (fun vs H Q E h => ?_) (fun cdv A outer s H vs Q E hr h => ?_)
  · obtain ⟨x, a, rfl, _⟩ := h
    rfl
  · obtain ⟨x, a, rfl, hx, ha, kS, kN⟩ := h
    have hx' : x.length ≤ sizeLine := by rw [sizeLine_eq]; omega
    refine ⟨_, (pss_cons (ps_set (i := 2) scNumber.nd rfl (Or.inl rfl) (pe_bm PySem.F.plainAttrs_str PySem.F.slot_str_find PySem.F.type_str_find mt_find3 (pv 0) (pa_cons pe_str (pa_cons (pv 1) pa_nil))))
    (pss_cons (ps_set (i := 3) scNumber.nd rfl (Or.inl rfl) (pe_ifExp (pt_chain op_lt op_le (pv 1) (pv 2) (pe_op op_add (pv 1) pe_int)) (pe_slice sl_str (pv 0) (po_some (pv 1)) (po_some (pv 2))) pe_str))
    (pss_cons (ps_if (PW.pt (pw_or (pt_cmpR op_eq (pv 3) pe_str (nomark _)) (pw_or1 (pt_truth (pe_lc (own := [("sign", 4)]) rfl scNumber.nd (pi_str (pv 3)) (blkOk_by (N := ["text", "at", "end", "word", "sign"]) (sc := defScope sNumber) (own := [("sign", 4)]) (by decide +kernel)) (fun _ _ _ _ _ => (pg_name (i := 4) scNumber.nd rfl (Or.inl rfl))) (fun _ _ _ _ _ => pts_one (pt_cmpR op_notIn_sign (pv 4) pe_str rfl)) (fun _ _ _ _ _ => (pv 4))) (by intro _; rfl))))) (pss_one (ps_ret pe_non)) pss_nil)
    (pss_cons (ps_if (PW.pt (pw_and (pt_cmpR op_gt (pe_callB call_len (by rfl) T.b_len (by decide +kernel) (pa_cons (pv 3) pa_nil)) pe_int (nomark _)) (pw_and1 (pt_cmpR op_eq (pe_ix ix_str (pv 3) pe_int (fun _ _ => rfl)) pe_str (nomark _))))) (pss_one (ps_ret pe_non)) pss_nil)
    (pss_one (ps_ret (pe_tup (pa_cons (pe_callTy call_int_str (by rfl) T.b_int (by decide +kernel) (pa_cons (pv 3) pa_nil)) (pa_cons (pe_op op_add (pv 2) pe_int) pa_nil))))))))), ?_⟩
    have ef : Txt.find3 x (Str.ofString ":") (a : Int) = _ := find_one x 58 a ha
    refine ⟨_, rfl, rfl, _, rfl, _, _, _, rfl, rfl, ?_⟩
    rw [ef]
    have none_of : wordAt ((tl x).drop a) = [] → numAt ((tl x).drop a) = none := fun e => by
      unfold numAt
      rw [e]; rfl
    have hdl : ((tl x).drop a).length = (tl x).length - a := List.length_drop
    have hlx : x.length = (tl x).length := len_tl x
    by_cases h1 : (upto 58 ((tl x).drop a)).length < ((tl x).drop a).length
    · rw [if_pos h1]
      refine ⟨_, rfl, _, rfl, _, _, rfl, rfl, _, rfl, ?_⟩
      by_cases h2 : 0 < (upto 58 ((tl x).drop a)).length
      · rw [decide_eq_true (show (a : Int) < ((a + (upto 58 ((tl x).drop a)).length : Nat) : Int) by omega)]
        refine iteT ?_
        refine ⟨_, rfl, _, _, rfl, rfl, _, _, rfl, rfl, _, rfl, ?_⟩
        by_cases h3 : (upto 58 ((tl x).drop a)).length ≤ 7
        · refine iteT' (decide_eq_true (show ((a + (upto 58 ((tl x).drop a)).length : Nat) : Int) ≤ (a : Int) + 7 by omega)) ?_
          have ew : wordAt ((tl x).drop a) = upto 58 ((tl x).drop a) := by unfold wordAt; rw [if_pos ⟨h1, h2, h3⟩]
          refine ⟨_, rfl, _, rfl, _, rfl, _, rfl, _, rfl, _, rfl, hx', ?_⟩
          have ec : cutS x (some (a : Int)) (some ((a + (upto 58 ((tl x).drop a)).length : Nat) : Int)) = mkS (upto 58 ((tl x).drop a)) := by
            rw [cut_any, Nat.add_sub_cancel_left, upto_take]
          rw [ec]
          generalize hu : upto 58 ((tl x).drop a) = u at *
          have lu : (mkS u).length = u.length := by rw [len_tl]
          have lu' : (mkS u).length ≤ sizeLine := by rw [lu, sizeLine_eq]; omega
          have hne : u.isEmpty = false := by
            cases u with
            | nil => exact absurd h2 (by decide)
            | cons _ _ => rfl
          have e0 : decide (V.str (mkS u) = V.str (Str.ofString "")) = false := decide_eq_false fun z => by
            have e := V.str.inj z
            have : (mkS u).length = 0 := by rw [e]; rfl
            omega
          refine ⟨_, rfl, rfl, _, rfl, ?_⟩
          refine iteF' e0 ?_
          refine ⟨_, rfl, mkS u, rfl, fun D hD => lc_filter (bad := fun c => !isDig c) lu' hD (fun _ => rfl) (fun _ => rfl) ?_ ?_⟩
          · intro c H' R hc hR
            refine ⟨_, rfl, c, Str.ofString "0123456789", rfl, rfl, _, rfl, ?_⟩
            rw [dig_in]
            exact hR
          intro H' s1 g1
          refine ⟨_, .inl ⟨_, SqL.of g1, rfl⟩, ?_⟩
          rw [filt_empty]
          have ea : ((tl (mkS u)).all fun c => !!isDig c) = u.all isDig := by
            congr 1
            funext c
            exact Bool.not_not _
          rw [ea]
          by_cases hd : u.all isDig = true
          · refine iteF' (by rw [hd]; rfl) ?_
            refine ⟨_, rfl, _, _, rfl, ⟨lu', rfl⟩, _, _, rfl, rfl, _, rfl, ?_⟩
            have fin : numOk u = true → tRet
                (tTup
                  (tCons
                    (tCB
                      (fun xs H Q => ∃ a n, xs = [V.str a] ∧ intText? a = some n ∧ a.length ≤ 640 ∧ Q (V.int n) H)
                      (tCons (tVar 3) tNil))
                    (tCons (tOp (rI0 fun i j => V.int (i + j)) (tVar 2) (tC (V.int 1))) tNil)))
                { nx := fun x H' => Q V.non H', rt := Q } [some (.str x), some (.int (a : Int)), some (.int ((a + u.length : Nat) : Int)), some (.str (mkS u)), none] H' := by
              intro hk
              have hAll : NumText.AllDigits (mkS u).cps.toList := fun c hc => by
                have := List.all_eq_true.mp hd c hc
                unfold isDig at this
                rw [Bool.and_eq_true, decide_eq_true_eq, decide_eq_true_eq] at this
                exact this
              refine ⟨_, rfl, _, _, rfl, intText_digits hAll (by intro z; rw [show (mkS u).cps.toList = u from rfl] at z; rw [z] at h2; exact absurd h2 (by decide)) (by rw [lu]; omega), by rw [lu]; omega, _, rfl, _, _, rfl, rfl, by show 2 ≤ sizeLine; decide, fun p hp => ?_⟩
              refine kS (NumText.digitsVal u) (u.length + 1) (by unfold numAt; rw [ew, if_pos hk]) _ p (same_upd s1 hp) ?_
              rw [upd_same]
              rfl
            refine ite2 (fun h5 => ?_) (fun h5 => ?_)
            · have h5' : 1 < u.length := by have := of_decide_eq_true h5; omega
              obtain ⟨c, r, hcr⟩ : ∃ c r, u = c :: r := by
                cases u with
                | nil => exact absurd h2 (by decide)
                | cons c r => exact ⟨c, r, rfl⟩
              refine ⟨_, rfl, _, _, _, rfl, rfl, lu', atI_nat (j := 0) (show (tl (mkS u))[0]? = some c by rw [hcr]; rfl), rfl, _, rfl, ?_⟩
              rw [show decide (V.str ⟨#[c]⟩ = V.str (Str.ofString "0")) = decide (c = 48) from one_eq c 48]
              refine ite2 (fun h6 => ?_) (fun h6 => ?_)
              · refine kN ?_ _ s1
                have h6' : c = 48 := of_decide_eq_true h6
                have : numOk u = false := by
                  unfold numOk
                  rw [decide_eq_true h5', hcr, h6']
                  simp
                unfold numAt
                rw [ew, this]; rfl
              · refine fin ?_
                have h6' : decide (c = 48) = false := by simpa using h6
                unfold numOk
                rw [hne, hd, decide_eq_true h5', hcr]
                simpa using h6
            · refine iteF ?_
              refine fin ?_
              have h5' : ¬ 1 < u.length := fun z => h5 (decide_eq_true (by omega))
              unfold numOk
              rw [hne, hd, decide_eq_false h5']; rfl
          · have hd' : u.all isDig = false := by simpa using hd
            rw [hd']
            refine iteT ?_
            refine kN ?_ _ s1
            unfold numAt numOk
            rw [ew, hd', Bool.and_false, Bool.false_and]; rfl
        · refine iteF' (decide_eq_false (show ¬ ((a + (upto 58 ((tl x).drop a)).length : Nat) : Int) ≤ (a : Int) + 7 by omega)) ?_
          refine ⟨_, rfl, rfl, _, rfl, ?_⟩
          refine iteT ?_
          exact kN (none_of (by unfold wordAt; rw [if_neg (by omega)])) _ (Same.refl _)
      · rw [decide_eq_false (show ¬ (a : Int) < ((a + (upto 58 ((tl x).drop a)).length : Nat) : Int) by omega)]
        refine iteF ?_
        refine ⟨_, rfl, ?_⟩
        refine iteF ?_
        refine ⟨_, rfl, rfl, _, rfl, ?_⟩
        refine iteT ?_
        exact kN (none_of (by unfold wordAt; rw [if_neg (by omega)])) _ (Same.refl _)
    · rw [if_neg h1]
      refine ⟨_, rfl, _, rfl, _, _, rfl, rfl, _, rfl, ?_⟩
      rw [decide_eq_false (show ¬ (a : Int) < -1 by omega)]
      refine iteF ?_
      refine ⟨_, rfl, ?_⟩
      refine iteF ?_
      refine ⟨_, rfl, rfl, _, rfl, ?_⟩
      refine iteT ?_
      exact kN (none_of (by unfold wordAt; rw [if_neg (by omega)])) _ (Same.refl _)
end
end K51

namespace K51
open PySem PySem.Spec PyProof.Rows L2
section
variable {P : Program} {w : World} {K : PySem.W.Frag} {mg : Str → Option Value} {base : Heap}
theorem ok_oneF {f fN fK : Addr} {fd gN gK : FuncData} (F : Fun K "one_frame" "one_frame" sOneF f fd) (T : Blt mg) (G : Con51 mg)
    (FN : FnOk P w K mg base CX0 1 fN gN ["text", "at"] spNum) (mgN : mg "_number" = some (.ref fN)) (kN : PySem.W.keepIn K (.ref fN) = true) (bN : Binds K gN ["text", "at"] [])
    (FK : FnOk P w K mg base CX0 1 fK gK ["text"] spCheck) (mgK : mg "check_of" = some (.ref fK)) (kK : PySem.W.keepIn K (.ref fK) = true) (bK : Binds K gK ["text"] []) : FnOk P w K mg base CX0 2 f fd ["text", "at"] spOneF := by
  obtain ⟨tM, GM⟩ := G.gM
  refine F.ok scOneF (fun vs H Q E h => ?_) (fun cdv A outer s H vs Q E hr h => ?_)
  · obtain ⟨x, a, rfl, _⟩ := h
    rfl
  · obtain ⟨x, a, rfl, hx, ha, qS, qN⟩ := h
    have hx' : x.length ≤ sizeLine := by rw [sizeLine_eq]; omega
    have hlx : x.length = (tl x).length := len_tl x
    refine ⟨_, (pss_cons (ps_set (i := 2) scOneF.nd rfl (Or.inl rfl) (pe_call FN (hr.mono (by decide)) rfl mgN kN bN .nil pass0 (pa_cons (pv 0) (pa_cons (pv 1) pa_nil))))
    (pss_cons (ps_set (i := 3) scOneF.nd rfl (Or.inl rfl) (pe_ifExp (pt_cmpR op_isN (pv 2) pe_non (nomark _)) pe_non (pe_call FN (hr.mono (by decide)) rfl mgN kN bN .nil pass0 (pa_cons (pv 0) (pa_cons (pe_ix (r := rIxT K) ix_tup (pv 2) pe_int (fun _ _ => rfl)) pa_nil)))))
    (pss_cons (ps_if (PW.pt (pw_or (pt_cmpR op_isN (pv 3) pe_non (nomark _)) (pw_or1 (pt_cmpR op_gt (pe_ix (r := rIxT K) ix_tup (pv 2) pe_int (fun _ _ => rfl)) (pe_glob (v := .int 1000000) rfl GM ⟨_, rfl⟩) (nomark _))))) (pss_one (ps_ret pe_non)) pss_nil)
    (pss_cons (ps_set (i := 4) scOneF.nd rfl (Or.inl rfl) (pe_ix (r := rIxT K) ix_tup (pv 3) pe_int (fun _ _ => rfl)))
    (pss_cons (ps_set (i := 5) scOneF.nd rfl (Or.inl rfl) (pe_op op_add (pv 4) (pe_ix (r := rIxT K) ix_tup (pv 2) pe_int (fun _ _ => rfl))))
    (pss_cons (ps_set (i := 6) scOneF.nd rfl (Or.inl rfl) (pe_slice sl_str (pv 0) (po_some (pv 4)) (po_some (pv 5))))
    (pss_cons (ps_if (PW.pt (pw_or (pt_cmpR op_ne (pe_callB call_len (by rfl) T.b_len (by decide +kernel) (pa_cons (pv 6) pa_nil)) (pe_ix (r := rIxT K) ix_tup (pv 2) pe_int (fun _ _ => rfl)) (nomark _)) (pw_or (pt_cmpR op_ne (pe_slice sl_str (pv 0) (po_some (pv 5)) (po_some (pe_op op_add (pv 5) pe_int))) pe_str (nomark _)) (pw_or (pt_cmpR op_in_sign pe_str (pv 6) rfl) (pw_or1 (pt_cmpR op_ne (pe_call FK (hr.mono (by decide)) rfl mgK kK bK .nil pass0 (pa_cons (pv 6) pa_nil)) (pe_ix (r := rIxT K) ix_tup (pv 3) pe_int (fun _ _ => rfl)) (nomark _))))))) (pss_one (ps_ret pe_non)) pss_nil)
    (pss_one (ps_ret (pe_tup (pa_cons (pv 6) (pa_cons (pe_op op_add (pv 5) pe_int) pa_nil)))))))))))), ?_⟩
    refine ⟨_, rfl, _, rfl, x, a, rfl, hx, ha, fun n k e1 H1 p1 s1 hp1 => ?_, fun e1 H1 s1 => ?_⟩
    · have hk1 := numAt_some e1
      have hdl : ((tl x).drop a).length = (tl x).length - a := List.length_drop
      refine ⟨_, rfl, rfl, _, rfl, ?_⟩
      refine iteF ?_
      refine ⟨_, rfl, _, rfl, p1, _, _, _, rfl, rfl, SqT.of hp1, atI_nat (j := 1) rfl, x, a + k, rfl, hx, by omega, fun c k2 e2 H2 p2 s2 hp2 => ?_, fun e2 H2 s2 => ?_⟩
      · have e2' : numAt (((tl x).drop a).drop k) = some (c, k2) := by rw [List.drop_drop]; exact e2
        have hk2 := numAt_some e2'
        have hdl2 : (((tl x).drop a).drop k).length = (tl x).length - a - k := by rw [List.length_drop, hdl]
        have hp1' := s2 _ _ hp1
        have s12 := s1.trans s2
        have eO : oneFr ((tl x).drop a) = if bodyOk n c ((tl x).drop (a + k + k2)) then some (((tl x).drop (a + k + k2)).take n, k + k2 + n + 1) else none := by
          unfold oneFr
          rw [e1]
          dsimp only
          rw [e2']
          dsimp only
          rw [List.drop_drop, show a + (k + k2) = a + k + k2 by omega]
        have no : ¬ bodyOk n c ((tl x).drop (a + k + k2)) → oneFr ((tl x).drop a) = none := fun z => by rw [eO, if_neg z]
        refine ⟨_, rfl, rfl, _, rfl, ?_⟩
        refine iteF ?_
        refine ⟨_, rfl, p1, _, _, _, rfl, rfl, SqT.of hp1', atI_nat (j := 0) rfl, _, _, rfl, rfl, _, rfl, ?_⟩
        refine ite2 (fun h1 => ?_) (fun h1 => ?_)
        · have := of_decide_eq_true h1
          exact qN (no fun z => by have := z.1; omega) _ s12
        have h1' : n ≤ 1000000 := by
          have : ¬ (1000000 : Int) < ((n : Nat) : Int) := fun z => h1 (decide_eq_true z)
          omega
        refine ⟨_, rfl, p2, _, _, _, rfl, rfl, SqT.of hp2, atI_nat (j := 1) rfl, ?_⟩
        refine ⟨_, rfl, _, rfl, p1, _, _, _, rfl, rfl, SqT.of hp1', atI_nat (j := 0) rfl, _, _, rfl, rfl, ?_⟩
        refine ⟨_, rfl, _, rfl, _, rfl, _, rfl, _, rfl, _, rfl, hx', ?_⟩
        have ec : cutS x (some ((a + k + k2 : Nat) : Int)) (some (((a + k + k2 : Nat) : Int) + ((n : Nat) : Int))) = mkS (((tl x).drop (a + k + k2)).take n) := by
          rw [show ((a + k + k2 : Nat) : Int) + ((n : Nat) : Int) = ((a + k + k2 + n : Nat) : Int) by omega, cut_any, Nat.add_sub_cancel_left]
        rw [ec]
        have eend : cutS x (some (((a + k + k2 : Nat) : Int) + ((n : Nat) : Int))) (some (((a + k + k2 : Nat) : Int) + ((n : Nat) : Int) + 1)) = mkS ((((tl x).drop (a + k + k2)).drop n).take 1) := by
          rw [show ((a + k + k2 : Nat) : Int) + ((n : Nat) : Int) + 1 = ((a + k + k2 + n + 1 : Nat) : Int) by omega, show ((a + k + k2 : Nat) : Int) + ((n : Nat) : Int) = ((a + k + k2 + n : Nat) : Int) by omega, cut_any, Nat.add_sub_cancel_left, List.drop_drop]
        generalize hR : (tl x).drop (a + k + k2) = R at *
        have li : (mkS (R.take n)).length = (R.take n).length := by rw [len_tl]
        have li' : (mkS (R.take n)).length ≤ sizeLine := by rw [li, List.length_take, sizeLine_eq]; omega
        refine ⟨_, rfl, _, _, rfl, ⟨li', rfl⟩, _, rfl, p1, _, _, _, rfl, rfl, SqT.of hp1', atI_nat (j := 0) rfl, rfl, _, rfl, ?_⟩
        rw [li]
        by_cases b1 : (R.take n).length = n
        · have z1 : (!decide (V.int (((R.take n).length : Nat) : Int) = V.int ((n : Nat) : Int))) = false := by
            rw [decide_eq_true (by rw [b1])]; rfl
          refine iteF' z1 ?_
          refine ⟨_, rfl, _, rfl, _, rfl, _, rfl, _, _, rfl, rfl, _, rfl, _, rfl, hx', rfl, _, rfl, ?_⟩
          rw [eend]
          by_cases b2 : (R.drop n).take 1 = [10]
          · have z2 : (!decide (V.str (mkS ((R.drop n).take 1)) = V.str (Str.ofString "\n"))) = false := by
              rw [decide_eq_true (by rw [b2]; rfl)]; rfl
            refine iteF' z2 ?_
            refine ⟨_, rfl, 63, mkS (R.take n), rfl, rfl, _, rfl, ?_⟩
            refine ite2 (fun h3 => ?_) (fun h3 => ?_)
            · exact qN (no fun z => z.2.2.2.1 (of_decide_eq_true h3)) _ s12
            have b3 : ¬ 63 ∈ R.take n := fun z => h3 (decide_eq_true z)
            refine ⟨_, rfl, mkS (R.take n), rfl, _, rfl, p2, _, _, _, rfl, rfl, SqT.of hp2, atI_nat (j := 0) rfl, rfl, _, rfl, ?_⟩
            by_cases b4 : chk (R.take n) = c
            · have z4 : (!decide (V.int ((chk (R.take n) : Nat) : Int) = V.int ((c : Nat) : Int))) = false := by
                rw [decide_eq_true (by rw [b4])]; rfl
              refine iteF' z4 ?_
              refine ⟨_, rfl, _, rfl, _, _, rfl, rfl, by show 2 ≤ sizeLine; decide, fun p hp => ?_⟩
              refine qS (R.take n) (k + k2 + n + 1) (by rw [eO, if_pos ⟨h1', b1, b2, b3, b4⟩]) _ p (same_upd s12 hp) ?_
              rw [upd_same]
              have e5 : ((a + k + k2 : Nat) : Int) + ((n : Nat) : Int) + 1 = ((a + (k + k2 + n + 1) : Nat) : Int) := by omega
              rw [← e5]
            · have z4 : (!decide (V.int ((chk (R.take n) : Nat) : Int) = V.int ((c : Nat) : Int))) = true := by
                rw [decide_eq_false (fun z => b4 (by have := V.int.inj z; omega))]; rfl
              refine iteT' z4 ?_
              exact qN (no fun z => b4 z.2.2.2.2) _ s12
          · have z2 : (!decide (V.str (mkS ((R.drop n).take 1)) = V.str (Str.ofString "\n"))) = true := by
              rw [decide_eq_false (fun z => b2 (by have := congrArg tl (V.str.inj z); exact this))]; rfl
            refine iteT' z2 ?_
            exact qN (no fun z => b2 z.2.2.1) _ s12
        · have z1 : (!decide (V.int (((R.take n).length : Nat) : Int) = V.int ((n : Nat) : Int))) = true := by
            rw [decide_eq_false (fun z => b1 (by have := V.int.inj z; omega))]; rfl
          refine iteT' z1 ?_
          exact qN (no fun z => b1 z.2.1) _ s12
      · refine ⟨_, rfl, rfl, _, rfl, ?_⟩
        refine iteT ?_
        refine qN ?_ _ (s1.trans s2)
        unfold oneFr
        rw [e1]
        dsimp only
        rw [List.drop_drop, e2]
    · refine ⟨_, rfl, rfl, _, rfl, ?_⟩
      refine iteT ?_
      refine ⟨_, rfl, rfl, _, rfl, ?_⟩
      refine iteT ?_
      exact qN (by unfold oneFr; rw [e1]) _ s1
theorem ok_read {f fO : Addr} {fd gO : FuncData} (F : Fun K "read_frames" "read_frames" sRead f fd) (T : Blt mg)
    (FO : FnOk P w K mg base CX0 2 fO gO ["text", "at"] spOneF) (mgO : mg "one_frame" = some (.ref fO)) (kO : PySem.W.keepIn K (.ref fO) = true) (bO : Binds K gO ["text", "at"] []) : FnOk P w K mg base CX0 3 f fd ["text"] spRead := by
  refine F.ok scRead (fun vs H Q E h => ?_) (fun cdv A outer s H vs Q E hr h => ?_)
  · obtain ⟨x, rfl, _⟩ := h
    rfl
  · obtain ⟨x, rfl, hx, q⟩ := h
    have hlx : x.length = (tl x).length := len_tl x
    refine ⟨_, (pss_cons (ps_set (i := 1) scRead.nd rfl (Or.inl rfl) (pe_lst pa_nil))
    (pss_cons (ps_set (i := 2) scRead.nd rfl (Or.inl rfl) pe_int)
    (pss_cons (ps_set (i := 3) scRead.nd rfl (Or.inl rfl) (pe_call FO (hr.mono (by decide)) rfl mgO kO bO .nil pass0 (pa_cons (pv 0) (pa_cons (pv 2) pa_nil))))
    (pss_cons (ps_while PassesOwn.never (pt_cmpR op_notN (pv 3) pe_non (nomark _)) (pss_cons (ps_expr (pe_bm PySem.F.plainAttrs_list PySem.F.slot_list_append PySem.F.type_list_append mt_append (pv 1) (pa_cons (pe_ix (r := rIxT K) ix_tup (pv 3) pe_int (fun _ _ => rfl)) pa_nil)))
    (pss_cons (ps_set (i := 2) scRead.nd rfl (Or.inl rfl) (pe_ix (r := rIxT K) ix_tup (pv 3) pe_int (fun _ _ => rfl)))
    (pss_one (ps_set (i := 3) scRead.nd rfl (Or.inl rfl) (pe_call FO (hr.mono (by decide)) rfl mgO kO bO .nil pass0 (pa_cons (pv 0) (pa_cons (pv 2) pa_nil))))))))
    (pss_one (ps_ret (pe_tup (pa_cons (pv 1) (pa_cons (pv 2) pa_nil))))))))), ?_⟩
    refine ⟨by show 0 ≤ sizeLine; decide, fun fa hfa => ?_⟩
    have s0 : Same H (upd H fa (.lst [])) := same_upd (Same.refl _) hfa
    -- what stands at the loop's head
    let Inv : Nat → L2.St → Hp → Prop := fun m σ H' => ∃ (a : Nat) (acc : List (List Nat)) (fr : V), m = (tl x).length - a ∧ a ≤ (tl x).length ∧ σ = [some (.str x), some (.ref fa), some (.int (a : Int)), some fr] ∧ Same H H' ∧ H' fa = some (.lst (vT acc)) ∧ acc.length ≤ a ∧
      readL (tl x) = (acc ++ (readL ((tl x).drop a)).1, a + (readL ((tl x).drop a)).2) ∧
      ((fr = .non ∧ oneFr ((tl x).drop a) = none) ∨ ∃ t k p, fr = .ref p ∧ oneFr ((tl x).drop a) = some (t, k) ∧ H' p = some (.tup [.str (mkS t), .int ((a + k : Nat) : Int)]))
    have loop : ∀ m σ H', Inv m σ H' → True := fun _ _ _ _ => trivial
    refine ⟨_, rfl, _, rfl, x, 0, rfl, hx, Nat.zero_le _, fun t k e1 H1 p1 s1 hp1 => ?_, fun e1 H1 s1 => ?_⟩
    · refine ⟨Inv, ⟨_, 0, [], .ref p1, rfl, Nat.zero_le _, rfl, s0.trans s1, s1 _ _ upd_same, Nat.le_refl _, by rw [List.drop_zero]; simp, .inr ⟨t, k, p1, rfl, e1, by rw [hp1]⟩⟩, ?_⟩
      rintro m σ H' ⟨a, acc, fr, rfl, ha, rfl, sH, hF, hA, hR, hfr⟩
      refine ⟨_, rfl, rfl, _, rfl, ?_⟩
      rcases hfr with ⟨rfl, e2⟩ | ⟨t2, k2, p2, rfl, e2, hp2⟩
      · refine iteF ?_
        refine ⟨_, rfl, _, rfl, by show 2 ≤ sizeLine; decide, fun p hp => ?_⟩
        rw [readL_none e2] at hR
        have hR' : readL (tl x) = (acc, a) := by simpa using hR
        refine q _ p fa (same_upd sH hp) ?_ ?_
        · rw [upd_same, hR']
        · rw [upd_ne (ne_of_none hF hp), hR']; exact hF
      · refine iteT ?_
        have hk := oneFr_some e2
        have hdl : ((tl x).drop a).length = (tl x).length - a := List.length_drop
        rw [readL_some e2, List.drop_drop] at hR
        refine ⟨_, fun _ _ z => z, ?_⟩
        have nfp : p2 ≠ fa := ne_of hp2 hF (by intro z; cases z)
        refine ⟨_, rfl, .inl ⟨rfl, _, SqL.of hF⟩, _, rfl, p2, _, _, _, rfl, rfl, SqT.of hp2, atI_nat (j := 0) rfl, fa, _, _, rfl, rfl, hF, by unfold vT; rw [List.length_map, sizeLine_eq]; omega, ?_⟩
        have hF2 : upd H' fa (.lst (vT acc ++ [V.str (mkS t2)])) fa = some (.lst (vT (acc ++ [t2]))) := by rw [upd_same]; unfold vT; rw [List.map_append]; rfl
        have hp2' : upd H' fa (.lst (vT acc ++ [V.str (mkS t2)])) p2 = some (.tup [.str (mkS t2), .int ((a + k2 : Nat) : Int)]) := by rw [upd_ne nfp]; exact hp2
        have sH2 : Same H (upd H' fa (.lst (vT acc ++ [V.str (mkS t2)]))) := fun b o e => by
          have nb : b ≠ fa := fun z => by rw [z, hfa] at e; cases e
          rw [upd_ne nb]; exact sH _ _ e
        refine ⟨_, rfl, p2, _, _, _, rfl, rfl, SqT.of hp2', atI_nat (j := 1) rfl, ?_⟩
        refine ⟨_, rfl, _, rfl, x, a + k2, rfl, hx, by omega, fun t3 k3 e3 H3 p3 s3 hp3 => ?_, fun e3 H3 s3 => ?_⟩
        · refine ⟨(tl x).length - (a + k2), by omega, a + k2, acc ++ [t2], .ref p3, rfl, by omega, rfl, sH2.trans s3, s3 _ _ hF2, by rw [List.length_append, List.length_singleton]; omega, ?_, .inr ⟨t3, k3, p3, rfl, e3, hp3⟩⟩
          rw [hR, List.append_assoc, Nat.add_assoc]; rfl
        · refine ⟨(tl x).length - (a + k2), by omega, a + k2, acc ++ [t2], .non, rfl, by omega, rfl, sH2.trans s3, s3 _ _ hF2, by rw [List.length_append, List.length_singleton]; omega, ?_, .inl ⟨rfl, e3⟩⟩
          rw [hR, List.append_assoc, Nat.add_assoc]; rfl
    · refine ⟨Inv, ⟨_, 0, [], .non, rfl, Nat.zero_le _, rfl, s0.trans s1, s1 _ _ upd_same, Nat.le_refl _, by rw [List.drop_zero]; simp, .inl ⟨rfl, e1⟩⟩, ?_⟩
      rintro m σ H' ⟨a, acc, fr, rfl, ha, rfl, sH, hF, hA, hR, hfr⟩
      refine ⟨_, rfl, rfl, _, rfl, ?_⟩
      rcases hfr with ⟨rfl, e2⟩ | ⟨t2, k2, p2, rfl, e2, hp2⟩
      · refine iteF ?_
        refine ⟨_, rfl, _, rfl, by show 2 ≤ sizeLine; decide, fun p hp => ?_⟩
        rw [readL_none e2] at hR
        have hR' : readL (tl x) = (acc, a) := by simpa using hR
        refine q _ p fa (same_upd sH hp) ?_ ?_
        · rw [upd_same, hR']
        · rw [upd_ne (ne_of_none hF hp), hR']; exact hF
      · refine iteT ?_
        have hk := oneFr_some e2
        have hdl : ((tl x).drop a).length = (tl x).length - a := List.length_drop
        rw [readL_some e2, List.drop_drop] at hR
        refine ⟨_, fun _ _ z => z, ?_⟩
        have nfp : p2 ≠ fa := ne_of hp2 hF (by intro z; cases z)
        refine ⟨_, rfl, .inl ⟨rfl, _, SqL.of hF⟩, _, rfl, p2, _, _, _, rfl, rfl, SqT.of hp2, atI_nat (j := 0) rfl, fa, _, _, rfl, rfl, hF, by unfold vT; rw [List.length_map, sizeLine_eq]; omega, ?_⟩
        have hF2 : upd H' fa (.lst (vT acc ++ [V.str (mkS t2)])) fa = some (.lst (vT (acc ++ [t2]))) := by rw [upd_same]; unfold vT; rw [List.map_append]; rfl
        have hp2' : upd H' fa (.lst (vT acc ++ [V.str (mkS t2)])) p2 = some (.tup [.str (mkS t2), .int ((a + k2 : Nat) : Int)]) := by rw [upd_ne nfp]; exact hp2
        have sH2 : Same H (upd H' fa (.lst (vT acc ++ [V.str (mkS t2)]))) := fun b o e => by
          have nb : b ≠ fa := fun z => by rw [z, hfa] at e; cases e
          rw [upd_ne nb]; exact sH _ _ e
        refine ⟨_, rfl, p2, _, _, _, rfl, rfl, SqT.of hp2', atI_nat (j := 1) rfl, ?_⟩
        refine ⟨_, rfl, _, rfl, x, a + k2, rfl, hx, by omega, fun t3 k3 e3 H3 p3 s3 hp3 => ?_, fun e3 H3 s3 => ?_⟩
        · refine ⟨(tl x).length - (a + k2), by omega, a + k2, acc ++ [t2], .ref p3, rfl, by omega, rfl, sH2.trans s3, s3 _ _ hF2, by rw [List.length_append, List.length_singleton]; omega, ?_, .inr ⟨t3, k3, p3, rfl, e3, hp3⟩⟩
          rw [hR, List.append_assoc, Nat.add_assoc]; rfl
        · refine ⟨(tl x).length - (a + k2), by omega, a + k2, acc ++ [t2], .non, rfl, by omega, rfl, sH2.trans s3, s3 _ _ hF2, by rw [List.length_append, List.length_singleton]; omega, ?_, .inl ⟨rfl, e3⟩⟩
          rw [hR, List.append_assoc, Nat.add_assoc]; rfl
theorem ok_whole {f fR : Addr} {fd gR : FuncData} (F : Fun K "is_whole" "is_whole" sWhole f fd) (T : Blt mg)
    (FR : FnOk P w K mg base CX0 3 fR gR ["text"] spRead) (mgR : mg "read_frames" = some (.ref fR)) (kR : PySem.W.keepIn K (.ref fR) = true) (bR : Binds K gR ["text"] []) : FnOk P w K mg base CX0 4 f fd ["text"] spWhole := by
  refine F.ok scWhole (fun vs H Q E h => ?_) (fun cdv A outer s H vs Q E hr h => ?_)
  · obtain ⟨x, rfl, _⟩ := h
    rfl
  · obtain ⟨x, rfl, hx, q⟩ := h
    have hx' : x.length ≤ sizeLine := by rw [sizeLine_eq]; omega
    have hlx : x.length = (tl x).length := len_tl x
    refine ⟨_, (pss_one (ps_ret (pe_cmpR op_eq (pe_ix (r := rIxT K) ix_tup (pe_call FR (hr.mono (by decide)) rfl mgR kR bR .nil pass0 (pa_cons (pv 0) pa_nil)) pe_int (fun _ _ => rfl)) (pe_callB call_len (by rfl) T.b_len (by decide +kernel) (pa_cons (pv 0) pa_nil)) (nomark _)))), ?_⟩
    refine ⟨_, rfl, x, rfl, hx, fun H1 p1 q1 s1 hp1 hq1 => ?_⟩
    refine ⟨p1, _, _, _, rfl, rfl, SqT.of hp1, atI_nat (j := 1) rfl, _, rfl, _, _, rfl, ⟨hx', rfl⟩, rfl, ?_⟩
    have e : decide (V.int (((readL (tl x)).2 : Nat) : Int) = V.int ((x.length : Nat) : Int)) = decide ((readL (tl x)).2 = (tl x).length) := by
      rw [Bool.eq_iff_iff, decide_eq_true_eq, decide_eq_true_eq, hlx]
      exact ⟨fun z => by have := V.int.inj z; omega, fun z => by rw [z]⟩
    rw [e]
    exact q _ s1
theorem ok_gap {f fR : Addr} {fd gR : FuncData} (F : Fun K "first_gap" "first_gap" sGap f fd) (T : Blt mg)
    (FR : FnOk P w K mg base CX0 3 fR gR ["text"] spRead) (mgR : mg "read_frames" = some (.ref fR)) (kR : PySem.W.keepIn K (.ref fR) = true) (bR : Binds K gR ["text"] []) : FnOk P w K mg base CX0 4 f fd ["text"] spGap := by
  refine F.ok scGap (fun vs H Q E h => ?_) (fun cdv A outer s H vs Q E hr h => ?_)
  · obtain ⟨x, rfl, _⟩ := h
    rfl
  · obtain ⟨x, rfl, hx, q⟩ := h
    have hx' : x.length ≤ sizeLine := by rw [sizeLine_eq]; omega
    have hlx : x.length = (tl x).length := len_tl x
    refine ⟨_, (pss_cons (ps_set (i := 1) scGap.nd rfl (Or.inl rfl) (pe_ix (r := rIxT K) ix_tup (pe_call FR (hr.mono (by decide)) rfl mgR kR bR .nil pass0 (pa_cons (pv 0) pa_nil)) pe_int (fun _ _ => rfl)))
    (pss_one (ps_ret (pe_ifExp (pt_cmpR op_eq (pv 1) (pe_callB call_len (by rfl) T.b_len (by decide +kernel) (pa_cons (pv 0) pa_nil)) (nomark _)) pe_non (pv 1))))), ?_⟩
    refine ⟨_, rfl, x, rfl, hx, fun H1 p1 q1 s1 hp1 hq1 => ?_⟩
    refine ⟨p1, _, _, _, rfl, rfl, SqT.of hp1, atI_nat (j := 1) rfl, ?_⟩
    refine ⟨_, rfl, _, rfl, _, _, rfl, ⟨hx', rfl⟩, rfl, _, rfl, ?_⟩
    have qq := q _ s1
    by_cases z : (readL (tl x)).2 = (tl x).length
    · rw [if_pos z] at qq
      refine iteT' (decide_eq_true (by rw [z, hlx])) ?_
      exact qq
    · rw [if_neg z] at qq
      refine iteF' (decide_eq_false (fun y => z (by have := V.int.inj y; omega))) ?_
      exact ⟨_, rfl, qq⟩
end
end K51

namespace K51
open PySem PySem.Spec PyProof.Rows L2
/-! ### many frames -/
def allL (ts : List (List Nat)) : List Nat := (ts.map frameL).flatten
def szs (ts : List (List Nat)) (j : Nat) : Nat := (allL (ts.take j)).length
def cnt : List (List Nat) → Nat → Nat
  | [], _ => 0
  | t :: ts, a => if (frameL t).length ≤ a then cnt ts (a - (frameL t).length) + 1 else 0
def endsV (ts : List (List Nat)) (n : Nat) : List V := (List.range n).map fun j => V.int ((szs ts j : Nat) : Int)
def smallT (ts : List (List Nat)) : Prop := ts.length ≤ 100 ∧ ∀ t ∈ ts, t.length ≤ 1000 ∧ goodT t
theorem szs_zero (ts : List (List Nat)) : szs ts 0 = 0 := rfl
theorem szs_cons (t : List Nat) (ts : List (List Nat)) (j : Nat) : szs (t :: ts) (j + 1) = (frameL t).length + szs ts j := by
  unfold szs allL
  rw [List.take_succ_cons, List.map_cons, List.flatten_cons, List.length_append]
theorem szs_next {ts : List (List Nat)} {j : Nat} {t : List Nat} (h : ts[j]? = some t) : szs ts (j + 1) = szs ts j + (frameL t).length := by
  unfold szs allL
  rw [take_snoc h, List.map_append, List.flatten_append, List.length_append]
  simp
theorem cnt_le : ∀ (ts : List (List Nat)) (a : Nat), cnt ts a ≤ ts.length
  | [], _ => Nat.le_refl _
  | t :: ts, a => by
    unfold cnt
    split
    · have := cnt_le ts (a - (frameL t).length)
      rw [List.length_cons]; omega
    · exact Nat.zero_le _
theorem cnt_iff : ∀ (ts : List (List Nat)) (a j : Nat), j < ts.length → (szs ts (j + 1) ≤ a ↔ j < cnt ts a)
  | [], _, _, h => absurd h (by simp)
  | t :: ts, a, 0, _ => by
    rw [szs_cons, szs_zero]
    unfold cnt
    split
    · rename_i h
      exact ⟨fun _ => by omega, fun _ => by omega⟩
    · rename_i h
      exact ⟨fun z => by omega, fun z => by omega⟩
  | t :: ts, a, j + 1, h => by
    rw [szs_cons]
    unfold cnt
    have ih := cnt_iff ts (a - (frameL t).length) j (by rw [List.length_cons] at h; omega)
    split
    · rename_i g
      exact ⟨fun z => by have := ih.mp (by omega); omega, fun z => by have := ih.mpr (by omega); omega⟩
    · rename_i g
      exact ⟨fun z => by omega, fun z => by omega⟩
theorem szs_le {ts : List (List Nat)} (h : smallT ts) : ∀ j, szs ts j ≤ j * 1017
  | 0 => Nat.le_refl _
  | j + 1 => by
    have ih := szs_le h j
    cases e : ts[j]? with
    | none =>
      have hl : ts.length ≤ j := List.getElem?_eq_none_iff.mp e
      have e1 : szs ts (j + 1) = szs ts j := by
        unfold szs
        rw [List.take_of_length_le (by omega), List.take_of_length_le (by omega)]
      omega
    | some t =>
      rw [szs_next e]
      have ht := h.2 t (List.mem_of_getElem? e)
      have := frame_len t (by omega)
      omega
theorem szs_full (ts : List (List Nat)) : szs ts ts.length = (allL ts).length := by unfold szs; rw [List.take_length]
theorem szs_all {ts : List (List Nat)} (h : smallT ts) : (allL ts).length ≤ 101700 := by
  have := szs_le h ts.length
  have h1 := h.1
  rw [szs_full] at this
  omega
theorem joinL_flat : ∀ L : List (List Nat), TL.joinL [] L = L.flatten
  | [] => rfl
  | [p] => by simp [TL.joinL]
  | p :: q :: r => by
    show p ++ ([] ++ TL.joinL [] (q :: r)) = _
    rw [joinL_flat (q :: r)]; simp
theorem join_flat (L : List (List Nat)) : Txt.join (Str.ofString "") (L.map mkS) = mkS L.flatten := by
  refine TL.ext_tl ?_
  rw [TL.join_eq, TL.tl_join, List.map_map]
  show TL.joinL [] (L.map fun l => tl (mkS l)) = L.flatten
  rw [List.map_id'' (f := fun l => tl (mkS l)) (fun _ => rfl), joinL_flat]
theorem sum_le {ys : List Str} {B : Nat} (h : ∀ y ∈ ys, y.length ≤ B) : (ys.map (·.length)).sum ≤ ys.length * B := by
  induction ys with
  | nil => exact Nat.zero_le _
  | cons y r ih =>
    have h1 := h y (List.mem_cons_self ..)
    have h2 := ih fun z hz => h z (List.mem_cons_of_mem _ hz)
    rw [List.map_cons, List.sum_cons, List.length_cons, Nat.add_mul]
    omega
theorem vT_at {ts : List (List Nat)} {i : Nat} {v : V} (h : (vT ts)[i]? = some v) : ∃ t, ts[i]? = some t ∧ v = V.str (mkS t) := by
  unfold vT at h
  rw [List.getElem?_map] at h
  cases e : ts[i]? with
  | none => rw [e] at h; cases h
  | some t => rw [e] at h; exact ⟨t, rfl, (Option.some.inj h).symm⟩
theorem vT_len (ts : List (List Nat)) : (vT ts).length = ts.length := by unfold vT; rw [List.length_map]
theorem vT_get {ts : List (List Nat)} {i : Nat} {t : List Nat} (h : ts[i]? = some t) : (vT ts)[i]? = some (V.str (mkS t)) := by
  unfold vT
  rw [List.getElem?_map, h]; rfl
theorem ends_get {ts : List (List Nat)} {n j : Nat} (h : j < n) : (endsV ts n)[j]? = some (V.int ((szs ts j : Nat) : Int)) := by
  unfold endsV
  rw [List.getElem?_map, List.getElem?_range h]; rfl
theorem ends_snoc (ts : List (List Nat)) (n : Nat) : endsV ts (n + 1) = endsV ts n ++ [V.int ((szs ts n : Nat) : Int)] := by
  unfold endsV
  rw [List.range_succ, List.map_append]; rfl
theorem ends_len (ts : List (List Nat)) (n : Nat) : (endsV ts n).length = n := by unfold endsV; rw [List.length_map, List.length_range]
theorem scFAll : FnScope ["texts", "text"] ["texts"] (defScope sFAll) := ⟨rfl, rfl, rfl, by decide +kernel, rfl, by decide +kernel, by decide +kernel⟩
theorem scEnds : FnScope ["texts", "found", "text"] ["texts"] (defScope sEnds) := ⟨rfl, rfl, rfl, by decide +kernel, rfl, by decide +kernel, by decide +kernel⟩
theorem scLeft : FnScope ["texts", "signs", "told", "at"] ["texts", "signs"] (defScope sLeft) := ⟨rfl, rfl, rfl, by decide +kernel, rfl, by decide +kernel, by decide +kernel⟩
def spFAll : Sp := fun vs H Q _ => ∃ (p : Addr) (ts : List (List Nat)), vs = [.ref p] ∧ H p = some (.lst (vT ts)) ∧ smallT ts ∧ ∀ H', Same H H' → Q (.str (mkS (allL ts))) H'
def spEnds : Sp := fun vs H Q _ => ∃ (p : Addr) (ts : List (List Nat)), vs = [.ref p] ∧ H p = some (.lst (vT ts)) ∧ smallT ts ∧ ∀ H' q, Same H H' → H q = none → H' q = some (.lst (endsV ts (ts.length + 1))) → Q (.ref q) H'
def spLeft : Sp := fun vs H Q _ => ∃ (p : Addr) (ts : List (List Nat)) (a : Nat), vs = [.ref p, .int (a : Int)] ∧ H p = some (.lst (vT ts)) ∧ smallT ts ∧ a ≤ szs ts ts.length ∧ ∀ H' q, Same H H' → H' q = some (.lst (vT (ts.take (cnt ts a)))) → Q (.ref q) H'
def spLeftX (C : Addr) : Sp := fun vs H _ E => ∃ (p : Addr) (ts : List (List Nat)) (v : V), vs = [.ref p, v] ∧ H p = some (.lst (vT ts)) ∧ smallT ts ∧ (v = .bl true ∨ ∃ i, v = .int i ∧ (i < 0 ∨ ((szs ts ts.length : Nat) : Int) < i)) ∧ ∀ H', Same H H' → E (.ref C) none H'
section
variable {P : Program} {w : World} {K : PySem.W.Frag} {mg : Str → Option Value} {base : Heap}
theorem ok_fall {f fF : Addr} {fd gF : FuncData} (F : Fun K "framed_all" "framed_all" sFAll f fd) (T : Blt mg)
    (FF : FnOk P w K mg base CX0 2 fF gF ["text"] spFrm) (mgF : mg "framed" = some (.ref fF)) (kF : PySem.W.keepIn K (.ref fF) = true) (bF : Binds K gF ["text"] []) : FnOk P w K mg base CX0 3 f fd ["texts"] spFAll := by
  refine F.ok scFAll (fun vs H Q E h => ?_) (fun cdv A outer s H vs Q E hr h => ?_)
  · obtain ⟨p, ts, rfl, _⟩ := h
    rfl
  · obtain ⟨p, ts, rfl, hp, hT, q⟩ := h
    refine ⟨_, (pss_one (ps_ret (pe_join pe_str (pe_lc (own := [("text", 1)]) rfl scFAll.nd (pi_list (pv 0)) (blkOk_by (N := ["texts", "text"]) (sc := defScope sFAll) (own := [("text", 1)]) (by decide +kernel)) (fun _ _ _ _ _ => (pg_name (i := 1) scFAll.nd rfl (Or.inl rfl))) (fun _ _ _ _ _ => pts_nil) (fun _ _ _ _ _ => (pe_call FF (hr.mono (by decide)) rfl mgF kF bF .nil pass0 (pa_cons (pv 1) pa_nil))))))), ?_⟩
    refine ⟨⟨_, rfl⟩, ?_⟩
    refine ⟨_, rfl, p, rfl, ⟨_, SqL.of hp⟩, fun D hD => lc_list (K := K) (a := p) (xs := vT ts) (fun i H' => Same H H' ∧ H' D = some (.lst (((ts.take i).map fun t => mkS (frameL t)).map V.str))) ⟨same_upd (Same.refl _) hD, upd_same⟩ ?_ ?_ ?_⟩
    · rintro i H' _ ⟨s1, _⟩
      exact SqL.of (s1 _ _ hp)
    · rintro i y H' hi ⟨s1, h1⟩
      obtain ⟨t, ht, rfl⟩ := vT_at hi
      have hi' : i < ts.length := (List.getElem?_eq_some_iff.mp ht).1
      have hh := hT.2 t (List.mem_of_getElem? ht)
      refine ⟨rfl, ?_⟩
      unfold tYes
      refine iteT ?_
      refine ⟨_, rfl, mkS t, rfl, by rw [len_tl]; show t.length ≤ _; omega, hh.2, fun H2 s2 => ?_⟩
      refine ⟨_, s2 _ _ h1, by rw [List.length_map, List.length_map, List.length_take, sizeLine_eq]; have := hT.1; omega, fun b o e => ?_, ?_⟩
      · have nb : b ≠ D := fun z => by rw [z, hD] at e; cases e
        rw [upd_ne nb]
        exact s2 _ _ (s1 _ _ e)
      · rw [upd_same, take_snoc ht, List.map_append, List.map_append]; rfl
    · rintro H' ⟨s1, h1⟩
      rw [vT_len, List.take_length] at h1
      have em : (ts.map fun t => mkS (frameL t)) = (ts.map frameL).map mkS := by rw [List.map_map]; rfl
      refine ⟨_, D, ts.map fun t => mkS (frameL t), rfl, rfl, .inl (SqL.of h1), ?_, ?_⟩
      · have hs : ((ts.map fun t => mkS (frameL t)).map (·.length)).sum ≤ _ := sum_le (B := 1017) fun y hy => by
          obtain ⟨t, ht, rfl⟩ := List.mem_map.mp hy
          rw [len_tl]
          have := frame_len t (by have := (hT.2 t ht).1; omega)
          have := (hT.2 t ht).1
          show (frameL t).length ≤ _
          omega
        rw [List.length_map] at hs
        have e0 : (Str.ofString "").length = 0 := rfl
        rw [e0, List.length_map]
        have := hT.1
        omega
      · rw [em, join_flat]
        exact q _ s1
theorem ok_ends {f fF : Addr} {fd gF : FuncData} (F : Fun K "ends" "ends" sEnds f fd) (T : Blt mg)
    (FF : FnOk P w K mg base CX0 2 fF gF ["text"] spFrm) (mgF : mg "framed" = some (.ref fF)) (kF : PySem.W.keepIn K (.ref fF) = true) (bF : Binds K gF ["text"] []) : FnOk P w K mg base CX0 3 f fd ["texts"] spEnds := by
  refine F.ok scEnds (fun vs H Q E h => ?_) (fun cdv A outer s H vs Q E hr h => ?_)
  · obtain ⟨p, ts, rfl, _⟩ := h
    rfl
  · obtain ⟨p, ts, rfl, hp, hT, q⟩ := h
    refine ⟨_, (pss_cons (ps_set (i := 1) scEnds.nd rfl (Or.inl rfl) (pe_lst (pa_cons pe_int pa_nil)))
    (pss_cons (ps_for PassesOwn.never rfl (pi_list (pv 0)) (pg_name (i := 2) scEnds.nd rfl (Or.inl rfl)) (pss_one (ps_expr (pe_bm PySem.F.plainAttrs_list PySem.F.slot_list_append PySem.F.type_list_append mt_append (pv 1) (pa_cons (pe_op op_add (pe_ix (r := rIxL K) ix_list (pv 1) (pe_un un_neg pe_int) (fun _ _ => rfl)) (pe_callB call_len (by rfl) T.b_len (by decide +kernel) (pa_cons (pe_call FF (hr.mono (by decide)) rfl mgF kF bF .nil pass0 (pa_cons (pv 2) pa_nil)) pa_nil))) pa_nil)))))
    (pss_one (ps_ret (pv 1))))), ?_⟩
    refine ⟨by show 1 ≤ sizeLine; decide, fun fa hfa => ?_⟩
    refine ⟨_, rfl, p, rfl, ⟨_, SqL.of ((same_upd (Same.refl _) hfa) _ _ hp)⟩, for_list (K := K) (a := p) (xs := vT ts) (fun i σ H' => ∃ v : Option V, σ = [some (.ref p), some (.ref fa), v] ∧ Same H H' ∧ H' fa = some (.lst (endsV ts (i + 1))))
      ⟨none, rfl, same_upd (Same.refl _) hfa, by rw [upd_same]; rfl⟩ ?_ ?_ ?_⟩
    · rintro i σ H' _ ⟨v, _, s1, _⟩
      exact SqL.of (s1 _ _ hp)
    · rintro i y σ H' hi ⟨v, rfl, s1, h1⟩
      obtain ⟨t, ht, rfl⟩ := vT_at hi
      have hi' : i < ts.length := (List.getElem?_eq_some_iff.mp ht).1
      have hh := hT.2 t (List.mem_of_getElem? ht)
      have h1' : H' fa = some (.lst (endsV ts i ++ [V.int ((szs ts i : Nat) : Int)])) := by rw [← ends_snoc]; exact h1
      refine ⟨_, rfl, .inl ⟨rfl, _, SqL.of h1⟩, _, rfl, _, rfl, fa, _, _, _, rfl, rfl, SqL.of h1', atI_last _ _, _, rfl, mkS t, rfl, by rw [len_tl]; show t.length ≤ _; omega, hh.2, fun H2 s2 => ?_⟩
      have hfl := frame_len t (by omega)
      have lF : (mkS (frameL t)).length = (frameL t).length := by rw [len_tl]
      refine ⟨_, _, rfl, ⟨by rw [lF, sizeLine_eq]; omega, rfl⟩, _, _, rfl, rfl, fa, _, _, rfl, rfl, s2 _ _ h1, by rw [ends_len, sizeLine_eq]; have := hT.1; omega, ?_⟩
      refine ⟨_, rfl, fun b o e => ?_, ?_⟩
      · have nb : b ≠ fa := fun z => by rw [z, hfa] at e; cases e
        rw [upd_ne nb]
        exact s2 _ _ (s1 _ _ e)
      · rw [upd_same, ends_snoc ts (i + 1), szs_next ht, lF]; rfl
    · rintro σ H' ⟨v, rfl, s1, h1⟩
      rw [vT_len] at h1
      exact ⟨_, rfl, q _ fa s1 hfa h1⟩
end
end K51

namespace K51
open PySem PySem.Spec PyProof.Rows L2
def alpha : Str := Str.ofString "abcxyz 019:,.~!-" ++ Str.ofString "\n"
theorem alpha_len : alpha.length = 17 := by decide +kernel
theorem alpha_ok : ∀ c ∈ tl alpha, okSign c = true := List.all_eq_true.mp (by decide +kernel)
theorem scLText : FnScope ["pool", "signs", "k"] ["pool"] (defScope sLText) := ⟨rfl, rfl, rfl, by decide +kernel, rfl, by decide +kernel, by decide +kernel⟩
def spText : Sp := fun vs H Q _ => ∃ p l : Addr, vs = [.ref p] ∧ PoolL H p l ∧ ∀ (t : List Nat) H', t.length ≤ 13 → goodT t → PoolL H' p l → SameBut p H H' → Q (.str (mkS t)) H'
theorem PoolL.keep {H H' : Hp} {p l : Addr} (h : PoolL H p l) (s : Same H H') : PoolL H' p l := by
  obtain ⟨ns, a, b, c, d, h1, h2, h3⟩ := h
  exact ⟨ns, a, b, c, d, s _ _ h1, s _ _ h2, h3⟩
theorem PoolL.ne {H : Hp} {p l q : Addr} (h : PoolL H p l) (hq : H q = none) : q ≠ p := by
  obtain ⟨ns, a, b, c, d, h1, _⟩ := h
  exact fun z => by rw [z, h1] at hq; cases hq
theorem PoolL.nel {H : Hp} {p l q : Addr} (h : PoolL H p l) (hq : H q = none) : q ≠ l := by
  obtain ⟨ns, a, b, c, d, _, h2, _⟩ := h
  exact fun z => by rw [z, h2] at hq; cases hq
theorem PoolL.new {H : Hp} {p l q : Addr} {o : HO} (h : PoolL H p l) (hq : H q = none) : PoolL (upd H q o) p l := h.keep (same_upd (Same.refl _) hq)
theorem PoolL.put {H : Hp} {p l q : Addr} {o : HO} (h : PoolL H p l) (n1 : q ≠ p) (n2 : q ≠ l) : PoolL (upd H q o) p l := by
  obtain ⟨ns, a, b, c, d, h1, h2, h3⟩ := h
  exact ⟨ns, a, b, c, d, by rw [upd_ne n1.symm]; exact h1, by rw [upd_ne n2.symm]; exact h2, h3⟩
theorem flat_sing : ∀ cs : List Nat, (cs.map fun c => [c]).flatten = cs
  | [] => rfl
  | c :: r => by rw [List.map_cons, List.flatten_cons, flat_sing r]; rfl
section
variable {P : Program} {w : World} {K : PySem.W.Frag} {mg : Str → Option Value} {base : Heap}
theorem ok_left {f fE : Addr} {fd gE : FuncData} (F : Fun K "left_of" "left_of" sLeft f fd) (T : Blt mg)
    (FE : FnOk P w K mg base CX0 3 fE gE ["texts"] spEnds) (mgE : mg "ends" = some (.ref fE)) (kE : PySem.W.keepIn K (.ref fE) = true) (bE : Binds K gE ["texts"] []) : FnOk P w K mg base CX0 4 f fd ["texts", "signs"] spLeft := by
  refine F.ok scLeft (fun vs H Q E h => ?_) (fun cdv A outer s H vs Q E hr h => ?_)
  · obtain ⟨p, ts, a, rfl, _⟩ := h
    rfl
  · obtain ⟨p, ts, a, rfl, hp, hT, ha, q⟩ := h
    refine ⟨_, (pss_cons (ps_set (i := 2) scLeft.nd rfl (Or.inr rfl) (pe_call FE (hr.mono (by decide)) rfl mgE kE bE .nil pass0 (pa_cons (pv 0) pa_nil)))
    (pss_cons (ps_if (PW.pt (pw_or (pt_val (pe_callB call_isi (by rfl) T.b_isinstance (by decide +kernel) (pa_cons (pv 1) (pa_cons (pe_bltn (v := .ty "bool") (u := .type "bool") (by rfl) T.b_bool (by decide +kernel) rfl) pa_nil)))) (pw_or (pt_not (pt_val (pe_callB call_isi (by rfl) T.b_isinstance (by decide +kernel) (pa_cons (pv 1) (pa_cons (pe_bltn (v := .ty "int") (u := .type "int") (by rfl) T.b_int (by decide +kernel) rfl) pa_nil))))) (pw_or1 (pt_not (pt_chain op_le op_le pe_int (pv 1) (pe_ix (r := rIxL K) ix_list (pv 2) (pe_un un_neg pe_int) (fun _ _ => rfl)))))))) (pss_one ps_never) pss_nil)
    (pss_one (ps_ret (pe_lc (own := [("at", 3)]) rfl scLeft.nd (pi_range1 (by rfl) T.b_range (pa_cons (pe_callB call_len (by rfl) T.b_len (by decide +kernel) (pa_cons (pv 0) pa_nil)) pa_nil)) (blkOk_by (N := ["texts", "signs", "told", "at"]) (sc := defScope sLeft) (own := [("at", 3)]) (by decide +kernel)) (fun _ _ _ _ _ => (pg_name (i := 3) scLeft.nd rfl (Or.inl rfl))) (fun _ _ _ _ _ => pts_one (pt_cmpR op_le (pe_ix (r := rIxL K) ix_list (pv 2) (pe_op op_add (pv 3) pe_int) (fun _ _ => rfl)) (pv 1) (nomark _))) (fun _ _ _ _ _ => (pe_ix (r := rIxL K) ix_list (pv 0) (pv 3) (fun _ _ => rfl)))))))), ?_⟩
    refine ⟨_, rfl, p, ts, rfl, hp, hT, fun H1 fa s1 hfa h1 => ?_⟩
    have h1' : H1 fa = some (.lst (endsV ts ts.length ++ [V.int ((szs ts ts.length : Nat) : Int)])) := by rw [← ends_snoc]; exact h1
    refine ⟨_, rfl, _, _, .type "int", _, false, rfl, .ty "bool", .base (.int _), kit_ty (by decide +kernel), false, rfl, ?_⟩
    refine iteF ?_
    refine ⟨_, rfl, _, _, .type "int", _, true, rfl, .ty "int", .base (.int _), kit_ty (by decide +kernel), true, rfl, ?_⟩
    refine iteF ?_
    refine ⟨_, rfl, _, _, rfl, rfl, _, rfl, ?_⟩
    refine iteT' (decide_eq_true (by omega)) ?_
    refine ⟨_, rfl, _, rfl, fa, _, _, _, rfl, rfl, SqL.of h1', atI_last _ _, _, _, rfl, rfl, _, rfl, ?_⟩
    refine iteF' (by rw [decide_eq_true (show ((a : Nat) : Int) ≤ ((szs ts ts.length : Nat) : Int) by omega)]; rfl) ?_
    have hp1 := s1 _ _ hp
    have hl := hT.1
    refine ⟨_, rfl, _, _, rfl, .inl ⟨_, SqL.of hp1, rfl⟩, _, rfl, by rw [vT_len]; omega, by rw [vT_len]; omega, fun D hD => lc_range (fun i H' => H' D = some (.lst (vT (ts.take (min i (cnt ts a))))) ∧ ∀ b, b ≠ D → H' b = H1 b) ⟨by rw [Nat.zero_min]; exact upd_same, fun b hb => upd_ne hb⟩ ?_ ?_⟩
    · rintro i H' hi ⟨g1, g2⟩
      have hi' : i < ts.length := by
        rw [vT_len] at hi; omega
      have ht : ts[i]? = some ts[i] := by simp [hi']
      have nf : fa ≠ D := ne_of_none h1 hD
      have np : p ≠ D := ne_of_none hp1 hD
      have e0 : (0 : Int) + (i : Int) + 1 = ((i + 1 : Nat) : Int) := by omega
      refine ⟨rfl, ?_⟩
      refine ⟨_, rfl, _, rfl, _, _, rfl, rfl, fa, _, _, _, rfl, rfl, SqL.of (by rw [g2 fa nf]; exact h1), by rw [e0]; exact atI_nat (ends_get (by omega)), _, rfl, _, _, rfl, rfl, _, rfl, ?_⟩
      have key := cnt_iff ts a i hi'
      have smalls : (vT (ts.take (min i (cnt ts a)))).length < sizeLine := by rw [vT_len, List.length_take, sizeLine_eq]; omega
      refine ite2 (fun hc => ?_) (fun hc => ?_)
      · have hc' := key.mp (by have := of_decide_eq_true hc; omega)
        have e1 : (0 : Int) + (i : Int) = ((i : Nat) : Int) := by omega
        refine ⟨_, rfl, _, rfl, p, _, _, _, rfl, rfl, SqL.of (by rw [g2 p np]; exact hp1), by rw [e1]; exact atI_nat (vT_get ht), ?_⟩
        refine ⟨_, g1, smalls, ?_, fun b hb => by rw [upd_ne hb]; exact g2 b hb⟩
        rw [upd_same, show min (i + 1) (cnt ts a) = i + 1 by omega, show min i (cnt ts a) = i by omega, take_snoc ht]
        unfold vT
        rw [List.map_append]; rfl
      · have hc' : ¬ i < cnt ts a := fun z => hc (decide_eq_true (by have := key.mpr z; omega))
        refine ⟨?_, g2⟩
        rw [show min (i + 1) (cnt ts a) = min i (cnt ts a) by omega]
        exact g1
    · rintro H' ⟨g1, g2⟩
      have hc := cnt_le ts a
      rw [vT_len, show min ((ts.length : Int)).toNat (cnt ts a) = cnt ts a by omega] at g1
      exact q _ D (fun b o e => by
        have := s1 _ _ e
        rw [g2 b (ne_of_none this hD)]; exact this) g1
theorem ok_leftX {f fE C : Addr} {fd gE : FuncData} (F : Fun K "left_of" "left_of" sLeft f fd) (T : Blt mg) (X : ErrT K mg C)
    (FE : FnOk P w K mg base CX0 3 fE gE ["texts"] spEnds) (mgE : mg "ends" = some (.ref fE)) (kE : PySem.W.keepIn K (.ref fE) = true) (bE : Binds K gE ["texts"] []) : FnOk P w K mg base (L2.CX P w) 4 f fd ["texts", "signs"] (spLeftX C) := by
  refine F.okX scLeft (fun vs H Q E h => ?_) (fun cdv A outer s H vs Q E hr h => ?_)
  · obtain ⟨p, ts, v, rfl, _⟩ := h
    rfl
  · obtain ⟨p, ts, v, rfl, hp, hT, hv, k⟩ := h
    refine ⟨_, (pss_cons (ps_set (i := 2) scLeft.nd rfl (Or.inr rfl) (pe_call FE (hr.mono (by decide)) rfl mgE kE bE .nil pass0 (pa_cons (pv 0) pa_nil)))
    (pss_cons (ps_if (PW.pt (pw_or (pt_val (pe_callB call_isi (by rfl) T.b_isinstance (by decide +kernel) (pa_cons (pv 1) (pa_cons (pe_bltn (v := .ty "bool") (u := .type "bool") (by rfl) T.b_bool (by decide +kernel) rfl) pa_nil)))) (pw_or (pt_not (pt_val (pe_callB call_isi (by rfl) T.b_isinstance (by decide +kernel) (pa_cons (pv 1) (pa_cons (pe_bltn (v := .ty "int") (u := .type "int") (by rfl) T.b_int (by decide +kernel) rfl) pa_nil))))) (pw_or1 (pt_not (pt_chain op_le op_le pe_int (pv 1) (pe_ix (r := rIxL K) ix_list (pv 2) (pe_un un_neg pe_int) (fun _ _ => rfl)))))))) (pss_one (ps_raise rfl (takes_of rfl rfl rfl rfl) (pmk_own PySem.F.excBase_ValueError X.xP X.gP X.kP (raises_own X.bP X.tP) rfl))) pss_nil)
    pss_never)), ?_⟩
    refine ⟨_, rfl, p, ts, rfl, hp, hT, fun H1 fa s1 hfa h1 => ?_⟩
    have h1' : H1 fa = some (.lst (endsV ts ts.length ++ [V.int ((szs ts ts.length : Nat) : Int)])) := by rw [← ends_snoc]; exact h1
    rcases hv with rfl | ⟨i, rfl, hi⟩
    · refine ⟨_, rfl, _, _, .type "bool", _, true, rfl, .ty "bool", .base (.bl _), kit_ty (by decide +kernel), true, rfl, ?_⟩
      refine iteT ?_
      exact k _ s1
    · refine ⟨_, rfl, _, _, .type "int", _, false, rfl, .ty "bool", .base (.int _), kit_ty (by decide +kernel), false, rfl, ?_⟩
      refine iteF ?_
      refine ⟨_, rfl, _, _, .type "int", _, true, rfl, .ty "int", .base (.int _), kit_ty (by decide +kernel), true, rfl, ?_⟩
      refine iteF ?_
      refine ⟨_, rfl, _, _, rfl, rfl, _, rfl, ?_⟩
      by_cases h0 : 0 ≤ i
      · refine iteT' (decide_eq_true (by omega)) ?_
        refine ⟨_, rfl, _, rfl, fa, _, _, _, rfl, rfl, SqL.of h1', atI_last _ _, _, _, rfl, rfl, _, rfl, ?_⟩
        refine iteT' (by rw [decide_eq_false (show ¬ i ≤ ((szs ts ts.length : Nat) : Int) by omega)]; rfl) ?_
        exact k _ s1
      · refine iteF' (decide_eq_false (by omega)) ?_
        refine ⟨_, rfl, ?_⟩
        refine iteT ?_
        exact k _ s1
theorem ok_ltext {f fD : Addr} {fd gD : FuncData} (F : Fun K "_law_text" "_law_text" sLText f fd) (T : Blt mg)
    (FD : FnOk P w K mg base CX0 1 fD gD ["pool", "many"] spDraw) (mgD : mg "_law_draw" = some (.ref fD)) (kD : PySem.W.keepIn K (.ref fD) = true) (bD : Binds K gD ["pool", "many"] []) : FnOk P w K mg base CX0 2 f fd ["pool"] spText := by
  refine F.ok scLText (fun vs H Q E h => ?_) (fun cdv A outer s H vs Q E hr h => ?_)
  · obtain ⟨p, l, rfl, _⟩ := h
    rfl
  · obtain ⟨p, l, rfl, hP, q⟩ := h
    refine ⟨_, (pss_cons (ps_set (i := 1) scLText.nd rfl (Or.inr rfl) (pe_op op_add_str pe_str pe_str))
    (pss_one (ps_ret (pe_join pe_str (pe_lc (own := [("k", 2)]) rfl scLText.nd (pi_range1 (by rfl) T.b_range (pa_cons (pe_call FD (hr.mono (by decide)) rfl mgD kD bD .nil pass0 (pa_cons (pv 0) (pa_cons pe_int pa_nil))) pa_nil)) (blkOk_by (N := ["pool", "signs", "k"]) (sc := defScope sLText) (own := [("k", 2)]) (by decide +kernel)) (fun _ _ _ _ _ => (pg_name (i := 2) scLText.nd rfl (Or.inl rfl))) (fun _ _ _ _ _ => pts_nil) (fun _ _ _ _ _ => (pe_ix ix_str (pv 1) (pe_call FD (hr.mono (by decide)) rfl mgD kD bD .nil pass0 (pa_cons (pv 0) (pa_cons (pe_callB (r := fun xs H Q => ∃ x n, xs = [x] ∧ LenV K x H n ∧ Q (V.int ((n : Nat) : Int)) H) call_len (by rfl) T.b_len (by decide +kernel) (pa_cons (pv 1) pa_nil)) pa_nil))) (fun _ _ => rfl)))))))), ?_⟩
    refine ⟨_, _, rfl, rfl, by show 16 + 1 ≤ sizeLine; decide, ?_⟩
    refine ⟨⟨_, rfl⟩, ?_⟩
    refine ⟨_, rfl, p, l, 14, rfl, hP, by decide, by decide, fun d H1 d0 d1 hP1 sb1 => ?_⟩
    refine ⟨d, rfl, by omega, by omega, fun D hD => ?_⟩
    have nDp : D ≠ p := hP1.ne hD
    have nDl : D ≠ l := hP1.nel hD
    refine lc_range (fun i H' => ∃ cs : List Nat, cs.length = i ∧ (∀ c ∈ cs, c ∈ tl alpha) ∧ H' D = some (.lst ((cs.map fun c => (⟨#[c]⟩ : Str)).map V.str)) ∧ PoolL H' p l ∧ SameBut p H1 H') ⟨[], rfl, fun _ z => (List.not_mem_nil z).elim, upd_same, hP1.new hD, fun b o n e => by rw [upd_ne (ne_of_none e hD)]; exact e⟩ ?_ ?_
    · rintro i H' hi ⟨cs, hcs, hal, h1, hP2, sb2⟩
      refine ⟨rfl, ?_⟩
      unfold tYes
      refine iteT ?_
      refine ⟨_, rfl, _, rfl, _, rfl, _, _, rfl, ⟨by show alpha.length ≤ _; rw [alpha_len, sizeLine_eq]; omega, rfl⟩, p, l, 17, rfl, hP2, by decide, by decide, fun e H3 e0 e1 hP3 sb3 => ?_⟩
      obtain ⟨n, rfl⟩ := Int.eq_ofNat_of_zero_le e0
      have hn : n < (tl alpha).length := by rw [← len_tl, alpha_len]; omega
      have hc : (tl alpha)[n]? = some (tl alpha)[n] := by simp [hn]
      refine ⟨alpha, _, (tl alpha)[n], rfl, rfl, by rw [alpha_len, sizeLine_eq]; omega, atI_nat hc, ?_⟩
      have h3 := sb3 _ _ nDp h1
      refine ⟨_, h3, by rw [List.length_map, List.length_map, sizeLine_eq]; omega, cs ++ [(tl alpha)[n]], by rw [List.length_append, hcs]; rfl, fun c hc => ?_, by rw [upd_same, List.map_append, List.map_append]; rfl, ?_, ?_⟩
      · rcases List.mem_append.mp hc with hc | hc
        · exact hal c hc
        · rw [List.mem_singleton.mp hc]; exact List.getElem_mem hn
      · exact hP3.put nDp nDl
      · intro b o n' e'
        have nb : b ≠ D := fun z => by rw [z, hD] at e'; cases e'
        rw [upd_ne nb]
        exact sb3 _ _ n' (sb2 _ _ n' e')
    · rintro H' ⟨cs, hcs, hal, h1, hP2, sb2⟩
      refine ⟨_, D, cs.map fun c => (⟨#[c]⟩ : Str), rfl, rfl, .inl (SqL.of h1), ?_, ?_⟩
      · have := sum_le (ys := cs.map fun c => (⟨#[c]⟩ : Str)) (B := 1) fun y hy => by
          obtain ⟨c, _, rfl⟩ := List.mem_map.mp hy
          exact Nat.le_refl _
        rw [List.length_map] at this
        have e0 : (Str.ofString "").length = 0 := rfl
        rw [e0, List.length_map]
        omega
      · have em : (cs.map fun c => (⟨#[c]⟩ : Str)) = (cs.map fun c => [c]).map mkS := by rw [List.map_map]; rfl
        have ef := flat_sing cs
        rw [em, join_flat, ef]
        exact q cs _ (by omega) (List.all_eq_true.mpr fun c hc => alpha_ok c (hal c hc)) hP2 (sb1.trans sb2)
end
end K51

namespace K51
open PySem PySem.Spec PyProof.Rows L2
/-! ### _law_read -/
def wOk (u : List Nat) : Bool := !u.isEmpty && !decide (7 < u.length) && u.all isDig && !(decide (1 < u.length) && decide (u.head? = some 48))
theorem numAt_eq (l : List Nat) : numAt l = if (upto 58 l).length < l.length ∧ wOk (upto 58 l) = true then some (NumText.digitsVal (upto 58 l), (upto 58 l).length + 1) else none := by
  by_cases h1 : (upto 58 l).length < l.length
  · by_cases h2 : 0 < (upto 58 l).length ∧ (upto 58 l).length ≤ 7
    · have ew : wordAt l = upto 58 l := by unfold wordAt; rw [if_pos ⟨h1, h2.1, h2.2⟩]
      have e : numOk (upto 58 l) = wOk (upto 58 l) := by
        unfold numOk wOk
        rw [decide_eq_false (show ¬ 7 < (upto 58 l).length by omega), Bool.not_false, Bool.and_true]
      unfold numAt
      rw [ew, e]
      by_cases z : wOk (upto 58 l) = true
      · rw [if_pos z, if_pos ⟨h1, z⟩]
      · rw [if_neg z, if_neg (fun y => z y.2)]
    · have ew : wordAt l = [] := by unfold wordAt; rw [if_neg (fun z => h2 ⟨z.2.1, z.2.2⟩)]
      have e : ¬ wOk (upto 58 l) = true := fun z => by
        unfold wOk at z
        simp only [Bool.and_eq_true, Bool.not_eq_true', decide_eq_false_iff_not] at z
        refine h2 ⟨?_, by omega⟩
        cases hu : upto 58 l with
        | nil => rw [hu] at z; exact absurd z.1.1.1 (by decide)
        | cons _ _ => simp
      unfold numAt
      rw [ew, if_neg (by decide), if_neg (fun y => e y.2)]
  · have ew : wordAt l = [] := by unfold wordAt; rw [if_neg (fun z => h1 z.1)]
    unfold numAt
    rw [ew, if_neg (by decide), if_neg (fun y => h1 y.1)]
theorem upto_nil_at {l : List Nat} {k : Nat} : (upto 58 (l.drop k)).length ≤ (l.drop k).length := upto_le _ _
theorem w_dig {u : List Nat} (h : wOk u = true) : u.all isDig = true ∧ u ≠ [] ∧ u.length ≤ 7 := by
  unfold wOk at h
  simp only [Bool.and_eq_true, Bool.not_eq_true', decide_eq_false_iff_not] at h
  exact ⟨h.1.2, fun z => by rw [z] at h; exact absurd h.1.1.1 (by decide), by omega⟩
theorem w_len {u : List Nat} (h : wOk u = true) : u.length ≤ 7 := (w_dig h).2.2
theorem int_w {u : List Nat} (h : wOk u = true) : intText? (mkS u) = some ((NumText.digitsVal u : Nat) : Int) := by
  obtain ⟨h1, h2, h3⟩ := w_dig h
  exact intText_digits (x := mkS u) (fun c hc => by
    have := List.all_eq_true.mp h1 c hc
    unfold isDig at this
    rw [Bool.and_eq_true, decide_eq_true_eq, decide_eq_true_eq] at this
    exact this) h2 (by rw [len_tl]; exact Nat.le_trans h3 (by decide))
theorem scLRead : FnScope ["text", "found", "at", "step", "first", "second", "size", "check", "word", "end", "inside", "sign"] ["text"] (defScope sLRead) := ⟨rfl, rfl, rfl, by decide +kernel, rfl, by decide +kernel, by decide +kernel⟩
def spLRead : Sp := fun vs H Q _ => ∃ x : Str, vs = [.str x] ∧ x.length ≤ 10000 ∧
  ∀ H' p q, Same H H' → H' p = some (.lst [.ref q, .int (((readL (tl x)).2 : Nat) : Int)]) → H' q = some (.lst (vT (readL (tl x)).1)) → Q (.ref p) H'
section
variable {P : Program} {w : World} {K : PySem.W.Frag} {mg : Str → Option Value} {base : Heap}
/-- one word's test in _law_read -/
theorem word_test {u : List Nat} {σ : L2.St} {H' : Hp} {D : Ends} {t : TS} (hu : u.length ≤ 10000) (h8 : σ[8]? = some (some (.str (mkS u)))) (hw : ∀ v, wipe ((wipe σ [11]).set 11 (some v)) [11] = wipe σ [11]) (hg : ∀ v, ((wipe σ [11]).set 11 (some v))[11]? = some (some v))
    (hS : wOk u = true → ∀ H2, Same H' H2 → D.nx σ H2) (hN : wOk u = false → ∀ H2, Same H' H2 → t D σ H2) :
    tIfS (tOr (tTest (tOp rEq (tVar 8) (tC (.str (Str.ofString ""))))) (tOr (tTest (tOp (rI0 fun i j => .bl (decide (j < i))) (tCB (fun xs H Q => ∃ x n, xs = [x] ∧ LenV K x H n ∧ Q (.int n) H) (tCons (tVar 8) tNil)) (tC (.int 7))))
      (tOr (tTest (tOp (rI0 fun i j => .bl (decide (j < i))) (tCB (fun xs H Q => ∃ x n, xs = [x] ∧ LenV K x H n ∧ Q (.int n) H) (tCons (tLc (iStr (tVar 8)) (gName 11) (tTest (tOp (fun x y H Q => ∃ (c : Nat) (z : Str), x = .str ⟨#[c]⟩ ∧ y = .str z ∧ Q (.bl (!decide (c ∈ z.cps.toList))) H) (tVar 11) (tC (.str (Str.ofString "0123456789"))))) (tVar 11) [11]) tNil)) (tC (.int 0))))
        (tAnd (tTest (tOp (rI0 fun i j => .bl (decide (j < i))) (tCB (fun xs H Q => ∃ x n, xs = [x] ∧ LenV K x H n ∧ Q (.int n) H) (tCons (tVar 8) tNil)) (tC (.int 1)))) (tTest (tOp rEq (tOp rIxS (tVar 8) (tC (.int 0))) (tC (.str (Str.ofString "0"))))))))) t tNext D σ H' := by
  have lu : (mkS u).length = u.length := by rw [len_tl]
  have lu' : (mkS u).length ≤ sizeLine := by rw [lu, sizeLine_eq]; omega
  refine ⟨_, h8, rfl, _, rfl, ?_⟩
  cases u with
  | nil =>
    refine iteT' (decide_eq_true rfl) ?_
    refine iteT ?_
    exact hN rfl _ (Same.refl _)
  | cons c r =>
    have e0 : decide (V.str (mkS (c :: r)) = V.str (Str.ofString "")) = false := decide_eq_false fun z => by
      have e := congrArg tl (V.str.inj z)
      cases (show c :: r = [] from e)
    refine iteF' e0 ?_
    refine ⟨_, h8, _, _, rfl, ⟨lu', rfl⟩, _, _, rfl, rfl, _, rfl, ?_⟩
    rw [lu]
    by_cases h7 : 7 < (c :: r).length
    · refine iteT' (decide_eq_true (by omega)) ?_
      refine iteT ?_
      refine hN ?_ _ (Same.refl _)
      unfold wOk
      rw [decide_eq_true h7]
      simp
    refine iteF' (decide_eq_false (by omega)) ?_
    refine ⟨_, h8, mkS (c :: r), rfl, fun X hX => lc_filter (bad := fun c => !isDig c) lu' hX hw hg ?_ ?_⟩
    · intro d H2 R hd hR
      refine ⟨_, hg _, d, Str.ofString "0123456789", rfl, rfl, _, rfl, ?_⟩
      rw [dig_in]
      exact hR
    intro H2 s2 g2
    refine ⟨_, _, rfl, .inl ⟨_, SqL.of g2, rfl⟩, _, _, rfl, rfl, _, rfl, ?_⟩
    by_cases hd : (c :: r).all isDig = true
    · have ef : ((tl (mkS (c :: r))).filter fun c => !isDig c) = [] := by
        rw [List.filter_eq_nil_iff]
        intro d hd'
        have := List.all_eq_true.mp hd d hd'
        simp [this]
      rw [ef]
      refine iteF' (by decide) ?_
      refine ⟨_, h8, _, _, rfl, ⟨lu', rfl⟩, _, _, rfl, rfl, _, rfl, ?_⟩
      rw [lu]
      have base : wOk (c :: r) = !(decide (1 < (c :: r).length) && decide (c = 48)) := by
        unfold wOk
        rw [hd, decide_eq_false h7]
        simp
      by_cases h1 : 1 < (c :: r).length
      · refine iteT' (decide_eq_true (by omega)) ?_
        refine ⟨_, h8, _, _, _, rfl, rfl, lu', atI_nat (j := 0) (show (tl (mkS (c :: r)))[0]? = some c from rfl), rfl, _, rfl, ?_⟩
        rw [show decide (V.str ⟨#[c]⟩ = V.str (Str.ofString "0")) = decide (c = 48) from one_eq c 48]
        rw [decide_eq_true h1, Bool.true_and] at base
        refine ite2 (fun h6 => ?_) (fun h6 => ?_)
        · exact hN (by rw [base, h6]; rfl) _ s2
        · exact hS (by rw [base]; simpa using h6) _ s2
      · refine iteF' (decide_eq_false (by omega)) ?_
        refine iteF ?_
        rw [decide_eq_false h1, Bool.false_and] at base
        exact hS base _ s2
    · have hd' : (c :: r).all isDig = false := by simpa using hd
      have en : 0 < ((tl (mkS (c :: r))).filter fun c => !isDig c).length := by
        rw [List.length_pos_iff]
        intro z
        rw [List.filter_eq_nil_iff] at z
        refine hd (List.all_eq_true.mpr fun d hd' => ?_)
        have := z d hd'
        simpa using this
      refine iteT' (decide_eq_true (by rw [List.length_map]; omega)) ?_
      refine iteT ?_
      refine hN ?_ _ s2
      unfold wOk
      rw [hd']
      simp
theorem ok_lread {f fK : Addr} {fd gK : FuncData} (F : Fun K "_law_read" "_law_read" sLRead f fd) (T : Blt mg)
    (FK : FnOk P w K mg base CX0 1 fK gK ["text"] spCheck) (mgK : mg "_law_check" = some (.ref fK)) (kK : PySem.W.keepIn K (.ref fK) = true) (bK : Binds K gK ["text"] []) : FnOk P w K mg base CX0 2 f fd ["text"] spLRead := by
  refine F.ok scLRead (fun vs H Q E h => ?_) (fun cdv A outer s H vs Q E hr h => ?_)
  · obtain ⟨x, rfl, _⟩ := h
    rfl
  · obtain ⟨x, rfl, hx, q⟩ := h
    have hx' : x.length ≤ sizeLine := by rw [sizeLine_eq]; omega
    have hlx : x.length = (tl x).length := len_tl x
    refine ⟨_, (pss_cons (ps_set (i := 1) scLRead.nd rfl (Or.inl rfl) (pe_lst pa_nil))
    (pss_cons (ps_set (i := 2) scLRead.nd rfl (Or.inl rfl) pe_int)
    (pss_cons (ps_for PassesOwn.never rfl (pi_range1 (by rfl) T.b_range (pa_cons (pe_op op_add (pe_callB call_len (by rfl) T.b_len (by decide +kernel) (pa_cons (pv 0) pa_nil)) pe_int) pa_nil)) (pg_name (i := 3) scLRead.nd rfl (Or.inl rfl)) (pss_cons (ps_set (i := 4) scLRead.nd rfl (Or.inl rfl) (pe_bm PySem.F.plainAttrs_str PySem.F.slot_str_find PySem.F.type_str_find mt_find3 (pv 0) (pa_cons pe_str (pa_cons (pv 2) pa_nil))))
    (pss_cons (ps_set (i := 5) scLRead.nd rfl (Or.inl rfl) (pe_ifExp (pt_cmpR op_ge (pv 4) pe_int (nomark _)) (pe_bm PySem.F.plainAttrs_str PySem.F.slot_str_find PySem.F.type_str_find mt_find3 (pv 0) (pa_cons pe_str (pa_cons (pe_op op_add (pv 4) pe_int) pa_nil))) (pe_un un_neg pe_int)))
    (pss_cons (ps_set (i := 6) scLRead.nd rfl (Or.inl rfl) (pe_ifExp (pt_cmpR op_ge (pv 5) pe_int (nomark _)) (pe_slice sl_str (pv 0) (po_some (pv 2)) (po_some (pv 4))) pe_str))
    (pss_cons (ps_set (i := 7) scLRead.nd rfl (Or.inl rfl) (pe_ifExp (pt_cmpR op_ge (pv 5) pe_int (nomark _)) (pe_slice sl_str (pv 0) (po_some (pe_op op_add (pv 4) pe_int)) (po_some (pv 5))) pe_str))
    (pss_cons (ps_for PassesOwn.never rfl (pi_tup (pe_tup (pa_cons (pv 6) (pa_cons (pv 7) pa_nil)))) (pg_name (i := 8) scLRead.nd rfl (Or.inl rfl)) (pss_one (ps_if (PW.pt (pw_or (pt_cmpR op_eq (pv 8) pe_str (nomark _)) (pw_or (pt_cmpR op_gt (pe_callB call_len (by rfl) T.b_len (by decide +kernel) (pa_cons (pv 8) pa_nil)) pe_int (nomark _)) (pw_or (pt_cmpR op_gt (pe_callB call_len (by rfl) T.b_len (by decide +kernel) (pa_cons (pe_lc (own := [("sign", 11)]) rfl scLRead.nd (pi_str (pv 8)) (blkOk_by (N := ["text", "found", "at", "step", "first", "second", "size", "check", "word", "end", "inside", "sign"]) (sc := defScope sLRead) (own := [("sign", 11)]) (by decide +kernel)) (fun _ _ _ _ _ => (pg_name (i := 11) scLRead.nd rfl (Or.inl rfl))) (fun _ _ _ _ _ => pts_one (pt_cmpR op_notIn_sign (pv 11) pe_str rfl)) (fun _ _ _ _ _ => (pv 11))) pa_nil)) pe_int (nomark _)) (pw_or1 (PW.pt (pw_and (pt_cmpR op_gt (pe_callB call_len (by rfl) T.b_len (by decide +kernel) (pa_cons (pv 8) pa_nil)) pe_int (nomark _)) (pw_and1 (pt_cmpR op_eq (pe_ix ix_str (pv 8) pe_int (fun _ _ => rfl)) pe_str (nomark _)))))))))) (pss_one (ps_ret (pe_lst (pa_cons (pv 1) (pa_cons (pv 2) pa_nil))))) pss_nil)))
    (pss_cons (ps_set (i := 9) scLRead.nd rfl (Or.inl rfl) (pe_op op_add (pe_op op_add (pv 5) pe_int) (pe_callTy call_int_str (by rfl) T.b_int (by decide +kernel) (pa_cons (pv 6) pa_nil))))
    (pss_cons (ps_set (i := 10) scLRead.nd rfl (Or.inl rfl) (pe_slice sl_str (pv 0) (po_some (pe_op op_add (pv 5) pe_int)) (po_some (pv 9))))
    (pss_cons (ps_if (PW.pt (pw_or (pt_cmpR op_lt (pe_callB call_len (by rfl) T.b_len (by decide +kernel) (pa_cons (pv 10) pa_nil)) (pe_callTy call_int_str (by rfl) T.b_int (by decide +kernel) (pa_cons (pv 6) pa_nil)) (nomark _)) (pw_or (pt_cmpR op_ne (pe_slice sl_str (pv 0) (po_some (pv 9)) (po_some (pe_op op_add (pv 9) pe_int))) pe_str (nomark _)) (pw_or (pt_cmpR op_in_sign pe_str (pv 10) rfl) (pw_or1 (pt_cmpR op_ne (pe_callTy call_int_str (by rfl) T.b_int (by decide +kernel) (pa_cons (pv 7) pa_nil)) (pe_call FK (hr.mono (by decide)) rfl mgK kK bK .nil pass0 (pa_cons (pv 10) pa_nil)) (nomark _))))))) (pss_one (ps_ret (pe_lst (pa_cons (pv 1) (pa_cons (pv 2) pa_nil))))) pss_nil)
    (pss_cons (ps_expr (pe_bm PySem.F.plainAttrs_list PySem.F.slot_list_append PySem.F.type_list_append mt_append (pv 1) (pa_cons (pv 10) pa_nil)))
    (pss_one (ps_set (i := 2) scLRead.nd rfl (Or.inl rfl) (pe_op op_add (pv 9) pe_int)))))))))))))
    (pss_one (ps_ret (pe_lst (pa_cons (pv 1) (pa_cons (pv 2) pa_nil)))))))), ?_⟩
    refine ⟨by show 0 ≤ sizeLine; decide, fun fa hfa => ?_⟩
    have s0 : Same H (upd H fa (.lst [])) := same_upd (Same.refl _) hfa
    refine ⟨_, rfl, _, _, rfl, ⟨hx', rfl⟩, _, _, rfl, rfl, _, rfl, by omega, by omega, ?_⟩
    have eN : (((x.length : Nat) : Int) + 1).toNat = (tl x).length + 1 := by omega
    refine for_range (lo := 0) (n := (((x.length : Nat) : Int) + 1).toNat) (fun i σ H' => ∃ (a : Nat) (acc : List (List Nat)) (v3 v4 v5 v6 v7 v8 v9 v10 : Option V), i ≤ a ∧ a ≤ (tl x).length ∧ σ = [some (.str x), some (.ref fa), some (.int (a : Int)), v3, v4, v5, v6, v7, v8, v9, v10, none] ∧ Same H H' ∧ H' fa = some (.lst (vT acc)) ∧ acc.length ≤ a ∧
      readL (tl x) = (acc ++ (readL ((tl x).drop a)).1, a + (readL ((tl x).drop a)).2)) ⟨0, [], none, none, none, none, none, none, none, none, Nat.le_refl _, Nat.zero_le _, rfl, s0, upd_same, Nat.le_refl _, by rw [List.drop_zero]; simp⟩ ?_ ?_
    · rintro i σ H' hi ⟨a, acc, v3, v4, v5, v6, v7, v8, v9, v10, hia, ha, rfl, sH, hF, hA, hR⟩
      have ef : Txt.find3 x (Str.ofString ":") (a : Int) = _ := find_one x 58 a ha
      have hdl : ((tl x).drop a).length = (tl x).length - a := List.length_drop
      refine ⟨_, rfl, rfl, _, rfl, _, _, _, rfl, rfl, ?_⟩
      rw [ef]
      have done : oneFr ((tl x).drop a) = none → ∀ σ H2, Same H' H2 → σ[1]? = some (some (.ref fa)) → σ[2]? = some (some (.int (a : Int))) → tRet (tLst (tCons (tVar 1) (tCons (tVar 2) tNil))) { nx := fun _ _ => False, rt := Q } σ H2 := by
        intro e σ H2 s2 h1 h2
        rw [readL_none e] at hR
        have hR' : readL (tl x) = (acc, a) := by simpa using hR
        refine ⟨_, h1, _, h2, by show 2 ≤ sizeLine; decide, fun p hp => ?_⟩
        refine q _ p fa (same_upd (sH.trans s2) hp) ?_ ?_
        · rw [upd_same, hR']
        · rw [upd_ne (ne_of_none (s2 _ _ hF) hp), hR']; exact s2 _ _ hF
      by_cases c1 : (upto 58 ((tl x).drop a)).length < ((tl x).drop a).length
      · rw [if_pos c1]
        have ef2 : Txt.find3 x (Str.ofString ":") (((a + (upto 58 ((tl x).drop a)).length : Nat) : Int) + 1) = _ := find_one x 58 (a + (upto 58 ((tl x).drop a)).length + 1) (by omega)
        refine ⟨_, rfl, _, _, rfl, rfl, _, rfl, ?_⟩
        refine iteT' (decide_eq_true (by omega)) ?_
        refine ⟨_, rfl, rfl, _, rfl, _, _, rfl, rfl, _, _, _, rfl, rfl, ?_⟩
        rw [ef2]
        by_cases c2 : (upto 58 ((tl x).drop (a + (upto 58 ((tl x).drop a)).length + 1))).length < ((tl x).drop (a + (upto 58 ((tl x).drop a)).length + 1)).length
        · rw [if_pos c2]
          have hlr2 : ((tl x).drop (a + (upto 58 ((tl x).drop a)).length + 1)).length = (tl x).length - (a + (upto 58 ((tl x).drop a)).length + 1) := List.length_drop
          have ec1 : cutS x (some (a : Int)) (some ((a + (upto 58 ((tl x).drop a)).length : Nat) : Int)) = mkS (upto 58 ((tl x).drop a)) := by
            rw [cut_any, Nat.add_sub_cancel_left, upto_take]
          have ec2 : cutS x (some (((a + (upto 58 ((tl x).drop a)).length : Nat) : Int) + 1)) (some ((a + (upto 58 ((tl x).drop a)).length + 1 + (upto 58 ((tl x).drop (a + (upto 58 ((tl x).drop a)).length + 1))).length : Nat) : Int)) = mkS (upto 58 ((tl x).drop (a + (upto 58 ((tl x).drop a)).length + 1))) := by
            rw [show ((a + (upto 58 ((tl x).drop a)).length : Nat) : Int) + 1 = ((a + (upto 58 ((tl x).drop a)).length + 1 : Nat) : Int) by omega, cut_any, Nat.add_sub_cancel_left, upto_take]
          have eN1 := numAt_eq ((tl x).drop a)
          have eN2 := numAt_eq ((tl x).drop (a + (upto 58 ((tl x).drop a)).length + 1))
          have u1le := upto_le 58 ((tl x).drop a)
          refine ⟨_, rfl, _, _, rfl, rfl, _, rfl, ?_⟩
          refine iteT' (decide_eq_true (by omega)) ?_
          refine ⟨_, rfl, _, rfl, _, rfl, _, rfl, _, rfl, _, rfl, hx', ?_⟩
          refine ⟨_, rfl, _, _, rfl, rfl, _, rfl, ?_⟩
          refine iteT' (decide_eq_true (by omega)) ?_
          refine ⟨_, rfl, _, rfl, _, _, rfl, rfl, _, rfl, _, rfl, _, rfl, _, rfl, hx', ?_⟩
          rw [ec1, ec2]
          generalize hu1 : upto 58 ((tl x).drop a) = u1 at *
          generalize hu2 : upto 58 ((tl x).drop (a + u1.length + 1)) = u2 at *
          have l1 : u1.length ≤ 10000 := by omega
          have l2 : u2.length ≤ 10000 := by omega
          have eO : oneFr ((tl x).drop a) = if wOk u1 = true ∧ wOk u2 = true ∧ bodyOk (NumText.digitsVal u1) (NumText.digitsVal u2) ((tl x).drop (a + u1.length + 1 + u2.length + 1)) then some (((tl x).drop (a + u1.length + 1 + u2.length + 1)).take (NumText.digitsVal u1), u1.length + 1 + (u2.length + 1) + NumText.digitsVal u1 + 1) else none := by
            unfold oneFr
            rw [eN1]
            by_cases w1 : wOk u1 = true
            · rw [if_pos ⟨c1, w1⟩]
              dsimp only
              rw [List.drop_drop, ← Nat.add_assoc, eN2]
              by_cases w2 : wOk u2 = true
              · rw [if_pos ⟨c2, w2⟩]
                dsimp only
                rw [List.drop_drop, show a + (u1.length + 1 + (u2.length + 1)) = a + u1.length + 1 + u2.length + 1 by omega]
                by_cases w3 : bodyOk (NumText.digitsVal u1) (NumText.digitsVal u2) ((tl x).drop (a + u1.length + 1 + u2.length + 1))
                · rw [if_pos w3, if_pos ⟨w1, w2, w3⟩]
                · rw [if_neg w3, if_neg (fun y => w3 y.2.2)]
              · rw [if_neg (fun y => w2 y.2), if_neg (fun y => w2 y.2.1)]
            · rw [if_neg (fun y => w1 y.2), if_neg (fun y => w1 y.1)]
          refine ⟨_, rfl, _, rfl, by show 2 ≤ sizeLine; decide, fun tp htp => ⟨tp, rfl, ⟨_, SqT.of upd_same⟩, for_tup (K := K) (a := tp) (xs := [.str (mkS u1), .str (mkS u2)]) (fun i' σ H2 => ∃ v : Option V, (0 < i' → wOk u1 = true) ∧ (1 < i' → wOk u2 = true) ∧ Same H' H2 ∧ H2 tp = some (.tup [.str (mkS u1), .str (mkS u2)]) ∧
              σ = [some (.str x), some (.ref fa), some (.int (a : Int)), some (.int (0 + (i : Int))), some (.int ((a + u1.length : Nat) : Int)), some (.int ((a + u1.length + 1 + u2.length : Nat) : Int)), some (.str (mkS u1)), some (.str (mkS u2)), v, v9, v10, none]) ⟨v8, fun z => absurd z (by decide), fun z => absurd z (by decide), same_upd (Same.refl _) htp, upd_same, rfl⟩ ?_ ?_ ?_⟩⟩
          · rintro i' σ H2 _ ⟨_, _, _, _, h2, _⟩
            exact SqT.of h2
          · rintro i' w σ H2 hw ⟨v, w1, w2, s2, h2, rfl⟩
            cases i' with
            | zero =>
              obtain rfl : V.str (mkS u1) = w := Option.some.inj hw
              refine word_test (u := u1) l1 rfl (fun _ => rfl) (fun _ => rfl) (fun g H3 s3 => ?_) (fun g H3 s3 => ?_)
              · exact ⟨_, fun _ => g, fun z => absurd z (by decide), s2.trans s3, s3 _ _ h2, rfl⟩
              · exact done (by rw [eO, if_neg (fun y => by rw [g] at y; exact Bool.false_ne_true y.1)]) _ _ (s2.trans s3) rfl rfl
            | succ j =>
              cases j with
              | zero =>
                obtain rfl : V.str (mkS u2) = w := Option.some.inj hw
                refine word_test (u := u2) l2 rfl (fun _ => rfl) (fun _ => rfl) (fun g H3 s3 => ?_) (fun g H3 s3 => ?_)
                · exact ⟨_, fun _ => w1 (by decide), fun _ => g, s2.trans s3, s3 _ _ h2, rfl⟩
                · exact done (by rw [eO, if_neg (fun y => by rw [g] at y; exact Bool.false_ne_true y.2.1)]) _ _ (s2.trans s3) rfl rfl
              | succ _ => cases hw
          · rintro σ H2 ⟨v, w1, w2, s2, h2, rfl⟩
            have w1 := w1 (by show 0 < 2; decide)
            have w2 := w2 (by show 1 < 2; decide)
            have int1 := int_w w1
            have int2 := int_w w2
            generalize hn : NumText.digitsVal u1 = n at *
            generalize hc : NumText.digitsVal u2 = c at *
            have lu1 : (mkS u1).length ≤ 640 := by rw [len_tl]; exact Nat.le_trans (w_len w1) (by decide)
            have lu2 : (mkS u2).length ≤ 640 := by rw [len_tl]; exact Nat.le_trans (w_len w2) (by decide)
            refine ⟨_, rfl, _, _, rfl, rfl, _, rfl, _, _, rfl, int1, lu1, _, _, rfl, rfl, ?_⟩
            refine ⟨_, rfl, _, rfl, _, _, rfl, rfl, _, rfl, _, rfl, _, rfl, _, rfl, hx', ?_⟩
            have ec : cutS x (some (((a + u1.length + 1 + u2.length : Nat) : Int) + 1)) (some (((a + u1.length + 1 + u2.length : Nat) : Int) + 1 + ((n : Nat) : Int))) = mkS (((tl x).drop (a + u1.length + 1 + u2.length + 1)).take n) := by
              rw [show ((a + u1.length + 1 + u2.length : Nat) : Int) + 1 + ((n : Nat) : Int) = ((a + u1.length + 1 + u2.length + 1 + n : Nat) : Int) by omega, show ((a + u1.length + 1 + u2.length : Nat) : Int) + 1 = ((a + u1.length + 1 + u2.length + 1 : Nat) : Int) by omega, cut_any, Nat.add_sub_cancel_left]
            have eend : cutS x (some (((a + u1.length + 1 + u2.length : Nat) : Int) + 1 + ((n : Nat) : Int))) (some (((a + u1.length + 1 + u2.length : Nat) : Int) + 1 + ((n : Nat) : Int) + 1)) = mkS ((((tl x).drop (a + u1.length + 1 + u2.length + 1)).drop n).take 1) := by
              rw [show ((a + u1.length + 1 + u2.length : Nat) : Int) + 1 + ((n : Nat) : Int) + 1 = ((a + u1.length + 1 + u2.length + 1 + n + 1 : Nat) : Int) by omega, show ((a + u1.length + 1 + u2.length : Nat) : Int) + 1 + ((n : Nat) : Int) = ((a + u1.length + 1 + u2.length + 1 + n : Nat) : Int) by omega, cut_any, Nat.add_sub_cancel_left, List.drop_drop]
            rw [ec]
            generalize hR2 : (tl x).drop (a + u1.length + 1 + u2.length + 1) = R at *
            have lR : R.length ≤ 10000 := by
              have := congrArg List.length hR2
              rw [List.length_drop] at this; omega
            have li : (mkS (R.take n)).length = (R.take n).length := by rw [len_tl]
            have li' : (mkS (R.take n)).length ≤ sizeLine := by rw [li, List.length_take, sizeLine_eq]; omega
            have no : ¬ bodyOk n c R → oneFr ((tl x).drop a) = none := fun z => by rw [eO, if_neg (fun y => z y.2.2)]
            refine ⟨_, rfl, _, _, rfl, ⟨li', rfl⟩, _, rfl, _, _, rfl, int1, lu1, _, _, rfl, rfl, _, rfl, ?_⟩
            rw [li]
            by_cases b1 : (R.take n).length = n
            · refine iteF' (decide_eq_false (by rw [b1]; omega)) ?_
              refine ⟨_, rfl, _, rfl, _, rfl, _, rfl, _, _, rfl, rfl, _, rfl, _, rfl, hx', rfl, _, rfl, ?_⟩
              rw [eend]
              by_cases b2 : (R.drop n).take 1 = [10]
              · have z2 : (!decide (V.str (mkS ((R.drop n).take 1)) = V.str (Str.ofString "\n"))) = false := by
                  rw [decide_eq_true (by rw [b2]; rfl)]; rfl
                refine iteF' z2 ?_
                refine ⟨_, rfl, 63, mkS (R.take n), rfl, rfl, _, rfl, ?_⟩
                refine ite2 (fun h3 => ?_) (fun h3 => ?_)
                · refine iteT ?_
                  exact done (no fun z => z.2.2.2.1 (of_decide_eq_true h3)) _ _ s2 rfl rfl
                have b3 : ¬ 63 ∈ R.take n := fun z => h3 (decide_eq_true z)
                refine ⟨_, rfl, _, _, rfl, int2, lu2, _, rfl, mkS (R.take n), rfl, rfl, _, rfl, ?_⟩
                by_cases b4 : chk (R.take n) = c
                · have z4 : (!decide (V.int ((c : Nat) : Int) = V.int ((chk (R.take n) : Nat) : Int))) = false := by
                    rw [decide_eq_true (by rw [b4])]; rfl
                  refine iteF' z4 ?_
                  have eS : oneFr ((tl x).drop a) = some (R.take n, u1.length + 1 + (u2.length + 1) + n + 1) := by
                    rw [eO, if_pos ⟨w1, w2, by rw [List.length_take] at b1; omega, b1, b2, b3, b4⟩]
                  have hk := oneFr_some eS
                  have hF2 := s2 _ _ hF
                  refine ⟨_, rfl, .inl ⟨rfl, _, SqL.of hF2⟩, _, rfl, fa, _, _, rfl, rfl, hF2, by rw [vT_len, sizeLine_eq]; omega, ?_⟩
                  refine ⟨_, rfl, _, _, rfl, rfl, ?_⟩
                  rw [readL_some eS, List.drop_drop] at hR
                  refine ⟨a + (u1.length + 1 + (u2.length + 1) + n + 1), acc ++ [R.take n], some (.int (0 + (i : Int))), some (.int ((a + u1.length : Nat) : Int)), some (.int ((a + u1.length + 1 + u2.length : Nat) : Int)), some (.str (mkS u1)), some (.str (mkS u2)), v, some (.int (((a + u1.length + 1 + u2.length : Nat) : Int) + 1 + ((n : Nat) : Int))), some (.str (mkS (R.take n))), by omega, by omega, ?_, ?_, ?_, ?_, ?_⟩
                  · rw [show ((a + (u1.length + 1 + (u2.length + 1) + n + 1) : Nat) : Int) = ((a + u1.length + 1 + u2.length : Nat) : Int) + 1 + ((n : Nat) : Int) + 1 by omega]
                    rfl
                  · intro b o e
                    have nb : b ≠ fa := fun z => by rw [z, hfa] at e; cases e
                    rw [upd_ne nb]
                    exact s2 _ _ (sH _ _ e)
                  · rw [upd_same]; unfold vT; rw [List.map_append]; rfl
                  · rw [List.length_append, List.length_singleton]; omega
                  · rw [hR, List.append_assoc]; exact Prod.ext rfl (Nat.add_assoc a _ _).symm
                · have z4 : (!decide (V.int ((c : Nat) : Int) = V.int ((chk (R.take n) : Nat) : Int))) = true := by
                    rw [decide_eq_false (fun z => b4 (by have := V.int.inj z; omega))]; rfl
                  refine iteT' z4 ?_
                  exact done (no fun z => b4 z.2.2.2.2) _ _ s2 rfl rfl
              · have z2 : (!decide (V.str (mkS ((R.drop n).take 1)) = V.str (Str.ofString "\n"))) = true := by
                  rw [decide_eq_false (fun z => b2 (by have := congrArg tl (V.str.inj z); exact this))]; rfl
                refine iteT' z2 ?_
                refine iteT ?_
                exact done (no fun z => b2 z.2.2.1) _ _ s2 rfl rfl
            · refine iteT' (decide_eq_true (by rw [List.length_take] at b1 ⊢; omega)) ?_
              refine iteT ?_
              exact done (no fun z => b1 z.2.1) _ _ s2 rfl rfl
        · rw [if_neg c2]
          have eno : oneFr ((tl x).drop a) = none := by
            unfold oneFr
            rw [numAt_eq]
            by_cases z : (upto 58 ((tl x).drop a)).length < ((tl x).drop a).length ∧ wOk (upto 58 ((tl x).drop a)) = true
            · rw [if_pos z]
              dsimp only
              rw [numAt_eq, List.drop_drop, ← Nat.add_assoc, if_neg (fun y => c2 y.1)]
            · rw [if_neg z]
          refine ⟨_, rfl, _, _, rfl, rfl, _, rfl, ?_⟩
          refine iteF' (by decide) ?_
          refine ⟨_, rfl, _, _, rfl, rfl, _, rfl, ?_⟩
          refine iteF' (by decide) ?_
          refine ⟨_, rfl, _, rfl, by show 2 ≤ sizeLine; decide, fun tp htp => ⟨tp, rfl, ⟨_, SqT.of upd_same⟩, for_tup (K := K) (a := tp) (xs := [.str (mkS []), .str (mkS [])]) (fun i' σ H2 => i' = 0 ∧ Same H' H2 ∧ H2 tp = some (.tup [.str (mkS []), .str (mkS [])]) ∧ σ[1]? = some (some (.ref fa)) ∧ σ[2]? = some (some (.int (a : Int))) ∧ 8 < σ.length) ⟨rfl, same_upd (Same.refl _) htp, upd_same, rfl, rfl, by show 8 < 12; decide⟩ ?_ ?_ ?_⟩⟩
          · rintro i' σ H2 _ ⟨_, _, h2, _⟩
            exact SqT.of h2
          · rintro i' w σ H2 hw ⟨rfl, s2, h2, e1, e2, e8⟩
            obtain rfl : V.str (mkS []) = w := Option.some.inj hw
            refine ⟨_, by rw [List.getElem?_set_self e8], rfl, _, rfl, ?_⟩
            refine iteT' (decide_eq_true rfl) ?_
            refine iteT ?_
            refine done eno _ _ s2 ?_ ?_
            · rw [List.getElem?_set_ne (by decide)]; exact e1
            · rw [List.getElem?_set_ne (by decide)]; exact e2
          · rintro σ H2 ⟨z, _⟩
            cases z
      · rw [if_neg c1]
        have eno : oneFr ((tl x).drop a) = none := by
          unfold oneFr
          rw [numAt_eq, if_neg (fun z => c1 z.1)]
        refine ⟨_, rfl, _, _, rfl, rfl, _, rfl, ?_⟩
        refine iteF' (by decide) ?_
        refine ⟨_, rfl, ?_⟩
        refine ⟨_, rfl, _, _, rfl, rfl, _, rfl, ?_⟩
        refine iteF' (by decide) ?_
        refine ⟨_, rfl, _, _, rfl, rfl, _, rfl, ?_⟩
        refine iteF' (by decide) ?_
        refine ⟨_, rfl, _, rfl, by show 2 ≤ sizeLine; decide, fun tp htp => ⟨tp, rfl, ⟨_, SqT.of upd_same⟩, for_tup (K := K) (a := tp) (xs := [.str (mkS []), .str (mkS [])]) (fun i' σ H2 => i' = 0 ∧ Same H' H2 ∧ H2 tp = some (.tup [.str (mkS []), .str (mkS [])]) ∧ σ[1]? = some (some (.ref fa)) ∧ σ[2]? = some (some (.int (a : Int))) ∧ 8 < σ.length) ⟨rfl, same_upd (Same.refl _) htp, upd_same, rfl, rfl, by show 8 < 12; decide⟩ ?_ ?_ ?_⟩⟩
        · rintro i' σ H2 _ ⟨_, _, h2, _⟩
          exact SqT.of h2
        · rintro i' w σ H2 hw ⟨rfl, s2, h2, e1, e2, e8⟩
          obtain rfl : V.str (mkS []) = w := Option.some.inj hw
          refine ⟨_, by rw [List.getElem?_set_self e8], rfl, _, rfl, ?_⟩
          refine iteT' (decide_eq_true rfl) ?_
          refine iteT ?_
          refine done eno _ _ s2 ?_ ?_
          · rw [List.getElem?_set_ne (by decide)]; exact e1
          · rw [List.getElem?_set_ne (by decide)]; exact e2
        · rintro σ H2 ⟨z, _⟩
          cases z
    · rintro σ H' ⟨a, acc, v3, v4, v5, v6, v7, v8, v9, v10, hia, ha, rfl, sH, hF, hA, hR⟩
      omega
end
end K51

namespace K51
open PySem PySem.Spec PyProof.Rows L2
/-! ### the plain law of frames -/
theorem upto_full {c : Nat} : ∀ {l : List Nat}, (∀ d ∈ l, d ≠ c) → upto c l = l
  | [], _ => rfl
  | d :: r, h => by
    unfold upto
    rw [List.takeWhile_cons, if_pos (by simpa using h d (List.mem_cons_self ..))]
    congr 1
    exact upto_full fun e he => h e (List.mem_cons_of_mem _ he)
theorem no_colon {n : Nat} : ∀ d ∈ TL.numL n, d ≠ 58 := fun d hd z => TL.numL_free (n := n) (s := 58) (.inr (by decide)) (z ▸ hd)
theorem num_head : ∀ (n : Nat), 0 < n → (TL.numL n).head? ≠ some 48 := by
  intro n
  induction n using Nat.strongRecOn with
  | _ n ih =>
    intro h0 z
    by_cases h : n < 10
    · rw [TL.numL_lt h] at z
      have := Option.some.inj z
      omega
    · rw [TL.numL_step (by omega)] at z
      have hne := TL.numL_ne (n / 10)
      refine ih (n / 10) (by omega) (by omega) ?_
      cases e : TL.numL (n / 10) with
      | nil => exact absurd e hne
      | cons a r => rw [e] at z; exact z
theorem num_wOk {n : Nat} (h : n ≤ 9999999) : wOk (TL.numL n) = true := by
  have h7 := num_len h
  have hd : (TL.numL n).all isDig = true := List.all_eq_true.mpr fun c hc => by
    have := TL.numL_digits n c hc
    unfold isDig
    rw [decide_eq_true this.1, decide_eq_true this.2]; rfl
  have he : (TL.numL n).isEmpty = false := by
    cases e : TL.numL n with
    | nil => exact absurd e (TL.numL_ne n)
    | cons _ _ => rfl
  unfold wOk
  rw [hd, he, decide_eq_false (show ¬ 7 < (TL.numL n).length by omega)]
  by_cases h1 : 1 < (TL.numL n).length
  · have : (TL.numL n).head? ≠ some 48 := num_head n (by
      by_cases z : n < 10
      · rw [TL.numL_lt z] at h1; exact absurd h1 (show ¬ 1 < 1 by decide)
      · omega)
    rw [decide_eq_false this]; simp
  · rw [decide_eq_false h1]; rfl
theorem numAt_num {n : Nat} (h : n ≤ 9999999) (r : List Nat) : numAt (TL.numL n ++ 58 :: r) = some (n, (TL.numL n).length + 1) := by
  have e : upto 58 (TL.numL n ++ 58 :: r) = TL.numL n := upto_app no_colon
  rw [numAt_eq, e, if_pos ⟨by rw [List.length_append, List.length_cons]; omega, num_wOk h⟩, TL.numL_val]
theorem numAt_cut {n : Nat} (k : Nat) : numAt ((TL.numL n).take k) = none := by
  rw [numAt_eq, upto_full (fun d hd => no_colon d (List.mem_of_mem_take hd)), if_neg (fun z => absurd z.1 (Nat.lt_irrefl _))]
theorem good_no {t : List Nat} (h : goodT t) : ¬ 63 ∈ t := fun z => absurd (List.all_eq_true.mp h 63 z) (by decide)
theorem drop_num {X Y : List Nat} {c : Nat} : (X ++ c :: Y).drop (X.length + 1) = Y := by
  rw [List.drop_append]
  simp
theorem frame_one {t : List Nat} (hg : goodT t) (hl : t.length ≤ 1000) (r : List Nat) : oneFr (frameL t ++ r) = some (t, (frameL t).length) := by
  have e1 : frameL t ++ r = TL.numL t.length ++ 58 :: (TL.numL (chk t) ++ 58 :: (t ++ 10 :: r)) := by
    unfold frameL; simp
  have hc := chk_lt t
  unfold oneFr
  rw [e1, numAt_num (by omega)]
  dsimp only
  rw [drop_num, numAt_num (by omega)]
  dsimp only
  rw [show (TL.numL t.length).length + 1 + ((TL.numL (chk t)).length + 1) = ((TL.numL t.length).length + 1) + ((TL.numL (chk t)).length + 1) from rfl, ← List.drop_drop, drop_num, drop_num]
  have et : (t ++ 10 :: r).take t.length = t := List.take_left ..
  have ed : (t ++ 10 :: r).drop t.length = 10 :: r := List.drop_left ..
  have eb : bodyOk t.length (chk t) (t ++ 10 :: r) := ⟨by omega, by rw [et], by rw [ed]; rfl, by rw [et]; exact good_no hg, by rw [et]⟩
  rw [if_pos eb, et]
  congr 2
  unfold frameL
  simp only [List.length_append, List.length_cons, List.length_nil]
  omega
theorem take_two {X Y : List Nat} {c a : Nat} (h : X.length < a) : (X ++ c :: Y).take a = X ++ c :: Y.take (a - X.length - 1) := by
  rw [List.take_append, List.take_of_length_le (by omega)]
  congr 1
  obtain ⟨m, hm⟩ : ∃ m, a - X.length = m + 1 := ⟨a - X.length - 1, by omega⟩
  rw [hm, List.take_succ_cons]; rfl
theorem frame_cut {t : List Nat} {a : Nat} (ha : a < (frameL t).length) (hl : t.length ≤ 1000) : oneFr ((frameL t).take a) = none := by
  have hc := chk_lt t
  have hlen : (frameL t).length = (TL.numL t.length).length + 1 + ((TL.numL (chk t)).length + 1) + (t.length + 1) := by
    unfold frameL
    simp only [List.length_append, List.length_cons, List.length_nil]
    omega
  unfold oneFr
  by_cases h1 : (TL.numL t.length).length < a
  · have e1 : (frameL t).take a = TL.numL t.length ++ 58 :: (TL.numL (chk t) ++ 58 :: (t ++ [10])).take (a - (TL.numL t.length).length - 1) := take_two h1
    rw [e1, numAt_num (by omega)]
    dsimp only
    rw [drop_num]
    by_cases h2 : (TL.numL (chk t)).length < a - (TL.numL t.length).length - 1
    · rw [take_two h2, numAt_num (by omega)]
      dsimp only
      rw [← List.drop_drop, drop_num, drop_num, if_neg]
      rintro ⟨_, b2, b3, _⟩
      have l3 := congrArg List.length b3
      simp only [List.length_take, List.length_drop, List.length_append, List.length_singleton, List.length_cons, List.length_nil] at b2 l3
      omega
    · have e2 : (TL.numL (chk t) ++ 58 :: (t ++ [10])).take (a - (TL.numL t.length).length - 1) = (TL.numL (chk t)).take (a - (TL.numL t.length).length - 1) := by
        rw [List.take_append]
        rw [show a - (TL.numL t.length).length - 1 - (TL.numL (chk t)).length = 0 by omega]
        simp
      rw [e2, numAt_cut]
  · have e1 : (frameL t).take a = (TL.numL t.length).take a := by
      unfold frameL
      rw [List.take_append, show a - (TL.numL t.length).length = 0 by omega]
      simp
    rw [e1, numAt_cut]
theorem read_cut : ∀ (ts : List (List Nat)) (a : Nat), (∀ t ∈ ts, t.length ≤ 1000 ∧ goodT t) → readL ((allL ts).take a) = (ts.take (cnt ts a), szs ts (cnt ts a))
  | [], a, _ => by
    have : (allL []).take a = [] := by show ([] : List Nat).take a = []; simp
    rw [this]; rfl
  | t :: ts, a, h => by
    have ht := h t (List.mem_cons_self ..)
    have e : allL (t :: ts) = frameL t ++ allL ts := by unfold allL; rw [List.map_cons, List.flatten_cons]
    rw [e, List.take_append]
    by_cases g : (frameL t).length ≤ a
    · have ih := read_cut ts (a - (frameL t).length) fun u hu => h u (List.mem_cons_of_mem _ hu)
      rw [List.take_of_length_le g, readL_some (frame_one ht.2 ht.1 _), List.drop_left, ih]
      have ec : cnt (t :: ts) a = cnt ts (a - (frameL t).length) + 1 := by rw [cnt, if_pos g]
      rw [ec, List.take_succ_cons, szs_cons]
    · rw [show a - (frameL t).length = 0 by omega, List.take_zero, List.append_nil, readL_none (frame_cut (by omega) ht.1)]
      have ec : cnt (t :: ts) a = 0 := by rw [cnt, if_neg g]
      rw [ec]; rfl
theorem szs_mono (ts : List (List Nat)) {i j : Nat} (h : i ≤ j) : szs ts i ≤ szs ts j := by
  induction h with
  | refl => exact Nat.le_refl _
  | @step m _ ih =>
    refine Nat.le_trans ih ?_
    cases e : ts[m]? with
    | none =>
      have hl : ts.length ≤ m := List.getElem?_eq_none_iff.mp e
      unfold szs
      rw [List.take_of_length_le (show ts.length ≤ m + 1 by omega), List.take_of_length_le hl]
      exact Nat.le_refl _
    | some t => rw [szs_next e]; omega
theorem cnt_at (ts : List (List Nat)) (a : Nat) : szs ts (cnt ts a) ≤ a := by
  by_cases h : cnt ts a = 0
  · rw [h]; exact Nat.zero_le _
  · have hl := cnt_le ts a
    have := (cnt_iff ts a (cnt ts a - 1) (by omega)).mpr (by omega)
    rw [show cnt ts a - 1 + 1 = cnt ts a by omega] at this
    exact this
theorem cnt_full (ts : List (List Nat)) : cnt ts (allL ts).length = ts.length := by
  have hl := cnt_le ts (allL ts).length
  by_cases h : ts.length = 0
  · omega
  · have := (cnt_iff ts (allL ts).length (ts.length - 1) (by omega)).mp (by rw [show ts.length - 1 + 1 = ts.length by omega, szs_full]; exact Nat.le_refl _)
    omega
theorem read_all {ts : List (List Nat)} (h : smallT ts) : readL (allL ts) = (ts, (allL ts).length) := by
  have := read_cut ts (allL ts).length h.2
  rw [List.take_length, cnt_full, List.take_length, szs_full] at this
  exact this
theorem inV_ints (z : Int) (L : List Nat) : inV (V.int z) (L.map fun (n : Nat) => V.int (n : Int)) = L.any fun n => decide ((n : Int) = z) := by
  induction L with
  | nil => rfl
  | cons n r ih =>
    rw [List.map_cons, List.any_cons, ← ih]
    unfold inV
    rw [List.any_cons]
    congr 1
theorem in_sizes {ts : List (List Nat)} {a : Nat} : inV (V.int (a : Int)) (endsV ts (ts.length + 1)) = decide (szs ts (cnt ts a) = a) := by
  have e : endsV ts (ts.length + 1) = ((List.range (ts.length + 1)).map fun j => szs ts j).map fun (n : Nat) => V.int (n : Int) := by
    unfold endsV; rw [List.map_map]; rfl
  rw [e, inV_ints, Bool.eq_iff_iff, List.any_eq_true, decide_eq_true_eq]
  have hl := cnt_le ts a
  constructor
  · rintro ⟨n, hn, z⟩
    obtain ⟨j, hj, rfl⟩ := List.mem_map.mp hn
    have hj' := List.mem_range.mp hj
    have z' : szs ts j = a := by have := of_decide_eq_true z; omega
    have h1 := cnt_at ts a
    by_cases g : j ≤ cnt ts a
    · have := szs_mono ts g
      omega
    · have := (cnt_iff ts a (j - 1) (by omega)).mp (by rw [show j - 1 + 1 = j by omega]; omega)
      omega
  · intro z
    exact ⟨a, List.mem_map.mpr ⟨cnt ts a, List.mem_range.mpr (by omega), z⟩, decide_eq_true rfl⟩
theorem all_split (ts : List (List Nat)) {k : Nat} {t : List Nat} (h : ts[k]? = some t) : (allL ts).drop (szs ts k) = frameL t ++ allL (ts.drop (k + 1)) := by
  have hk := (List.getElem?_eq_some_iff.mp h)
  have e : ts = ts.take k ++ t :: ts.drop (k + 1) := by
    have e1 := (List.take_append_drop k ts).symm
    rw [List.drop_eq_getElem_cons hk.1, hk.2] at e1
    exact e1
  have e2 : allL ts = allL (ts.take k) ++ (frameL t ++ allL (ts.drop (k + 1))) := by
    conv => lhs; rw [e]
    unfold allL
    rw [List.map_append, List.flatten_append, List.map_cons, List.flatten_cons]
  rw [e2]
  unfold szs
  exact List.drop_left ..
end K51

namespace K51
open PySem PySem.Spec PyProof.Rows L2
theorem scRefused : FnScope ["choice", "one", "two", "problem"] ["choice", "one", "two"] (defScope sRefused) := ⟨rfl, rfl, rfl, by decide +kernel, rfl, by decide +kernel, by decide +kernel⟩
def spRefused : Sp := fun vs H Q _ => ∃ (c : Int) (v u : V), vs = [.int c, v, u] ∧
  (((c = 0 ∨ c = 1) ∧ ((∃ x : Str, v = .str x ∧ x.length ≤ 1000000 ∧ ¬ goodT (tl x)) ∨ v = .non ∨ ∃ i, v = .int i)) ∨
   (c = 2 ∧ ∃ (p : Addr) (ts : List (List Nat)), v = .ref p ∧ H p = some (.lst (vT ts)) ∧ smallT ts ∧ (u = .bl true ∨ ∃ i, u = .int i ∧ (i < 0 ∨ ((szs ts ts.length : Nat) : Int) < i)))) ∧ ∀ H', Same H H' → Q (.bl true) H'
section
variable {P : Program} {w : World} {K : PySem.W.Frag} {mg : Str → Option Value} {base : Heap}
theorem ok_refused {f C CD fC fF fL : Addr} {fd gC gF gL : FuncData} (F : Fun K "_law_refused" "_law_refused" sRefused f fd) (T : Blt mg) (X : ErrT K mg C) (Y : CatchT K mg CD C)
    (FC : FnOk P w K mg base (L2.CX P w) 1 fC gC ["text"] (spChkX C)) (mgC : mg "checked_text" = some (.ref fC)) (kC : PySem.W.keepIn K (.ref fC) = true) (bC : Binds K gC ["text"] [])
    (FF : FnOk P w K mg base (L2.CX P w) 2 fF gF ["text"] (spChkX C)) (mgF : mg "framed" = some (.ref fF)) (kF : PySem.W.keepIn K (.ref fF) = true) (bF : Binds K gF ["text"] [])
    (FL : FnOk P w K mg base (L2.CX P w) 4 fL gL ["texts", "signs"] (spLeftX C)) (mgL : mg "left_of" = some (.ref fL)) (kL : PySem.W.keepIn K (.ref fL) = true) (bL : Binds K gL ["texts", "signs"] []) :
    FnOk P w K mg base CX0 5 f fd ["choice", "one", "two"] spRefused := by
  refine F.ok scRefused (fun vs H Q E h => ?_) (fun cdv A outer s H vs Q E hr h => ?_)
  · obtain ⟨c, v, u, rfl, _⟩ := h
    rfl
  · refine ⟨_, pss_cons (ps_try_as (i := 3) (tb := fun W => tIfS (tTest (tOp rEq (tVar 0) (tC (.int 0)))) (tDrop (tCallS (spChkX C) (WE W) (tCons (tVar 1) tNil)))
          (tIfS (tTest (tOp rEq (tVar 0) (tC (.int 1)))) (tDrop (tCallS (spChkX C) (WE W) (tCons (tVar 1) tNil))) (tDrop (tCallS (spLeftX C) (WE W) (tCons (tVar 1) (tCons (tVar 2) tNil))))))
        (ts := fun a cls d D σ H => (cls = .ref C ∧ d = none) ∧ tRet (tAndV (tCB (rIsE K C a) (tCons (tVar 3) (tCons (tC (.ref C)) tNil))) (tCB (rIsE K C a) (tCons (tVar 3) (tCons (tC (.ty "ValueError")) tNil)))) D σ H) (Wout := fun _ _ _ _ => False)
        rfl rfl scRefused.nd rfl rfl ⟨rfl, by decide, .inl Y.gD⟩ takes0
        (fun W pn xe tk _ => pss_one (ps_if (pt_cmpR op_eq (pv 0) pe_int (nomark _))
          (pss_one (ps_expr (by exact (pe_callS FC (hr.mono (by decide)) rfl mgC kC bC (fun σ => passAt tk σ) (by exact (pa_cons (pv 1) pa_nil))))))
          (pss_one (ps_if (pt_cmpR op_eq (pv 0) pe_int (nomark _))
            (pss_one (ps_expr (by exact (pe_callS FF (hr.mono (by decide)) rfl mgF kF bF (fun σ => passAt tk σ) (by exact (pa_cons (pv 1) pa_nil))))))
            (pss_one (ps_expr (by exact (pe_callS FL hr rfl mgL kL bL (fun σ => passAt tk σ) (by exact (pa_cons (pv 1) (pa_cons (pv 2) pa_nil)))))))))))
        (fun a oe cls d pn hz hf => pss_when fun hp => by
          obtain ⟨rfl, rfl⟩ := hp
          exact pss_one (ps_ret (pe_and (pe_callB (call_isE Y.ec hz hf) (by rfl) T.b_isinstance (by decide +kernel) (pa_cons (pv 3) (pa_cons (pe_glob (v := .ref C) rfl X.gP rfl) pa_nil))) (pe_one (pe_callB (call_isE Y.ec hz hf) (by rfl) T.b_isinstance (by decide +kernel) (pa_cons (pv 3) (pa_cons (pe_bltn (v := .ty "ValueError") (u := .type "ValueError") (by rfl) Y.b_VE (by decide +kernel) rfl) pa_nil))))))))
      (pss_one (ps_ret pe_bl)), ?_⟩
    obtain ⟨c, v, u, rfl, h, q⟩ := h
    have caught : ∀ (σ : L2.St) (D : Ends) (H' : Hp), σ.length = 4 → D.rt (.bl true) H' → WE (wAs K (.ref CD) 3 (fun a cls d D σ H => (cls = .ref C ∧ d = none) ∧ tRet (tAndV (tCB (rIsE K C a) (tCons (tVar 3) (tCons (tC (.ref C)) tNil))) (tCB (rIsE K C a) (tCons (tVar 3) (tCons (tC (.ty "ValueError")) tNil)))) D σ H) (fun _ _ _ _ => False) D) σ (.ref C) none H' := by
      intro σ D H' hl q
      refine ⟨true, Y.exm, fun _ a ha => ⟨⟨rfl, rfl⟩, ?_⟩, fun z => by cases z⟩
      have e3 : (σ.set 3 (some (V.ref a)))[3]? = some (some (V.ref a)) := List.getElem?_set_self (by omega)
      refine ⟨_, e3, .ref C, .ref C, true, rfl, fun u r => r, Y.kC, true, rfl, ?_⟩
      refine iteT ?_
      refine ⟨_, e3, .ty "ValueError", .type "ValueError", true, rfl, fun u r => r, Y.kV, ?_⟩
      exact q
    rcases h with ⟨hc, hv⟩ | ⟨rfl, p, ts, rfl, hp, hT, hu⟩
    · have bad : ∀ Q' : VK, spChkX C ([v] ++ []) H Q' (WE (wAs K (.ref CD) 3 (fun a cls d D σ H => (cls = .ref C ∧ d = none) ∧ tRet (tAndV (tCB (rIsE K C a) (tCons (tVar 3) (tCons (tC (.ref C)) tNil))) (tCB (rIsE K C a) (tCons (tVar 3) (tCons (tC (.ty "ValueError")) tNil)))) D σ H) (fun _ _ _ _ => False) { nx := tRet (tC (.bl false)) { nx := fun _ H' => Q .non H', rt := Q }, rt := Q }) [some (.int c), some v, some u, none]) := by
        intro Q'
        rcases hv with ⟨x, rfl, hx, hg⟩ | rfl | ⟨i, rfl⟩
        · exact .inl ⟨x, rfl, hx, hg, fun H' s1 => caught _ _ _ rfl (q _ s1)⟩
        · exact .inr ⟨.inl rfl, fun H' s1 => caught _ _ _ rfl (q _ s1)⟩
        · exact .inr ⟨.inr ⟨i, rfl⟩, fun H' s1 => caught _ _ _ rfl (q _ s1)⟩
      rcases hc with rfl | rfl
      · refine ⟨_, rfl, rfl, _, rfl, ?_⟩
        refine iteT' (by decide) ?_
        exact ⟨_, rfl, bad (fun _ _ => True)⟩
      · refine ⟨_, rfl, rfl, _, rfl, ?_⟩
        refine iteF' (by decide) ?_
        refine ⟨_, rfl, rfl, _, rfl, ?_⟩
        refine iteT' (by decide) ?_
        exact ⟨_, rfl, bad (fun _ _ => True)⟩
    · refine ⟨_, rfl, rfl, _, rfl, ?_⟩
      refine iteF' (by decide) ?_
      refine ⟨_, rfl, rfl, _, rfl, ?_⟩
      refine iteF' (by decide) ?_
      refine ⟨_, rfl, _, rfl, p, ts, u, rfl, hp, hT, hu, fun H' s1 => ?_⟩
      exact caught _ _ _ rfl (q _ s1)
end
end K51

namespace K51
open PySem PySem.Spec PyProof.Rows L2
/-! ### steps: one lemma for each construct, by its head -/
section steps
variable {σ : L2.St} {H : Hp} {D : Ends}
theorem w_start {t : TS} {σ' : L2.St} (e : σ = σ') (h : t D σ' H) : t D σ H := by subst e; exact h
theorem w_seq {t u : TS} (h : t { D with nx := u D } σ H) : tSeq t u D σ H := h
theorem w_asg {te : TE} {g : TG} (h : te σ H fun x H1 => g x σ H1 D.nx) : tAsg te g D σ H := h
theorem w_drop {te : TE} (h : te σ H fun _ H1 => D.nx σ H1) : tDrop te D σ H := h
theorem w_ret {te : TE} (h : te σ H D.rt) : tRet te D σ H := h
theorem w_retN (h : D.rt .non H) : tRetN D σ H := h
theorem w_next (h : D.nx σ H) : tNext D σ H := h
theorem w_break (h : D.bk σ H) : tBreak D σ H := h
theorem w_cont (h : D.ct σ H) : tCont D σ H := h
theorem w_ifS {c : TT} {t u : TS} (h : c σ H fun b H1 => if b = true then t D σ H1 else u D σ H1) : tIfS c t u D σ H := h
theorem w_while {c : TT} {tb : TS} (h : ∃ W : Nat → L2.St → Hp → Prop, (∃ m, W m σ H) ∧ ∀ m σ H, W m σ H → c σ H fun b H1 => if b = true then ∃ N : L2.St → Hp → Prop, (∀ σ' H', N σ' H' → ∃ m', m' < m ∧ W m' σ' H') ∧ tb { D with nx := N, ct := N, bk := D.nx } σ H1 else D.nx σ H1) : tWhile c tb D σ H := h
theorem w_name {i : Nat} {v : V} {σ' : L2.St} {Q : L2.St → Hp → Prop} (e : σ.set i (some v) = σ') (h : Q σ' H) : gName i v σ H Q := by subst e; exact h
theorem w_sub {to ti : TE} {t : TSet} {v : V} {Q : L2.St → Hp → Prop} (h : to σ H fun o H1 => ti σ H1 fun i H2 => t o i v H2 fun H3 => Q σ H3) : gSub to ti t v σ H Q := h
theorem w_var {i : Nat} {v : V} {Q : VK} (h : σ[i]? = some (some v)) (k : Q v H) : tVar i σ H Q := ⟨v, h, k⟩
theorem w_c {v : V} {Q : VK} (k : Q v H) : tC v σ H Q := k
theorem w_op {r : R2} {ta tb : TE} {Q : VK} (h : ta σ H fun x H1 => tb σ H1 fun y H2 => r x y H2 Q) : tOp r ta tb σ H Q := h
theorem w_un {r : V → Hp → VK → Prop} {ta : TE} {Q : VK} (h : ta σ H fun x H1 => r x H1 Q) : tUn r ta σ H Q := h
theorem w_test {t : TE} {Q : Bool → Hp → Prop} (h : t σ H fun x H' => ∃ k, x = .bl k ∧ Q k H') : tTest t σ H Q := h
theorem w_B {t : TE} {Q : Bool → Hp → Prop} (h : t σ H fun x H1 => ∃ c, x = .bl c ∧ Q c H1) : tB t σ H Q := h
theorem w_yes {Q : Bool → Hp → Prop} (h : Q true H) : tYes σ H Q := h
theorem w_not {t : TT} {Q : Bool → Hp → Prop} (h : t σ H fun c H1 => Q (!c) H1) : tNot t σ H Q := h
theorem w_and {t u : TT} {Q : Bool → Hp → Prop} (h : t σ H fun c H1 => if c = true then u σ H1 Q else Q false H1) : tAnd t u σ H Q := h
theorem w_or {t u : TT} {Q : Bool → Hp → Prop} (h : t σ H fun c H1 => if c = true then Q true H1 else u σ H1 Q) : tOr t u σ H Q := h
theorem w_andV {ta tb : TE} {Q : VK} (h : ta σ H fun x H1 => ∃ c, x = .bl c ∧ if c = true then tb σ H1 Q else Q (.bl false) H1) : tAndV ta tb σ H Q := h
theorem w_orV {ta tb : TE} {Q : VK} (h : ta σ H fun x H1 => ∃ c, x = .bl c ∧ if c = true then Q (.bl true) H1 else tb σ H1 Q) : tOrV ta tb σ H Q := h
theorem w_notV {ta : TE} {Q : VK} (h : ta σ H fun x H1 => ∃ c, x = .bl c ∧ Q (.bl (!c)) H1) : tNotV ta σ H Q := h
theorem w_ifE {t : TT} {ta tb : TE} {Q : VK} (h : t σ H fun c H1 => if c = true then ta σ H1 Q else tb σ H1 Q) : tIf t ta tb σ H Q := h
theorem w_nil {Q : List V → Hp → Prop} (h : Q [] H) : tNil σ H Q := h
theorem w_cons {ta : TE} {tr : TA} {Q : List V → Hp → Prop} (h : ta σ H fun x H1 => tr σ H1 fun xs H2 => Q (x :: xs) H2) : tCons ta tr σ H Q := h
theorem w_call {sp : Sp} {dvs : List V} {E : XK} {t : TA} {Q : VK} (h : t σ H fun vs H1 => sp (vs ++ dvs) H1 Q E) : tCall sp dvs E t σ H Q := h
theorem w_callS {sp : Sp} {E : L2.St → XK} {t : TA} {Q : VK} (h : t σ H fun vs H1 => sp vs H1 Q (E σ)) : tCallS sp E t σ H Q := h
theorem w_cB {r : List V → Hp → VK → Prop} {t : TA} {Q : VK} (h : t σ H fun vs H1 => r vs H1 Q) : tCB r t σ H Q := h
theorem w_lst {t : TA} {Q : VK} (h : t σ H fun xs H1 => xs.length ≤ sizeLine ∧ ∀ p, H1 p = none → Q (.ref p) (upd H1 p (.lst xs))) : tLst t σ H Q := h
theorem w_tup {t : TA} {Q : VK} (h : t σ H fun xs H1 => xs.length ≤ sizeLine ∧ ∀ p, H1 p = none → Q (.ref p) (upd H1 p (.tup xs))) : tTup t σ H Q := h
theorem w_sl {r : V → Option Int → Option Int → Hp → VK → Prop} {te : TE} {tl th : TO} {Q : VK} (h : te σ H fun x H1 => tl σ H1 fun l H2 => th σ H2 fun u H3 => r x l u H3 Q) : tSl r te tl th σ H Q := h
theorem w_noPart {Q : Option Int → Hp → Prop} (h : Q none H) : tNoPart σ H Q := h
theorem w_part {t : TE} {Q : Option Int → Hp → Prop} (h : t σ H fun x H1 => ∃ i, x = .int i ∧ Q (some i) H1) : tPart t σ H Q := h
theorem w_bm {K : PySem.W.Frag} {T : String} {r : V → List V → Hp → VK → Prop} {to : TE} {t : TA} {Q : VK} (h : to σ H fun x H1 => tyV K T x H1 ∧ t σ H1 fun xs H2 => r x xs H2 Q) : tBM K T r to t σ H Q := h
theorem w_bm0 {K : PySem.W.Frag} {T : String} {r : V → List V → Hp → VK → Prop} {to : TE} {Q : VK} (h : to σ H fun x H1 => tyV K T x H1 ∧ r x [] H1 Q) : tBM0 K T r to σ H Q := h
theorem w_strTy {K : PySem.W.Frag} {s : Str} {P : Prop} (h : P) : tyV K "str" (.str s) H ∧ P := ⟨rfl, h⟩
theorem w_lstTy {K : PySem.W.Frag} {a : Addr} {xs : List V} {P : Prop} (e : H a = some (.lst xs)) (h : P) : tyV K "list" (.ref a) H ∧ P := ⟨.inl ⟨rfl, _, SqL.of e⟩, h⟩
theorem w_bl {b : Bool} {Q : Bool → Prop} (h : Q b) : ∃ k, V.bl b = V.bl k ∧ Q k := ⟨b, rfl, h⟩
theorem w_int1 {i : Int} {Q : Int → Prop} (h : Q i) : ∃ k, V.int i = V.int k ∧ Q k := ⟨i, rfl, h⟩
theorem w_str1 {i : Str} {Q : Str → Prop} (h : Q i) : ∃ k, V.str i = V.str k ∧ Q k := ⟨i, rfl, h⟩
theorem w_rI0 {g : Int → Int → V} {i j : Int} {Q : VK} (h : Q (g i j) H) : rI0 g (.int i) (.int j) H Q := ⟨i, j, rfl, rfl, h⟩
theorem w_rI {C : Int → Int → Prop} {g : Int → Int → V} {i j : Int} {Q : VK} (c : C i j) (h : Q (g i j) H) : rI C g (.int i) (.int j) H Q := ⟨i, j, rfl, rfl, c, h⟩
theorem w_rU {g : Int → V} {i : Int} {Q : VK} (h : Q (g i) H) : rU g (.int i) H Q := ⟨i, rfl, h⟩
theorem w_eqI {i j : Int} {Q : VK} (h : Q (.bl (decide (V.int i = V.int j))) H) : rEq (.int i) (.int j) H Q := ⟨rfl, h⟩
theorem w_eqS {i j : Str} {Q : VK} (h : Q (.bl (decide (V.str i = V.str j))) H) : rEq (.str i) (.str j) H Q := ⟨rfl, h⟩
theorem w_neI {i j : Int} {Q : VK} (h : Q (.bl (!decide (V.int i = V.int j))) H) : rNe (.int i) (.int j) H Q := ⟨rfl, h⟩
theorem w_neS {i j : Str} {Q : VK} (h : Q (.bl (!decide (V.str i = V.str j))) H) : rNe (.str i) (.str j) H Q := ⟨rfl, h⟩
theorem w_ixL {K : PySem.W.Frag} {p : Addr} {xs : List V} {i : Int} {v : V} {Q : VK} (h : H p = some (.lst xs)) (a : atI xs i = some v) (k : Q v H) : rIxL K (.ref p) (.int i) H Q := ⟨p, xs, i, v, rfl, rfl, SqL.of h, a, k⟩
theorem w_ixT {K : PySem.W.Frag} {p : Addr} {xs : List V} {i : Int} {v : V} {Q : VK} (h : H p = some (.tup xs)) (a : atI xs i = some v) (k : Q v H) : rIxT K (.ref p) (.int i) H Q := ⟨p, xs, i, v, rfl, rfl, SqT.of h, a, k⟩
theorem w_ixS {z : Str} {i : Int} {c : Nat} {Q : VK} (h : z.length ≤ sizeLine) (a : atI z.cps.toList i = some c) (k : Q (.str ⟨#[c]⟩) H) : rIxS (.str z) (.int i) H Q := ⟨z, i, c, rfl, rfl, h, a, k⟩
theorem w_slS {z : Str} {l u : Option Int} {Q : VK} (h : z.length ≤ sizeLine) (k : Q (.str (cutS z l u)) H) : rSlS (.str z) l u H Q := ⟨z, rfl, h, k⟩
theorem w_lenS {K : PySem.W.Frag} {z : Str} {R : Nat → Prop} (h : z.length ≤ sizeLine) (k : R z.length) : ∃ (x : V) (n : Nat), [V.str z] = [x] ∧ LenV K x H n ∧ R n := ⟨_, _, rfl, ⟨h, rfl⟩, k⟩
theorem w_lenL {K : PySem.W.Frag} {p : Addr} {xs : List V} {R : Nat → Prop} (h : H p = some (.lst xs)) (k : R xs.length) : ∃ (x : V) (n : Nat), [V.ref p] = [x] ∧ LenV K x H n ∧ R n := ⟨_, _, rfl, .inl ⟨_, SqL.of h, rfl⟩, k⟩
theorem w_lenT {K : PySem.W.Frag} {p : Addr} {xs : List V} {R : Nat → Prop} (h : H p = some (.tup xs)) (k : R xs.length) : ∃ (x : V) (n : Nat), [V.ref p] = [x] ∧ LenV K x H n ∧ R n := ⟨_, _, rfl, .inr ⟨_, SqT.of h, rfl⟩, k⟩
theorem w_append {p : Addr} {xs : List V} {y : V} {Q : VK} (h : H p = some (.lst xs)) (l : xs.length < sizeLine) (k : Q .non (upd H p (.lst (xs ++ [y])))) : rAppend (.ref p) [y] H Q := ⟨p, xs, y, rfl, rfl, h, l, k⟩
theorem w_addS {i j : Str} {R : Str → Str → Prop} (l : i.length + j.length ≤ sizeLine) (k : R i j) : ∃ x y, V.str i = V.str x ∧ V.str j = V.str y ∧ x.length + y.length ≤ sizeLine ∧ R x y := ⟨i, j, rfl, rfl, l, k⟩
theorem w_bl2 {a b : Bool} {Q : Bool → Bool → Prop} (k : Q a b) : ∃ x y, V.bl a = V.bl x ∧ V.bl b = V.bl y ∧ Q x y := ⟨a, b, rfl, rfl, k⟩
theorem w_isN {P : Prop} (k : P) : V.non = .non ∧ P := ⟨rfl, k⟩
theorem w_listOf {K : PySem.W.Frag} {p : Addr} {ys : List V} {R : List V → Prop} (h : H p = some (.lst ys)) (k : R ys) : ∃ p' ys', [V.ref p] = [.ref p'] ∧ (SqL K H p' ys' ∨ SqT K H p' ys') ∧ R ys' := ⟨p, ys, rfl, .inl (SqL.of h), k⟩
theorem w_strOf {i : Int} {R : Int → Prop} (l : i.natAbs.log2 < 1920) (k : R i) : ∃ j, [V.int i] = [.int j] ∧ j.natAbs.log2 < 1920 ∧ R j := ⟨i, rfl, l, k⟩
theorem w_iT {b : Bool} {p q : Prop} (e : b = true) (h : p) : if b = true then p else q := by rw [e]; exact h
theorem w_iF {b : Bool} {p q : Prop} (e : b = false) (h : q) : if b = true then p else q := by rw [e]; exact h
theorem same_at {H H' : Hp} (s : Same H H') {a : Addr} {o : HO} (h : H a = some o) : H' a = some o := s _ _ h
theorem upd_at {H : Hp} {a b : Addr} {o u : HO} (n : b ≠ a) (h : H b = some u) : upd H a o b = some u := by rw [upd_ne n]; exact h
theorem upd_atN {H : Hp} {a b : Addr} {o u : HO} (f : H a = none) (h : H b = some u) : upd H a o b = some u := by rw [upd_ne (ne_of_none h f)]; exact h
theorem same_new {H H1 : Hp} {p : Addr} {o : HO} (s : Same H H1) (hp : H1 p = none) : Same H (upd H1 p o) := fun b u e => by
  rw [upd_ne (ne_of_none (s b u e) hp)]
  exact s b u e
theorem w_for {wi : TI} {g : TG} {tb : TS} (h : wi σ H fun J H1 => ∃ W : Nat → Nat → L2.St → Hp → Prop, (∃ m, W 0 m σ H1) ∧ ∀ i m σ H, W i m σ H →
  (J.stop i H ∧ D.nx σ H) ∨ (J.go i H ∧ ∃ N : L2.St → Hp → Prop, (∀ σ' H', N σ' H' → ∃ m', m' < m ∧ W (i + 1) m' σ' H') ∧ ∀ x H', J.yld i H x H' → g x σ H' fun σ2 H2 => tb { D with nx := N, ct := N, bk := D.nx } σ2 H2)) : tFor wi g tb D σ H := h
theorem w_lc {wi : TI} {g : TG} {tt : TT} {te : TE} {vs : List Nat} {Q : VK} (h : wi σ H fun J H1 => ∀ D, H1 D = none → ∃ W : Nat → Nat → Hp → Prop, (∃ m, W 0 m (upd H1 D (.lst []))) ∧ ∀ i m H, W i m H →
  (J.stop i H ∧ Q (.ref D) H) ∨ (J.go i H ∧ ∃ Nx : Hp → Prop, (∀ H', Nx H' → ∃ m', m' < m ∧ W (i + 1) m' H') ∧ ∀ x H', J.yld i H x H' → g x (wipe σ vs) H' fun σ2 H2 => wipe σ2 vs = wipe σ vs ∧ tt σ2 H2 fun b H3 =>
    if b = true then te σ2 H3 fun y H4 => ∃ acc, H4 D = some (.lst acc) ∧ acc.length < sizeLine ∧ Nx (upd H4 D (.lst (acc ++ [y]))) else Nx H3)) : tLc wi g tt te vs σ H Q := h
theorem w_iRng1 {ta : TA} {R : L2.It → Hp → Prop} (h : ta σ H fun vs H1 => ∃ j : Int, vs = [.int j] ∧ -(2 ^ 62) ≤ j ∧ j < 2 ^ 62 ∧ R (Itr 0 j.toNat) H1) : iRng1 ta σ H R := h
theorem w_iRng2 {ta : TA} {R : L2.It → Hp → Prop} (h : ta σ H fun vs H1 => ∃ i j : Int, vs = [.int i, .int j] ∧ (-(2 ^ 62) ≤ i ∧ i < 2 ^ 62 ∧ -(2 ^ 62) ≤ j ∧ j < 2 ^ 62) ∧ R (Itr i (j - i).toNat) H1) : iRng2 ta σ H R := h
theorem w_rng1 {i : Int} {R : Int → Prop} (b1 : -(2 ^ 62) ≤ i) (b2 : i < 2 ^ 62) (h : R i) : ∃ j : Int, [V.int i] = [.int j] ∧ -(2 ^ 62) ≤ j ∧ j < 2 ^ 62 ∧ R j := ⟨_, rfl, b1, b2, h⟩
theorem w_iList {K : PySem.W.Frag} {tl : TE} {R : L2.It → Hp → Prop} (h : tl σ H fun x H1 => ∃ a, x = .ref a ∧ (∃ xs, SqL K H1 a xs) ∧ R (Itl K a) H1) : iList K tl σ H R := h
theorem w_iTup {K : PySem.W.Frag} {tl : TE} {R : L2.It → Hp → Prop} (h : tl σ H fun x H1 => ∃ a, x = .ref a ∧ (∃ xs, SqT K H1 a xs) ∧ R (Itt K a) H1) : iTup K tl σ H R := h
theorem w_iStr {te : TE} {R : L2.It → Hp → Prop} (h : te σ H fun v H1 => ∃ x, v = .str x ∧ R (Its x) H1) : iStr te σ H R := h
theorem w_wipe {σ' : L2.St} {vs : List Nat} {P : Prop} (e : wipe σ vs = wipe σ' vs) (h : P) : wipe σ vs = wipe σ' vs ∧ P := ⟨e, h⟩
theorem w_acc {D : Addr} {acc : List V} {R : List V → Prop} (h : H D = some (.lst acc)) (l : acc.length < sizeLine) (k : R acc) : ∃ acc, H D = some (.lst acc) ∧ acc.length < sizeLine ∧ R acc := ⟨acc, h, l, k⟩
theorem w_itl {K : PySem.W.Frag} {a : Addr} {xs : List V} {R : Addr → Prop} (h : H a = some (.lst xs)) (k : R a) : ∃ b, V.ref a = V.ref b ∧ (∃ xs, SqL K H b xs) ∧ R b := ⟨a, rfl, ⟨_, SqL.of h⟩, k⟩
theorem w_itt {K : PySem.W.Frag} {a : Addr} {xs : List V} {R : Addr → Prop} (h : H a = some (.tup xs)) (k : R a) : ∃ b, V.ref a = V.ref b ∧ (∃ xs, SqT K H b xs) ∧ R b := ⟨a, rfl, ⟨_, SqT.of h⟩, k⟩
theorem w_M1 {r : V → List V → Hp → VK → Prop} {to te : TE} {Q : VK} (h : to σ H fun x H1 => (∃ a, x = .str a) ∧ te σ H1 fun y H2 => r x [y] H2 Q) : tM1 r to te σ H Q := h
theorem w_M0 {r : V → List V → Hp → VK → Prop} {to : TE} {Q : VK} (h : to σ H fun x H1 => (∃ a, x = .str a) ∧ r x [] H1 Q) : tM0 r to σ H Q := h
theorem w_isS {s : Str} {P : Prop} (h : P) : (∃ a, V.str s = .str a) ∧ P := ⟨⟨s, rfl⟩, h⟩
end steps

local macro_rules | `(tactic| array_mem_dec) => `(tactic| first | with_reducible assumption | with_reducible exact upd_same | ((with_reducible apply same_at); (with_reducible assumption); array_mem_dec) | ((with_reducible apply upd_atN); (with_reducible assumption); array_mem_dec) | ((with_reducible apply upd_at); (first | with_reducible assumption | (apply Ne.symm; with_reducible assumption)); array_mem_dec))
local macro_rules | `(tactic| array_get_dec) => `(tactic| first | (with_reducible refine w_seq ?_) | (with_reducible refine w_asg ?_) | (with_reducible refine w_drop ?_) | (with_reducible refine w_ret ?_) | (with_reducible refine w_retN ?_) | (with_reducible refine w_next ?_) | (with_reducible refine w_break ?_) | (with_reducible refine w_cont ?_) | (with_reducible refine w_ifS ?_) | (with_reducible refine w_sub ?_) | (with_reducible refine w_c ?_) | (with_reducible refine w_op ?_) | (with_reducible refine w_un ?_) | (with_reducible refine w_test ?_) | (with_reducible refine w_B ?_) | (with_reducible refine w_yes ?_) | (with_reducible refine w_not ?_) | (with_reducible refine w_and ?_) | (with_reducible refine w_or ?_) | (with_reducible refine w_andV ?_) | (with_reducible refine w_orV ?_) | (with_reducible refine w_notV ?_) | (with_reducible refine w_ifE ?_) | (with_reducible refine w_nil ?_) | (with_reducible refine w_cons ?_) | (with_reducible refine w_call ?_) | (with_reducible refine w_callS ?_) | (with_reducible refine w_cB ?_) | (with_reducible refine w_lst ?_) | (with_reducible refine w_tup ?_) | (with_reducible refine w_sl ?_) | (with_reducible refine w_noPart ?_) | (with_reducible refine w_part ?_) | (with_reducible refine w_bm ?_) | (with_reducible refine w_bm0 ?_) | (with_reducible refine w_strTy ?_) | (with_reducible refine w_bl ?_) | (with_reducible refine w_int1 ?_) | (with_reducible refine w_str1 ?_) | (with_reducible refine w_rI0 ?_) | (with_reducible refine w_rU ?_) | (with_reducible refine w_eqI ?_) | (with_reducible refine w_eqS ?_) | (with_reducible refine w_neI ?_) | (with_reducible refine w_neS ?_) | (with_reducible refine w_bl2 ?_) | (with_reducible refine w_isN ?_) | (with_reducible refine w_for ?_) | (with_reducible refine w_iRng1 ?_) | (with_reducible refine w_iRng2 ?_) | (with_reducible refine w_iList ?_) | (with_reducible refine w_iTup ?_) | (with_reducible refine w_iStr ?_) | (with_reducible refine w_lc ?_) | (with_reducible refine w_M1 ?_) | (with_reducible refine w_M0 ?_) | (with_reducible refine w_isS ?_) | ((with_reducible apply w_name); (simp only [wipe, List.map_cons, List.map_nil, List.foldl_cons, List.foldl_nil, List.set_cons_zero, List.set_cons_succ]; exact rfl)) | ((with_reducible apply w_var); exact rfl) | ((with_reducible apply w_lstTy); array_mem_dec) | ((with_reducible apply w_lenL); array_mem_dec) | ((with_reducible apply w_lenT); array_mem_dec) | ((with_reducible apply w_listOf); array_mem_dec) | ((with_reducible apply w_lenS); (first | (with_reducible assumption) | omega | (rw [sizeLine_eq]; omega))) | ((with_reducible apply w_slS); (first | (with_reducible assumption) | omega | (rw [sizeLine_eq]; omega))) | ((with_reducible apply w_wipe); exact rfl) | ((with_reducible apply w_acc); array_mem_dec; (try (first | (with_reducible assumption) | omega | (rw [sizeLine_eq]; omega)))) | ((with_reducible apply w_itl); array_mem_dec) | ((with_reducible apply w_itt); array_mem_dec) | ((with_reducible apply w_append); array_mem_dec; (try (first | (with_reducible assumption) | omega | (rw [sizeLine_eq]; omega)))) | ((with_reducible apply w_rng1); (first | (with_reducible assumption) | omega); (first | (with_reducible assumption) | omega)) | ((with_reducible apply w_ixL); array_mem_dec; (first | (with_reducible assumption) | exact rfl | (apply atI_nat; (with_reducible assumption)))) | ((with_reducible apply w_ixT); array_mem_dec; (first | (with_reducible assumption) | exact rfl | (apply atI_nat; (with_reducible assumption)))) | ((with_reducible apply w_iT); first | exact rfl | (with_reducible assumption)) | ((with_reducible apply w_iF); first | exact rfl | (with_reducible assumption)))
/-! ### the law -/
structure Names51 (K : PySem.W.Frag) (mg : Str → Option Value) (fP fD fK fT fF fS ff fc fC ft fo fa fe fr fw fg fl fR fX : Addr) (gP gD gK gT gF gS gf gc gC gt go ga ge gr gw gg gl gR gX : FuncData) : Prop where
  mgP : mg "_law_pool" = some (.ref fP)
  kP : PySem.W.keepIn K (.ref fP) = true
  bP : Binds K gP ["script"] []
  mgD : mg "_law_draw" = some (.ref fD)
  kD : PySem.W.keepIn K (.ref fD) = true
  bD : Binds K gD ["pool", "many"] []
  mgK : mg "_law_pick" = some (.ref fK)
  kK : PySem.W.keepIn K (.ref fK) = true
  bK : Binds K gK ["pool", "rows"] []
  mgT : mg "_law_text" = some (.ref fT)
  kT : PySem.W.keepIn K (.ref fT) = true
  bT : Binds K gT ["pool"] []
  mgF : mg "_law_frame" = some (.ref fF)
  kF : PySem.W.keepIn K (.ref fF) = true
  bF : Binds K gF ["text"] []
  mgS : mg "_law_same" = some (.ref fS)
  kS : PySem.W.keepIn K (.ref fS) = true
  bS : Binds K gS ["actual", "due"] []
  mgf : mg "framed" = some (.ref ff)
  kf : PySem.W.keepIn K (.ref ff) = true
  bf : Binds K gf ["text"] []
  mgc : mg "check_of" = some (.ref fc)
  kc : PySem.W.keepIn K (.ref fc) = true
  bc : Binds K gc ["text"] []
  mgC : mg "_law_check" = some (.ref fC)
  kC : PySem.W.keepIn K (.ref fC) = true
  bC : Binds K gC ["text"] []
  mgt : mg "checked_text" = some (.ref ft)
  kt : PySem.W.keepIn K (.ref ft) = true
  bt : Binds K gt ["text"] []
  mgo : mg "one_frame" = some (.ref fo)
  ko : PySem.W.keepIn K (.ref fo) = true
  bo : Binds K go ["text", "at"] []
  mga : mg "framed_all" = some (.ref fa)
  ka : PySem.W.keepIn K (.ref fa) = true
  ba : Binds K ga ["texts"] []
  mge : mg "ends" = some (.ref fe)
  ke : PySem.W.keepIn K (.ref fe) = true
  be : Binds K ge ["texts"] []
  mgr : mg "read_frames" = some (.ref fr)
  kr : PySem.W.keepIn K (.ref fr) = true
  br : Binds K gr ["text"] []
  mgw : mg "is_whole" = some (.ref fw)
  kw : PySem.W.keepIn K (.ref fw) = true
  bw : Binds K gw ["text"] []
  mgg : mg "first_gap" = some (.ref fg)
  kg : PySem.W.keepIn K (.ref fg) = true
  bg : Binds K gg ["text"] []
  mgl : mg "left_of" = some (.ref fl)
  kl : PySem.W.keepIn K (.ref fl) = true
  bl : Binds K gl ["texts", "signs"] []
  mgR : mg "_law_read" = some (.ref fR)
  kR : PySem.W.keepIn K (.ref fR) = true
  bR : Binds K gR ["text"] []
  mgX : mg "_law_refused" = some (.ref fX)
  kX : PySem.W.keepIn K (.ref fX) = true
  bX : Binds K gX ["choice", "one", "two"] []

theorem scLaw : FnScope ["script", "pool", "texts", "rows", "every", "sizes", "k", "at", "some", "whole", "worse", "told", "wrong", "text", "j"] ["script"] (defScope sLaw) := ⟨rfl, rfl, rfl, by decide +kernel, rfl, by decide +kernel, by decide +kernel⟩
def spLaw (K : PySem.W.Frag) : Sp := fun vs H Q _ => ∃ (a : Addr) (ns : List Int), vs = [.ref a] ∧ SqL K H a (ns.map V.int) ∧ ns.length ≤ 63 ∧ ∀ H', Q (.bl true) H'
theorem cut_pre (x : Str) (n : Nat) : cutS x none (some (n : Int)) = mkS ((tl x).take n) := by
  have e : cutS x none (some (n : Int)) = cutS x (some ((0 : Nat) : Int)) (some (n : Int)) := by
    have e1 : HT.sIx x.length 0 (some ((0 : Nat) : Int)) = 0 := by
      show (if (((0 : Nat) : Int)) < 0 then (((0 : Nat) : Int) + (x.length : Int)).toNat else min (((0 : Nat) : Int)).toNat x.length) = _
      rw [if_neg (by omega)]
      show min 0 x.length = 0
      omega
    unfold cutS
    rw [e1]
    rfl
  rw [e, cut_any, List.drop_zero, Nat.sub_zero]
theorem cut_len (x : Str) (l u : Option Int) : (cutS x l u).length ≤ x.length := by
  have e : (cutS x l u).length = (((tl x).drop (HT.sIx x.length 0 l)).take (HT.sIx x.length x.length u - HT.sIx x.length 0 l)).length := by
    rw [len_tl]; rfl
  rw [e, List.length_take, List.length_drop, len_tl x]
  omega
theorem ends_flat (ts : List (List Nat)) (n : Nat) : (endsV ts n).all flatV = true := by
  unfold endsV
  rw [List.all_map]
  exact List.all_eq_true.mpr fun _ _ => rfl
theorem app_le {n m : Nat} {s t : Str} (h : s.length ≤ n) (g : t.length ≤ m) : (s ++ t).length ≤ n + m := by rw [app_len]; omega
theorem notGood {x : Str} (h : (tl x).all okSign = false) : ¬ goodT (tl x) := fun z => by unfold goodT at z; rw [h] at z; cases z
theorem ite_val {c : Bool} {x y : V} {A B : VK → Prop} {Q : VK} {H : Hp} (hA : ∀ Q : VK, Q x H → A Q) (hB : ∀ Q : VK, Q y H → B Q) (h : Q (if c = true then x else y) H) : if c = true then A Q else B Q := by
  cases c
  · exact hB _ h
  · exact hA _ h
theorem fit_cut {z : Str} {l u : Option Int} {n : Nat} (h : z.length ≤ n) : (cutS z l u).length ≤ n := Nat.le_trans (cutS_length z l u) h
theorem fit_app {s t : Str} {a b n : Nat} (h : s.length ≤ a) (g : t.length ≤ b) (k : a + b ≤ n) : (s ++ t).length ≤ n := by rw [app_len]; omega
theorem fit_add {s t : Str} {a b : Nat} (h : s.length ≤ a) (g : t.length ≤ b) (k : a + b ≤ 16777216) : s.length + t.length ≤ sizeLine := by rw [sizeLine_eq]; omega
theorem allL_le : ∀ ts : List (List Nat), (∀ t ∈ ts, t.length ≤ 13) → (allL ts).length ≤ ts.length * 30
  | [], _ => Nat.le_refl _
  | t :: ts, h => by
    have ih := allL_le ts fun u hu => h u (List.mem_cons_of_mem _ hu)
    have ht := h t (List.mem_cons_self ..)
    have := frame_len t (by omega)
    have e : allL (t :: ts) = frameL t ++ allL ts := by unfold allL; rw [List.map_cons, List.flatten_cons]
    rw [e, List.length_append, List.length_cons]
    omega
theorem okD_flat {n : Nat} {ds : List PyData} (hl : ds.length ≤ 1000000) (h : ∀ e ∈ ds, okD (n + 1) e) : okD (n + 2) (.list ds) ∧ okD (n + 2) (.tuple ds) := ⟨⟨hl, h⟩, ⟨hl, h⟩⟩
theorem okD_two {n : Nat} {a b : PyData} (ha : okD (n + 1) a) (hb : okD (n + 1) b) : okD (n + 2) (.tuple [a, b]) := ⟨by simp, fun e he => by
  rcases List.mem_cons.mp he with rfl | he
  · exact ha
  · rw [List.mem_singleton.mp he]; exact hb⟩
def dT (ts : List (List Nat)) : PyData := .list (ts.map fun t => .str (mkS t))
theorem vT_all {K : PySem.W.Frag} {H : Hp} : ∀ ts : List (List Nat), DpAll K H (vT ts) (ts.map fun t => .str (mkS t))
  | [] => .nil
  | t :: ts => .cons (.str _) (vT_all ts)
theorem vT_dp {K : PySem.W.Frag} {H : Hp} {a : Addr} {ts : List (List Nat)} (h : H a = some (.lst (vT ts))) : Dp K H (.ref a) (dT ts) := .lst (SqL.of h) (vT_all ts)
theorem dT_ok {n : Nat} {ts : List (List Nat)} (h : ts.length ≤ 1000) : okD (n + 2) (dT ts) := ⟨by rw [List.length_map]; omega, fun e he => by
  obtain ⟨t, _, rfl⟩ := List.mem_map.mp he
  trivial⟩
def dE (ts : List (List Nat)) (n : Nat) : PyData := .list ((List.range n).map fun j => .int ((szs ts j : Nat) : Int))
theorem ints_all {K : PySem.W.Frag} {H : Hp} {f : Nat → Int} : ∀ L : List Nat, DpAll K H (L.map fun j => V.int (f j)) (L.map fun j => .int (f j))
  | [] => .nil
  | _ :: r => .cons (.int _) (ints_all r)
theorem dE_dp {K : PySem.W.Frag} {H : Hp} {a : Addr} {ts : List (List Nat)} {n : Nat} (h : H a = some (.lst (endsV ts n))) : Dp K H (.ref a) (dE ts n) := .lst (SqL.of h) (ints_all _)
theorem dE_ok {n m : Nat} {ts : List (List Nat)} (h : m ≤ 1000) : okD (n + 2) (dE ts m) := ⟨by rw [List.length_map, List.length_range]; omega, fun e he => by
  obtain ⟨t, _, rfl⟩ := List.mem_map.mp he
  trivial⟩
theorem ends_next {ts : List (List Nat)} {i : Nat} {t : List Nat} (ht : ts[i]? = some t) : endsV ts (i + 1) ++ [V.int (((szs ts i : Nat) : Int) + (((mkS (frameL t)).length : Nat) : Int))] = endsV ts (i + 1 + 1) := by
  rw [ends_snoc ts (i + 1), szs_next ht]; rfl
theorem ne_self (x : V) : (!decide (x = x)) = false := by rw [decide_eq_true rfl]; rfl
section
variable {P : Program} {w : World} {K : PySem.W.Frag} {mg : Str → Option Value} {base : Heap}
theorem ok_law {f fP fD fK fT fF fS ff fc fC ft fo fa fe fr fw fg fl fR fX : Addr} {fd gP gD gK gT gF gS gf gc gC gt go ga ge gr gw gg gl gR gX : FuncData} (F : Fun K "law" "law" sLaw f fd) (T : Blt mg) (M : Names51 K mg fP fD fK fT fF fS ff fc fC ft fo fa fe fr fw fg fl fR fX gP gD gK gT gF gS gf gc gC gt go ga ge gr gw gg gl gR gX)
    (FP : FnOk P w K mg base CX0 1 fP gP ["script"] (spPool K))
    (FD : FnOk P w K mg base CX0 1 fD gD ["pool", "many"] spDraw)
    (FK : FnOk P w K mg base CX0 2 fK gK ["pool", "rows"] spPick)
    (FT : FnOk P w K mg base CX0 2 fT gT ["pool"] spText)
    (FF : FnOk P w K mg base CX0 2 fF gF ["text"] spLFrm)
    (FS : FnOk P w K mg base CX0 4 fS gS ["actual", "due"] (spSame K 3))
    (GF : FnOk P w K mg base CX0 2 ff gf ["text"] spFrm)
    (GC : FnOk P w K mg base CX0 1 fc gc ["text"] spCheck)
    (FC : FnOk P w K mg base CX0 1 fC gC ["text"] spCheck)
    (GT : FnOk P w K mg base CX0 1 ft gt ["text"] spChk)
    (GO : FnOk P w K mg base CX0 2 fo go ["text", "at"] spOneF)
    (GA : FnOk P w K mg base CX0 3 fa ga ["texts"] spFAll)
    (GE : FnOk P w K mg base CX0 3 fe ge ["texts"] spEnds)
    (GR : FnOk P w K mg base CX0 3 fr gr ["text"] spRead)
    (GW : FnOk P w K mg base CX0 4 fw gw ["text"] spWhole)
    (GG : FnOk P w K mg base CX0 4 fg gg ["text"] spGap)
    (GL : FnOk P w K mg base CX0 4 fl gl ["texts", "signs"] spLeft)
    (FR : FnOk P w K mg base CX0 2 fR gR ["text"] spLRead)
    (FX : FnOk P w K mg base CX0 5 fX gX ["choice", "one", "two"] spRefused)
    : FnOk P w K mg base CX0 6 f fd ["script"] (spLaw K) := by

  refine F.ok scLaw (fun vs H Q E h => ?_) (fun cdv A outer s H vs Q E hr5' h => ?_)
  · obtain ⟨a, ns, rfl, _⟩ := h
    rfl
  · obtain ⟨a, ns, rfl, hS, hn, kQ⟩ := h
    have hr1 : Room 1 _ := hr5'.mono (by decide)
    have hr2 : Room 2 _ := hr5'.mono (by decide)
    have hr3 : Room 3 _ := hr5'.mono (by decide)
    have hr4 : Room 4 _ := hr5'.mono (by decide)
    have hr5 : Room 5 _ := hr5'.mono (by decide)
    refine ⟨_, (pss_cons (ps_set (i := 1) scLaw.nd rfl (Or.inr rfl) (pe_call FP hr1 rfl M.mgP M.kP M.bP .nil pass0 (pa_cons (pv 0) pa_nil)))
    (pss_cons (ps_set (i := 2) scLaw.nd rfl (Or.inr rfl) (pe_lc (own := [("k", 6)]) rfl scLaw.nd (pi_range1 (by rfl) T.b_range (pa_cons (pe_call FD hr1 rfl M.mgD M.kD M.bD .nil pass0 (pa_cons (pv 1) (pa_cons pe_int pa_nil))) pa_nil)) (blkOk_by (N := ["script", "pool", "texts", "rows", "every", "sizes", "k", "at", "some", "whole", "worse", "told", "wrong", "text", "j"]) (sc := defScope sLaw) (own := [("k", 6)]) (by decide +kernel)) (fun _ _ _ _ _ => (pg_name (i := 6) scLaw.nd rfl (Or.inl rfl))) (fun _ _ _ _ _ => pts_nil) (fun _ _ _ _ _ => (pe_call FT hr2 rfl M.mgT M.kT M.bT .nil pass0 (pa_cons (pv 1) pa_nil)))))
    (pss_cons (ps_setLc (i := 3) (own := [("text", 13)]) rfl scLaw.nd rfl rfl (sw_true rfl rfl rfl (by decide +kernel)) (pi_list (pv 2)) (blkOk_by (N := ["script", "pool", "texts", "rows", "every", "sizes", "k", "at", "some", "whole", "worse", "told", "wrong", "text", "j"]) (sc := defScope sLaw) (own := [("text", 13)]) (by decide +kernel)) (fun _ _ _ _ _ => (pg_name (i := 13) scLaw.nd rfl (Or.inl rfl))) (fun _ _ _ _ _ => pts_nil) (fun _ _ _ _ _ => (pe_call FF hr2 rfl M.mgF M.kF M.bF .nil pass0 (pa_cons (pv 13) pa_nil))))
    (pss_cons (ps_set (i := 4) scLaw.nd rfl (Or.inl rfl) (pe_join pe_str (pv 3)))
    (pss_cons (ps_set (i := 5) scLaw.nd rfl (Or.inr rfl) (pe_lst (pa_cons pe_int pa_nil)))
    (pss_cons (ps_for PassesOwn.never rfl (pi_range1 (by rfl) T.b_range (pa_cons (pe_callB call_len (by rfl) T.b_len (by decide +kernel) (pa_cons (pv 2) pa_nil)) pa_nil)) (pg_name (i := 6) scLaw.nd rfl (Or.inl rfl)) (pss_cons (ps_expr (pe_bm PySem.F.plainAttrs_list PySem.F.slot_list_append PySem.F.type_list_append mt_append (pv 5) (pa_cons (pe_op op_add (pe_ix (r := rIxL K) ix_list (pv 5) (pv 6) (fun _ _ => rfl)) (pe_callB call_len (by rfl) T.b_len (by decide +kernel) (pa_cons (pe_ix (r := rIxL K) ix_list (pv 3) (pv 6) (fun _ _ => rfl)) pa_nil))) pa_nil)))
    (pss_cons (ps_if (PW.pt (pw_or (pt_not (pt_val (pe_call FS hr4 rfl M.mgS M.kS M.bS .nil pass0 (pa_cons (pe_call GF hr2 rfl M.mgf M.kf M.bf .nil pass0 (pa_cons (pe_ix (r := rIxL K) ix_list (pv 2) (pv 6) (fun _ _ => rfl)) pa_nil)) (pa_cons (pe_ix (r := rIxL K) ix_list (pv 3) (pv 6) (fun _ _ => rfl)) pa_nil))))) (pw_or (pt_not (pt_val (pe_call FS hr4 rfl M.mgS M.kS M.bS .nil pass0 (pa_cons (pe_call GC hr1 rfl M.mgc M.kc M.bc .nil pass0 (pa_cons (pe_ix (r := rIxL K) ix_list (pv 2) (pv 6) (fun _ _ => rfl)) pa_nil)) (pa_cons (pe_call FC hr1 rfl M.mgC M.kC M.bC .nil pass0 (pa_cons (pe_ix (r := rIxL K) ix_list (pv 2) (pv 6) (fun _ _ => rfl)) pa_nil)) pa_nil))))) (pw_or1 (pt_cmpR op_ne (pe_call GT hr1 rfl M.mgt M.kt M.bt .nil pass0 (pa_cons (pe_ix (r := rIxL K) ix_list (pv 2) (pv 6) (fun _ _ => rfl)) pa_nil)) (pe_ix (r := rIxL K) ix_list (pv 2) (pv 6) (fun _ _ => rfl)) (nomark _)))))) (pss_one (ps_ret pe_bl)) pss_nil)
    (pss_one (ps_if (pt_not (pt_val (pe_call FS hr4 rfl M.mgS M.kS M.bS .nil pass0 (pa_cons (pe_call GO hr2 rfl M.mgo M.ko M.bo .nil pass0 (pa_cons (pv 4) (pa_cons (pe_ix (r := rIxL K) ix_list (pv 5) (pv 6) (fun _ _ => rfl)) pa_nil))) (pa_cons (pe_tup (pa_cons (pe_ix (r := rIxL K) ix_list (pv 2) (pv 6) (fun _ _ => rfl)) (pa_cons (pe_ix (r := rIxL K) ix_list (pv 5) (pe_op op_add (pv 6) pe_int) (fun _ _ => rfl)) pa_nil))) pa_nil))))) (pss_one (ps_ret pe_bl)) pss_nil)))))
    (pss_cons (ps_if (PW.pt (pw_or (pt_not (pt_val (pe_call FS hr4 rfl M.mgS M.kS M.bS .nil pass0 (pa_cons (pe_call GA hr3 rfl M.mga M.ka M.ba .nil pass0 (pa_cons (pe_callTy call_list_of (by rfl) T.b_list (by decide +kernel) (pa_cons (pv 2) pa_nil)) pa_nil)) (pa_cons (pv 4) pa_nil))))) (pw_or (pt_not (pt_val (pe_call FS hr4 rfl M.mgS M.kS M.bS .nil pass0 (pa_cons (pe_call GE hr3 rfl M.mge M.ke M.be .nil pass0 (pa_cons (pe_callTy call_list_of (by rfl) T.b_list (by decide +kernel) (pa_cons (pv 2) pa_nil)) pa_nil)) (pa_cons (pv 5) pa_nil))))) (pw_or1 (pt_not (pt_val (pe_call FS hr4 rfl M.mgS M.kS M.bS .nil pass0 (pa_cons (pe_call GR hr3 rfl M.mgr M.kr M.br .nil pass0 (pa_cons (pv 4) pa_nil)) (pa_cons (pe_tup (pa_cons (pv 2) (pa_cons (pe_callB call_len (by rfl) T.b_len (by decide +kernel) (pa_cons (pv 4) pa_nil)) pa_nil))) pa_nil))))))))) (pss_one (ps_ret pe_bl)) pss_nil)
    (pss_cons (ps_if (PW.pt (pw_or (pt_cmpR op_isnot_bl (pe_call GW hr4 rfl M.mgw M.kw M.bw .nil pass0 (pa_cons (pv 4) pa_nil)) pe_bl (nomark _)) (pw_or1 (pt_cmpR op_notN (pe_call GG hr4 rfl M.mgg M.kg M.bg .nil pass0 (pa_cons (pv 4) pa_nil)) pe_non (nomark _))))) (pss_one (ps_ret pe_bl)) pss_nil)
    (pss_cons (ps_for PassesOwn.never rfl (pi_range1 (by rfl) T.b_range (pa_cons pe_int pa_nil)) (pg_name (i := 6) scLaw.nd rfl (Or.inl rfl)) (pss_cons (ps_set (i := 7) scLaw.nd rfl (Or.inr rfl) (pe_call FD hr1 rfl M.mgD M.kD M.bD .nil pass0 (pa_cons (pv 1) (pa_cons (pe_op op_add (pe_callB call_len (by rfl) T.b_len (by decide +kernel) (pa_cons (pv 4) pa_nil)) pe_int) pa_nil))))
    (pss_cons (ps_set (i := 8) scLaw.nd rfl (Or.inl rfl) (pe_slice sl_str (pv 4) po_none (po_some (pv 7))))
    (pss_cons (ps_setLc (i := 9) (own := [("j", 14)]) rfl scLaw.nd rfl rfl (sw_true rfl rfl rfl (by decide +kernel)) (pi_range1 (by rfl) T.b_range (pa_cons (pe_callB call_len (by rfl) T.b_len (by decide +kernel) (pa_cons (pv 2) pa_nil)) pa_nil)) (blkOk_by (N := ["script", "pool", "texts", "rows", "every", "sizes", "k", "at", "some", "whole", "worse", "told", "wrong", "text", "j"]) (sc := defScope sLaw) (own := [("j", 14)]) (by decide +kernel)) (fun _ _ _ _ _ => (pg_name (i := 14) scLaw.nd rfl (Or.inl rfl))) (fun _ _ _ _ _ => pts_one (pt_cmpR op_le (pe_ix (r := rIxL K) ix_list (pv 5) (pe_op op_add (pv 14) pe_int) (fun _ _ => rfl)) (pv 7) (nomark _))) (fun _ _ _ _ _ => (pe_ix (r := rIxL K) ix_list (pv 2) (pv 14) (fun _ _ => rfl))))
    (pss_cons (ps_if (PW.pt (pw_or (pt_not (pt_val (pe_call FS hr4 rfl M.mgS M.kS M.bS .nil pass0 (pa_cons (pe_call GR hr3 rfl M.mgr M.kr M.br .nil pass0 (pa_cons (pv 8) pa_nil)) (pa_cons (pe_tup (pa_cons (pv 9) (pa_cons (pe_ix (r := rIxL K) ix_list (pv 5) (pe_callB call_len (by rfl) T.b_len (by decide +kernel) (pa_cons (pv 9) pa_nil)) (fun _ _ => rfl)) pa_nil))) pa_nil))))) (pw_or1 (pt_not (pt_val (pe_call FS hr4 rfl M.mgS M.kS M.bS .nil pass0 (pa_cons (pe_call GL hr4 rfl M.mgl M.kl M.bl .nil pass0 (pa_cons (pe_callTy call_list_of (by rfl) T.b_list (by decide +kernel) (pa_cons (pv 2) pa_nil)) (pa_cons (pv 7) pa_nil))) (pa_cons (pv 9) pa_nil)))))))) (pss_one (ps_ret pe_bl)) pss_nil)
    (pss_cons (ps_if (PW.pt (pw_or (pt_not (pt_val (pe_call FS hr4 rfl M.mgS M.kS M.bS .nil pass0 (pa_cons (pe_call GW hr4 rfl M.mgw M.kw M.bw .nil pass0 (pa_cons (pv 8) pa_nil)) (pa_cons (pe_cmpR op_in_seq (pv 7) (pv 5) rfl) pa_nil))))) (pw_or1 (pt_not (pt_val (pe_call FS hr4 rfl M.mgS M.kS M.bS .nil pass0 (pa_cons (pe_call GG hr4 rfl M.mgg M.kg M.bg .nil pass0 (pa_cons (pv 8) pa_nil)) (pa_cons (pe_ifExp (pt_cmpR op_in_seq (pv 7) (pv 5) rfl) pe_non (pe_ix (r := rIxL K) ix_list (pv 5) (pe_callB call_len (by rfl) T.b_len (by decide +kernel) (pa_cons (pv 9) pa_nil)) (fun _ _ => rfl))) pa_nil)))))))) (pss_one (ps_ret pe_bl)) pss_nil)
    (pss_cons (ps_set (i := 10) scLaw.nd rfl (Or.inl rfl) (pe_call FK hr2 rfl M.mgK M.kK M.bK .nil pass0 (pa_cons (pv 1) (pa_cons (pe_lst (pa_cons (pe_op op_add_str (pe_slice sl_str (pv 8) po_none (po_some (pe_op op_sub (pe_callB call_len (by rfl) T.b_len (by decide +kernel) (pa_cons (pv 8) pa_nil)) pe_int))) pe_str) (pa_cons (pe_op op_add_str (pv 8) pe_str) (pa_cons (pe_op op_add_str (pe_op op_add_str (pe_slice sl_str (pv 4) po_none (po_some (pv 7))) pe_str) (pe_slice sl_str (pv 4) (po_some (pe_op op_add (pv 7) pe_int)) po_none)) (pa_cons (pe_op op_add_str (pe_slice sl_str (pv 4) po_none (po_some (pv 7))) (pe_slice sl_str (pv 4) (po_some (pe_op op_add (pv 7) pe_int)) po_none)) (pa_cons (pe_op op_add_str pe_str (pv 4)) (pa_cons (pe_slice sl_str (pv 4) (po_some (pv 7)) po_none) pa_nil))))))) pa_nil))))
    (pss_cons (ps_set (i := 11) scLaw.nd rfl (Or.inl rfl) (pe_call FR hr2 rfl M.mgR M.kR M.bR .nil pass0 (pa_cons (pv 10) pa_nil)))
    (pss_one (ps_if (pt_not (pt_val (pe_call FS hr4 rfl M.mgS M.kS M.bS .nil pass0 (pa_cons (pe_call GR hr3 rfl M.mgr M.kr M.br .nil pass0 (pa_cons (pv 10) pa_nil)) (pa_cons (pe_tup (pa_cons (pe_ix (r := rIxL K) ix_list (pv 11) pe_int (fun _ _ => rfl)) (pa_cons (pe_ix (r := rIxL K) ix_list (pv 11) pe_int (fun _ _ => rfl)) pa_nil))) pa_nil))))) (pss_one (ps_ret pe_bl)) pss_nil))))))))))
    (pss_cons (ps_for PassesOwn.never rfl (pi_list (pe_lst (pa_cons pe_str (pa_cons pe_str (pa_cons pe_str (pa_cons pe_int (pa_cons pe_non pa_nil))))))) (pg_name (i := 12) scLaw.nd rfl (Or.inl rfl)) (pss_one (ps_if (PW.pt (pw_or (pt_not (pt_val (pe_call FX hr5 rfl M.mgX M.kX M.bX .nil pass0 (pa_cons pe_int (pa_cons (pv 12) (pa_cons pe_int pa_nil)))))) (pw_or1 (pt_not (pt_val (pe_call FX hr5 rfl M.mgX M.kX M.bX .nil pass0 (pa_cons pe_int (pa_cons (pv 12) (pa_cons pe_int pa_nil))))))))) (pss_one (ps_ret pe_bl)) pss_nil)))
    (pss_one (ps_ret (pe_and (pe_call FX hr5 rfl M.mgX M.kX M.bX .nil pass0 (pa_cons pe_int (pa_cons (pv 2) (pa_cons (pe_un un_neg pe_int) pa_nil)))) (pe_and (pe_call FX hr5 rfl M.mgX M.kX M.bX .nil pass0 (pa_cons pe_int (pa_cons (pv 2) (pa_cons (pe_op op_add (pe_callB call_len (by rfl) T.b_len (by decide +kernel) (pa_cons (pv 4) pa_nil)) pe_int) pa_nil)))) (pe_one (pe_call FX hr5 rfl M.mgX M.kX M.bX .nil pass0 (pa_cons pe_int (pa_cons (pv 2) (pa_cons pe_bl pa_nil))))))))))))))))))), ?_⟩
    dsimp only [cxOf, Cx.nox]
    refine w_start (σ' := [some (.ref a), none, none, none, none, none, none, none, none, none, none, none, none, none, none]) rfl ?_
    (repeat array_get_dec)
    refine ⟨a, ns, rfl, hS, hn, fun H0 p l s0 hp0 hl0 hP => ?_⟩
    (repeat array_get_dec)
    refine ⟨p, l, 6, rfl, hP, by decide, by decide, fun d H1 d0 d1 hP1 sb1 => ?_⟩
    (repeat array_get_dec)
    intro D hD
    have nDp : D ≠ p := hP1.ne hD
    have nDl : D ≠ l := hP1.nel hD
    refine lc_range (fun i H' => ∃ ts : List (List Nat), ts.length = i ∧ (∀ t ∈ ts, t.length ≤ 13 ∧ goodT t) ∧ H' D = some (.lst (vT ts)) ∧ PoolL H' p l) ⟨[], rfl, fun _ z => (List.not_mem_nil z).elim, upd_same, hP1.new hD⟩ ?_ ?_
    · rintro i H' hi ⟨ts, hts, hg, h1, hP2⟩
      (repeat array_get_dec)
      refine ⟨p, l, rfl, hP2, fun t H3 ht hgt hP3 sb3 => ?_⟩
      have h3 := sb3 _ _ nDp h1
      refine ⟨_, h3, (by rw [vT_len, sizeLine_eq]; omega), ts ++ [t], by rw [List.length_append, hts]; rfl, fun u hu => ?_, by rw [upd_same]; unfold vT; rw [List.map_append]; rfl, hP3.put nDp nDl⟩
      rcases List.mem_append.mp hu with hu | hu
      · exact hg u hu
      · rw [List.mem_singleton.mp hu]; exact ⟨ht, hgt⟩
    · rintro H' ⟨ts, hts, hg, h1, hP2⟩
      have hT : smallT ts := ⟨by omega, fun t ht => ⟨by have := (hg t ht).1; omega, (hg t ht).2⟩⟩
      have hl5 : ts.length ≤ 5 := by omega
      (repeat array_get_dec)
      intro R hR
      have nDR : D ≠ R := ne_of_none h1 hR
      have hP2' := hP2
      refine lc_list (K := K) (a := D) (xs := vT ts) (fun i H2 => Same H' H2 ∧ H2 R = some (.lst (((ts.take i).map fun t => mkS (frameL t)).map V.str))) ⟨same_new (Same.refl _) hR, upd_same⟩ ?_ ?_ ?_
      · rintro i H2 _ ⟨s1, _⟩
        exact SqL.of (s1 _ _ h1)
      · rintro i y H2 hi ⟨s1, h2⟩
        obtain ⟨t, ht, rfl⟩ := vT_at hi
        have hi' : i < ts.length := (List.getElem?_eq_some_iff.mp ht).1
        have hh := hg t (List.mem_of_getElem? ht)
        (repeat array_get_dec)
        refine ⟨mkS t, rfl, by rw [len_tl]; show t.length ≤ _; omega, ?_⟩
        refine ⟨_, h2, (by rw [List.length_map, List.length_map, List.length_take, sizeLine_eq]; omega), ?_, by rw [upd_same, take_snoc ht, List.map_append, List.map_append]; rfl⟩
        exact fun b o e => by rw [upd_ne (ne_of_none e hR)]; exact s1 _ _ e
      · rintro H2 ⟨s1, h2⟩
        rw [vT_len, List.take_length] at h2
        have hD2 := s1 _ _ h1
        have vl := vT_len ts
        have hP3 := hP2.keep s1
        (repeat array_get_dec)
        have em : (ts.map fun t => mkS (frameL t)) = (ts.map frameL).map mkS := by rw [List.map_map]; rfl
        refine ⟨_, R, _, rfl, rfl, .inl (SqL.of h2), ?_, ?_⟩
        · have hs := sum_le (ys := ts.map fun t => mkS (frameL t)) (B := 1017) fun y hy => by
            obtain ⟨t, ht, rfl⟩ := List.mem_map.mp hy
            rw [len_tl]
            have := frame_len t (by have := (hT.2 t ht).1; omega)
            have := (hT.2 t ht).1
            show (frameL t).length ≤ _
            omega
          rw [List.length_map] at hs
          have e0 : (Str.ofString "").length = 0 := rfl
          rw [e0, List.length_map]
          omega
        rw [em, join_flat]
        have eA : mkS (ts.map frameL).flatten = mkS (allL ts) := rfl
        rw [eA]
        rw [em] at h2
        have hall := szs_all hT
        have lE : (mkS (allL ts)).length = (allL ts).length := by rw [len_tl]
        have lE' : (mkS (allL ts)).length ≤ sizeLine := by rw [lE, sizeLine_eq]; omega
        (repeat array_get_dec)
        refine ⟨by show 1 ≤ sizeLine; decide, fun S hS' => ?_⟩
        (repeat array_get_dec)
        have nSD : D ≠ S := ne_of_none hD2 hS'
        have nSR : R ≠ S := ne_of_none h2 hS'
        have nSp := hP3.ne hS'
        have nSl := hP3.nel hS'
        rw [vT_len, Int.toNat_natCast]
        refine for_range (fun i σ H3 => ∃ v6, σ = [some (.ref a), some (.ref p), some (.ref D), some (.ref R), some (.str (mkS (allL ts))), some (.ref S), v6, none, none, none, none, none, none, none, none] ∧
          H3 D = some (.lst (vT ts)) ∧ H3 R = some (.lst (((ts.map frameL).map mkS).map V.str)) ∧ H3 S = some (.lst (endsV ts (i + 1))) ∧ PoolL H3 p l) ⟨none, rfl, upd_atN hS' hD2, upd_atN hS' h2, upd_same, hP3.new hS'⟩ ?_ ?_
        · rintro i σ H3 hi ⟨v6, rfl, g1, g2, g3, g4⟩
          rw [Int.zero_add]
          have ht : ts[i]? = some ts[i] := by simp [hi]
          have a1 := vT_get ht
          have a2 : (((ts.map frameL).map mkS).map V.str)[i]? = some (V.str (mkS (frameL ts[i]))) := by rw [List.getElem?_map, List.getElem?_map, List.getElem?_map, ht]; rfl
          have a3 : (endsV ts (i + 1))[i]? = some (V.int ((szs ts i : Nat) : Int)) := ends_get (by omega)
          have a4 : (endsV ts (i + 1 + 1))[i]? = some (V.int ((szs ts i : Nat) : Int)) := ends_get (by omega)
          have a5 : atI (endsV ts (i + 1 + 1)) ((i : Int) + 1) = some (V.int ((szs ts (i + 1) : Nat) : Int)) := atI_nat (j := i + 1) (ends_get (by omega))
          have hh := hT.2 _ (List.mem_of_getElem? ht)
          have hsz := szs_le hT (i + 1)
          have nx := ends_next ht
          have sp := all_split ts ht
          have nxt := szs_next ht
          generalize ts[i] = t at *
          have lt : (mkS t).length ≤ 1000000 := by rw [len_tl]; show t.length ≤ _; omega
          have lf : (mkS (frameL t)).length ≤ sizeLine := by rw [len_tl, sizeLine_eq]; have := frame_len t (by omega); show (frameL t).length ≤ _; omega
          have le2 : (endsV ts (i + 1)).length < sizeLine := by rw [ends_len, sizeLine_eq]; omega
          (repeat array_get_dec)
          rw [nx]
          have h4 := SameBut.upd (o := .lst (endsV ts (i + 1 + 1))) (SameBut.refl S H3)
          have g1' := h4 _ _ nSD g1
          have g2' := h4 _ _ nSR g2
          have g4' : PoolL (upd H3 S (.lst (endsV ts (i + 1 + 1)))) p l := g4.put nSp nSl
          have g3' : (upd H3 S (.lst (endsV ts (i + 1 + 1)))) S = some (.lst (endsV ts (i + 1 + 1))) := upd_same
          generalize upd H3 S (.lst (endsV ts (i + 1 + 1))) = H4 at *
          (repeat array_get_dec)
          refine ⟨mkS t, rfl, lt, hh.2, fun H5 s5 => ?_⟩
          (repeat array_get_dec)
          refine ⟨_, _, _, rfl, .str _, .str _, trivial, fun H6 s6 => ?_⟩
          (repeat array_get_dec)
          refine ⟨mkS t, rfl, ?_⟩
          (repeat array_get_dec)
          refine ⟨mkS t, rfl, ?_⟩
          (repeat array_get_dec)
          refine ⟨_, _, _, rfl, .int _, .int _, trivial, fun H7 s7 => ?_⟩
          (repeat array_get_dec)
          refine ⟨mkS t, rfl, lt, hh.2, fun H8 s8 => ?_⟩
          (repeat array_get_dec)
          refine w_iF (ne_self _) ?_
          (repeat array_get_dec)
          refine ⟨mkS (allL ts), szs ts i, rfl, by rw [lE]; omega, ?_, ?_, ?_⟩
          · have := szs_full ts
            have := szs_mono ts (show i ≤ ts.length by omega)
            show _ ≤ (allL ts).length
            omega
          · intro t2 k2 e H9 q9 s9 h9
            have e2 : oneFr (frameL t ++ allL (ts.drop (i + 1))) = some (t2, k2) := by rw [← sp]; exact e
            rw [frame_one hh.2 (by omega)] at e2
            obtain ⟨rfl, rfl⟩ := Prod.mk.inj (Option.some.inj e2)
            (repeat array_get_dec)
            refine ⟨by show 2 ≤ sizeLine; decide, fun q10 hq10 => ?_⟩
            (repeat array_get_dec)
            refine ⟨_, _, .tuple [.str (mkS t), .int ((szs ts (i + 1) : Nat) : Int)], rfl, .tup (SqT.of (upd_atN hq10 h9)) ?_, .tup (SqT.of upd_same) (.cons (.str _) (.cons (.int _) .nil)), okD_two trivial trivial, fun H11 s11 => ?_⟩
            · rw [nxt]; exact .cons (.str _) (.cons (.int _) .nil)
            (repeat array_get_dec)
            have sAll : Same H4 H11 := (((((s5.trans s6).trans s7).trans s8).trans s9).trans (same_upd (Same.refl _) hq10)).trans s11
            exact ⟨_, rfl, sAll _ _ g1', sAll _ _ g2', sAll _ _ g3', g4'.keep sAll⟩
          · intro e
            have e2 : oneFr (frameL t ++ allL (ts.drop (i + 1))) = none := by rw [← sp]; exact e
            rw [frame_one hh.2 (by omega)] at e2
            cases e2
        · rintro σ H3 ⟨v6, rfl, g1, g2, g3, g4⟩
          (repeat array_get_dec)
          intro l1 hl1
          (repeat array_get_dec)
          refine ⟨l1, ts, rfl, upd_same, hT, fun H4 s4 => ?_⟩
          have s4' : Same H3 H4 := (same_upd (Same.refl _) hl1).trans s4
          (repeat array_get_dec)
          refine ⟨_, _, _, rfl, .str _, .str _, trivial, fun H5 s5 => ?_⟩
          (repeat array_get_dec)
          intro l2 hl2
          (repeat array_get_dec)
          refine ⟨l2, ts, rfl, upd_same, hT, fun H6 q6 s6 hq6 h6 => ?_⟩
          have s6' : Same H5 H6 := (same_upd (Same.refl _) hl2).trans s6
          have g3' := s6' _ _ (s5 _ _ (s4' _ _ g3))
          (repeat array_get_dec)
          refine ⟨_, _, _, rfl, dE_dp h6, dE_dp g3', dE_ok (by omega), fun H7 s7 => ?_⟩
          (repeat array_get_dec)
          refine ⟨mkS (allL ts), rfl, by rw [lE]; omega, fun H8 p8 q8 s8 h8 h8' => ?_⟩
          have er : readL (tl (mkS (allL ts))) = (ts, (allL ts).length) := read_all hT
          rw [er] at h8 h8'
          (repeat array_get_dec)
          refine ⟨by show 2 ≤ sizeLine; decide, fun q9 hq9 => ?_⟩
          have s48 : Same H3 H8 := ((((s4'.trans s5).trans s6').trans s7).trans s8)
          have s9 := same_upd (o := .tup [V.ref D, V.int (((mkS (allL ts)).length : Nat) : Int)]) (Same.refl H8) hq9
          (repeat array_get_dec)
          refine ⟨_, _, .tuple [dT ts, .int (((allL ts).length : Nat) : Int)], rfl, .tup (SqT.of (s9 _ _ h8)) (.cons (vT_dp (s9 _ _ h8')) (.cons (.int _) .nil)), .tup (SqT.of upd_same) (.cons (vT_dp (s9 _ _ (s48 _ _ g1))) (.cons ?_ .nil)), okD_two (dT_ok (by omega)) trivial, fun H10 s10 => ?_⟩
          · rw [lE]; exact .int _
          have s3' : Same H3 H10 := (s48.trans s9).trans s10
          replace g1 := s3' _ _ g1
          replace g2 := s3' _ _ g2
          replace g3 := s3' _ _ g3
          replace g4 := g4.keep s3'
          (repeat array_get_dec)
          refine ⟨mkS (allL ts), rfl, by rw [lE]; omega, fun H11 s11 => ?_⟩
          rw [er]
          have eT : decide ((ts, (allL ts).length).2 = (tl (mkS (allL ts))).length) = true := decide_eq_true rfl
          rw [eT]
          (repeat array_get_dec)
          refine ⟨mkS (allL ts), rfl, by rw [lE]; omega, fun H12 s12 => ?_⟩
          rw [er, if_pos (show (ts, (allL ts).length).2 = (tl (mkS (allL ts))).length from rfl)]
          (repeat array_get_dec)
          have s312 := s11.trans s12
          replace g1 := s312 _ _ g1
          replace g2 := s312 _ _ g2
          replace g3 := s312 _ _ g3
          replace g4 := g4.keep s312
          refine for_range (fun i σ H3 => ∃ v6 v7 v8 v9 v10 v11, σ = [some (.ref a), some (.ref p), some (.ref D), some (.ref R), some (.str (mkS (allL ts))), some (.ref S), v6, v7, v8, v9, v10, v11, none, none, none] ∧
            H3 D = some (.lst (vT ts)) ∧ H3 S = some (.lst (endsV ts (ts.length + 1))) ∧ PoolL H3 p l) ⟨_, _, _, _, _, _, rfl, g1, g3, g4⟩ ?_ ?_
          · clear g1 g2 g3 g4
            rintro i σ H3 hi ⟨v6, v7, v8, v9, v10, v11, rfl, g1, g3, g4⟩
            (repeat array_get_dec)
            refine ⟨p, l, _, rfl, g4, by omega, by omega, fun d H4 d0 d1 hP4 sb4 => ?_⟩
            obtain ⟨n, rfl⟩ := Int.eq_ofNat_of_zero_le d0
            have hn : n ≤ (allL ts).length := by omega
            replace g1 := sb4 _ _ nDp g1
            replace g3 := sb4 _ _ nSp g3
            (repeat array_get_dec)
            rw [cut_pre]
            intro W hW
            have nDW : D ≠ W := ne_of_none g1 hW
            have nSW : S ≠ W := ne_of_none g3 hW
            have nWp := hP4.ne hW
            have nWl := hP4.nel hW
            have hc := cnt_le ts n
            refine lc_range (fun i H' => H' W = some (.lst (vT (ts.take (min i (cnt ts n))))) ∧ ∀ b, b ≠ W → H' b = H4 b) ⟨by rw [Nat.zero_min]; exact upd_same, fun b hb => upd_ne hb⟩ ?_ ?_
            · rintro j H5 hj ⟨k1, k2⟩
              have hj' : j < ts.length := by rw [vl] at hj; omega
              have ht : ts[j]? = some ts[j] := by simp [hj']
              have a1 := vT_get ht
              have a5 : atI (endsV ts (ts.length + 1)) ((j : Int) + 1) = some (V.int ((szs ts (j + 1) : Nat) : Int)) := atI_nat (j := j + 1) (ends_get (by omega))
              have g1' : H5 D = some (.lst (vT ts)) := by rw [k2 _ nDW]; exact g1
              have g3' : H5 S = some (.lst (endsV ts (ts.length + 1))) := by rw [k2 _ nSW]; exact g3
              have key := cnt_iff ts n j hj'
              rw [Int.zero_add]
              (repeat array_get_dec)
              have smalls : (vT (ts.take (min j (cnt ts n)))).length < sizeLine := by rw [vT_len, List.length_take, sizeLine_eq]; omega
              refine ite2 (fun hcc => ?_) (fun hcc => ?_)
              · have hc' := key.mp (by have := of_decide_eq_true hcc; omega)
                (repeat array_get_dec)
                refine ⟨?_, fun b hb => by rw [upd_ne hb]; exact k2 b hb⟩
                rw [upd_same, show min (j + 1) (cnt ts n) = j + 1 by omega, show min j (cnt ts n) = j by omega, take_snoc ht]
                unfold vT
                rw [List.map_append]; rfl
              · have hc' : ¬ j < cnt ts n := fun z => hcc (decide_eq_true (by have := key.mpr z; omega))
                refine ⟨?_, k2⟩
                rw [show min (j + 1) (cnt ts n) = min j (cnt ts n) by omega]
                exact k1
            · rintro H5 ⟨k1, k2⟩
              rw [vl, Int.toNat_natCast, show min ts.length (cnt ts n) = cnt ts n by omega] at k1
              have s45 : Same H4 H5 := fun b o e => by rw [k2 b (ne_of_none e hW)]; exact e
              have a6 : atI (endsV ts (ts.length + 1)) (((cnt ts n : Nat)) : Int) = some (V.int ((szs ts (cnt ts n) : Nat) : Int)) := atI_nat (ends_get (by omega))
              have lw : (vT (ts.take (cnt ts n))).length = cnt ts n := by rw [vT_len, List.length_take]; omega
              have lS : (mkS ((tl (mkS (allL ts))).take n)).length = n := by rw [len_tl]; show ((allL ts).take n).length = n; rw [List.length_take]; omega
              have eR : readL (tl (mkS ((tl (mkS (allL ts))).take n))) = (ts.take (cnt ts n), szs ts (cnt ts n)) := read_cut ts n hT.2
              have lI := in_sizes (ts := ts) (a := n)
              have okW : dT (ts.take (cnt ts n)) = dT (ts.take (cnt ts n)) := rfl
              generalize mkS ((tl (mkS (allL ts))).take n) = x at *
              replace g1 := s45 _ _ g1
              replace g3 := s45 _ _ g3
              replace hP4 := hP4.keep s45
              have lx : x.length ≤ sizeLine := by rw [lS, sizeLine_eq]; omega
              (repeat array_get_dec)
              refine ⟨x, rfl, by omega, fun H6 p6 q6 s6 h6 h6' => ?_⟩
              rw [eR] at h6 h6'
              (repeat array_get_dec)
              rw [lw]
              (repeat array_get_dec)
              refine ⟨by show 2 ≤ sizeLine; decide, fun q7 hq7 => ?_⟩
              have s7 := same_upd (o := .tup [V.ref W, V.int ((szs ts (cnt ts n) : Nat) : Int)]) (Same.refl H6) hq7
              (repeat array_get_dec)
              refine ⟨_, _, .tuple [dT (ts.take (cnt ts n)), .int ((szs ts (cnt ts n) : Nat) : Int)], rfl, .tup (SqT.of (s7 _ _ h6)) (.cons (vT_dp (s7 _ _ h6')) (.cons (.int _) .nil)), .tup (SqT.of upd_same) (.cons (vT_dp (s7 _ _ (s6 _ _ k1))) (.cons (.int _) .nil)), okD_two (dT_ok (by rw [List.length_take]; omega)) trivial, fun H8 s8 => ?_⟩
              (repeat array_get_dec)
              intro l9 hl9
              (repeat array_get_dec)
              refine ⟨l9, ts, n, rfl, upd_same, hT, by rw [szs_full]; omega, fun H10 q10 s10 h10 => ?_⟩
              have s510 : Same H5 H10 := (((s6.trans s7).trans s8).trans (same_upd (Same.refl _) hl9)).trans s10
              (repeat array_get_dec)
              refine ⟨_, _, _, rfl, vT_dp h10, vT_dp (s510 _ _ k1), dT_ok (by rw [List.length_take]; omega), fun H11 s11 => ?_⟩
              (repeat array_get_dec)
              refine ⟨x, rfl, by omega, fun H12 s12 => ?_⟩
              have s512 : Same H5 H12 := (s510.trans s11).trans s12
              replace g1 := s512 _ _ g1
              replace g3 := s512 _ _ g3
              replace hP4 := hP4.keep s512
              (repeat array_get_dec)
              refine ⟨S, _, rfl, .inl (SqL.of g3), rfl, ends_flat _ _, ?_⟩
              rw [if_neg Bool.false_ne_true, lI, eR]
              have lx2 : (tl x).length = n := by rw [← len_tl, lS]
              dsimp only
              rw [lx2]
              (repeat array_get_dec)
              refine ⟨_, _, _, rfl, .bl _, .bl _, trivial, fun H13 s13 => ?_⟩
              (repeat array_get_dec)
              refine ⟨x, rfl, by omega, fun H14 s14 => ?_⟩
              rw [eR]
              dsimp only
              rw [lx2]
              have s514 := (s512.trans s13).trans s14
              have k14 := s514 _ _ k1
              replace g1 := s14 _ _ (s13 _ _ g1)
              replace g3 := s14 _ _ (s13 _ _ g3)
              replace hP4 := hP4.keep (s13.trans s14)
              (repeat array_get_dec)
              refine ⟨S, _, rfl, .inl (SqL.of g3), rfl, ends_flat _ _, ?_⟩
              rw [if_neg Bool.false_ne_true, lI]
              (repeat array_get_dec)
              refine ite_val (x := .non) (y := .int ((szs ts (cnt ts n) : Nat) : Int)) (H := H14) (fun Q h => h) (fun Q h => ?_) ?_
              · (repeat array_get_dec)
                rw [lw]
                (repeat array_get_dec)
                exact h
              simp only [decide_eq_true_eq]
              have hv : ∃ d, Dp K H14 (if szs ts (cnt ts n) = n then V.non else V.int ((szs ts (cnt ts n) : Nat) : Int)) d ∧ okD 3 d := by
                split
                · exact ⟨_, .non, trivial⟩
                · exact ⟨_, .int _, trivial⟩
              obtain ⟨d, hd1, hd2⟩ := hv
              (repeat array_get_dec)
              refine ⟨_, _, d, rfl, hd1, hd1, hd2, fun H15 s15 => ?_⟩
              replace g1 := s15 _ _ g1
              replace g3 := s15 _ _ g3
              replace hP4 := hP4.keep s15
              (repeat array_get_dec)
              have hA5 := allL_le ts fun t ht => (hg t ht).1
              have hx5 : x.length ≤ 150 := by omega
              have hE5 : (mkS (allL ts)).length ≤ 150 := by omega
              refine w_addS (fit_add (fit_cut hx5) (Nat.le_refl _) (by decide)) ?_
              (repeat array_get_dec)
              refine w_addS (fit_add hx5 (Nat.le_refl _) (by decide)) ?_
              (repeat array_get_dec)
              refine w_addS (fit_add (fit_cut hE5) (Nat.le_refl _) (by decide)) ?_
              (repeat array_get_dec)
              refine w_addS (fit_add (fit_app (fit_cut hE5) (Nat.le_refl _) (Nat.le_refl _)) (fit_cut hE5) (by decide)) ?_
              (repeat array_get_dec)
              refine w_addS (fit_add (fit_cut hE5) (fit_cut hE5) (by decide)) ?_
              (repeat array_get_dec)
              refine w_addS (fit_add (Nat.le_refl _) hE5 (by decide)) ?_
              (repeat array_get_dec)
              refine ⟨by show 6 ≤ sizeLine; decide, fun q16 hq16 => ?_⟩
              (repeat array_get_dec)
              have hP16 : ∀ o, PoolL (upd H15 q16 o) p l := fun o => hP4.new hq16
              refine ⟨p, q16, l, _, rfl, hP16 _, upd_same, hP4.ne hq16, by show 1 ≤ 6; decide, by show 6 ≤ sizeLine; decide, fun v H17 hv hP17 sb17 => ?_⟩
              have hy : ∃ y : Str, v = .str y ∧ y.length ≤ 310 := by
                simp only [List.mem_cons, List.not_mem_nil, or_false] at hv
                rcases hv with rfl | rfl | rfl | rfl | rfl | rfl
                · exact ⟨_, rfl, fit_app (fit_cut hx5) (Nat.le_refl _) (by decide)⟩
                · exact ⟨_, rfl, fit_app hx5 (Nat.le_refl _) (by decide)⟩
                · exact ⟨_, rfl, fit_app (fit_app (fit_cut hE5) (Nat.le_refl _) (Nat.le_refl _)) (fit_cut hE5) (by decide)⟩
                · exact ⟨_, rfl, fit_app (fit_cut hE5) (fit_cut hE5) (by decide)⟩
                · exact ⟨_, rfl, fit_app (Nat.le_refl _) hE5 (by decide)⟩
                · exact ⟨_, rfl, fit_cut (by omega)⟩
              obtain ⟨y, rfl, hy⟩ := hy
              have g1' := sb17 _ _ nDp (upd_atN hq16 g1)
              have g3' := sb17 _ _ nSp (upd_atN hq16 g3)
              (repeat array_get_dec)
              refine ⟨y, rfl, by omega, fun H18 p18 q18 s18 h18 h18' => ?_⟩
              (repeat array_get_dec)
              refine ⟨y, rfl, by omega, fun H19 p19 q19 s19 h19 h19' => ?_⟩
              have k18 := s19 _ _ h18
              have a18 : atI [V.ref q18, V.int (((readL (tl y)).2 : Nat) : Int)] 0 = some (V.ref q18) := rfl
              (repeat array_get_dec)
              refine ⟨by show 2 ≤ sizeLine; decide, fun q20 hq20 => ?_⟩
              have s20 := same_upd (o := .tup [V.ref q18, V.int (((readL (tl y)).2 : Nat) : Int)]) (Same.refl H19) hq20
              have lR := readL_le (tl y).length (tl y) (Nat.le_refl _)
              (repeat array_get_dec)
              refine ⟨_, _, .tuple [dT (readL (tl y)).1, .int (((readL (tl y)).2 : Nat) : Int)], rfl, .tup (SqT.of (s20 _ _ h19)) (.cons (vT_dp (s20 _ _ h19')) (.cons (.int _) .nil)), .tup (SqT.of upd_same) (.cons (vT_dp (s20 _ _ (s19 _ _ h18'))) (.cons (.int _) .nil)), okD_two ⟨?_, ?_⟩ trivial, fun H21 s21 => ?_⟩
              · rw [List.length_map]; rw [len_tl] at hy; omega
              · intro e he
                obtain ⟨t, _, rfl⟩ := List.mem_map.mp he
                trivial
              (repeat array_get_dec)
              have s1821 := ((s18.trans s19).trans s20).trans s21
              exact ⟨_, _, _, _, _, _, rfl, s1821 _ _ g1', s1821 _ _ g3', hP17.keep s1821⟩
          · rintro σ H3 ⟨v6, v7, v8, v9, v10, v11, rfl, g1, g3, g4⟩
            (repeat array_get_dec)
            refine ⟨by show 5 ≤ sizeLine; decide, fun q hq => ?_⟩
            (repeat array_get_dec)
            refine for_list (K := K) (a := q) (xs := [V.str (Str.ofString "?"), V.str (Str.ofString "a?b"), V.str (Str.ofString "\t"), V.int 5, V.non]) (fun i σ H4 => ∃ v12, σ = [some (.ref a), some (.ref p), some (.ref D), some (.ref R), some (.str (mkS (allL ts))), some (.ref S), v6, v7, v8, v9, v10, v11, v12, none, none] ∧
              H4 D = some (.lst (vT ts)) ∧ H4 q = some (.lst [V.str (Str.ofString "?"), V.str (Str.ofString "a?b"), V.str (Str.ofString "\t"), V.int 5, V.non])) ⟨_, rfl, upd_atN hq g1, upd_same⟩ ?_ ?_ ?_
            · rintro i σ H4 _ ⟨v12, rfl, k1, k2⟩
              exact SqL.of k2
            · rintro i y σ H4 hy ⟨v12, rfl, k1, k2⟩
              (repeat array_get_dec)
              have cs : (∃ x : Str, y = .str x ∧ x.length ≤ 1000000 ∧ ¬ goodT (tl x)) ∨ y = .non ∨ ∃ i, y = .int i := by
                match i, hy with
                | 0, hy => cases hy; exact .inl ⟨_, rfl, by decide, notGood (by decide +kernel)⟩
                | 1, hy => cases hy; exact .inl ⟨_, rfl, by decide, notGood (by decide +kernel)⟩
                | 2, hy => cases hy; exact .inl ⟨_, rfl, by decide, notGood (by decide +kernel)⟩
                | 3, hy => cases hy; exact .inr (.inr ⟨_, rfl⟩)
                | 4, hy => cases hy; exact .inr (.inl rfl)
                | i + 5, hy => cases hy
              refine ⟨_, _, _, rfl, .inl ⟨.inl rfl, cs⟩, fun H5 s5 => ?_⟩
              (repeat array_get_dec)
              refine ⟨_, _, _, rfl, .inl ⟨.inr rfl, cs⟩, fun H6 s6 => ?_⟩
              (repeat array_get_dec)
              exact ⟨_, rfl, s6 _ _ (s5 _ _ k1), s6 _ _ (s5 _ _ k2)⟩
            · rintro σ H4 ⟨v12, rfl, k1, k2⟩
              (repeat array_get_dec)
              refine ⟨_, _, _, rfl, .inr ⟨rfl, D, ts, rfl, k1, hT, .inr ⟨_, rfl, .inl (by decide)⟩⟩, fun H5 s5 => ?_⟩
              (repeat array_get_dec)
              refine ⟨_, _, _, rfl, .inr ⟨rfl, D, ts, rfl, s5 _ _ k1, hT, .inr ⟨_, rfl, .inr (by rw [lE, szs_full]; omega)⟩⟩, fun H6 s6 => ?_⟩
              (repeat array_get_dec)
              refine ⟨_, _, _, rfl, .inr ⟨rfl, D, ts, rfl, s6 _ _ (s5 _ _ k1), hT, .inl rfl⟩, fun H7 s7 => ?_⟩
              (repeat array_get_dec)
              exact kQ _
end
end K51

namespace K51
open PySem PySem.Spec PyProof.Rows L2
/-! ### what the top has written, the head -/
theorem all_mk {P : Program} {w : World} {K : PySem.W.Frag} {h : Heap} {mg : Str → Option Value} {fa f1 f2 f3 f4 f5 f6 f7 f8 f9 f10 f11 f12 f13 f14 f15 f16 f17 f18 f19 f20 f21 CD C : Addr} (X : K.In h) (G : h.Ns mainGlobals mg) (hfa : mg "law" = some (.ref fa))
    {od1 an1 od2 an2 od3 an3 od4 an4 od5 an5 od6 an6 od7 an7 od8 an8 od9 an9 od10 an10 od11 an11 od12 an12 od13 an13 od14 an14 od15 an15 od16 an16 od17 an17 od18 an18 od19 an19 od20 an20 od21 an21 : Option Addr} {sl1 sl2 sl3 sl4 sl5 sl6 sl7 sl8 sl9 sl10 sl11 sl12 sl13 sl14 sl15 sl16 sl17 sl18 sl19 sl20 sl21 : Array (Option Value)} {oc1 kV1 dc1 pm1 cd1 ct1 oc2 kV2 dc2 pm2 cd2 ct2 oc3 kV3 dc3 pm3 cd3 ct3 oc4 kV4 dc4 pm4 cd4 ct4 oc5 kV5 dc5 pm5 cd5 ct5 oc6 kV6 dc6 pm6 cd6 ct6 oc7 kV7 dc7 pm7 cd7 ct7 oc8 kV8 dc8 pm8 cd8 ct8 oc9 kV9 dc9 pm9 cd9 ct9 oc10 kV10 dc10 pm10 cd10 ct10 oc11 kV11 dc11 pm11 cd11 ct11 oc12 kV12 dc12 pm12 cd12 ct12 oc13 kV13 dc13 pm13 cd13 ct13 oc14 kV14 dc14 pm14 cd14 ct14 oc15 kV15 dc15 pm15 cd15 ct15 oc16 kV16 dc16 pm16 cd16 ct16 oc17 kV17 dc17 pm17 cd17 ct17 oc18 kV18 dc18 pm18 cd18 ct18 oc19 kV19 dc19 pm19 cd19 ct19 oc20 kV20 dc20 pm20 cd20 ct20 oc21 kV21 dc21 pm21 cd21 ct21 : Value}
    {t_GREAT t_STEP t_MOST : Tok}
    (a1 : PySem.W.nsIn K mainGlobals "check_of" = some (some (.ref f1)))
    (l1 : K.lookup f1 = some ⟨oc1, od1, .func (PySem.W.fnOf "check_of" "check_of" (defArgs sCheck) (defBody sCheck) (defScope sCheck) .none kV1 dc1 pm1 an1 cd1 ct1), sl1⟩)
    (c1 : PySem.W.codeIn K cd1 "check_of" = true)
    (k1 : PySem.W.keepIn K (.ref f1) = true)
    (a2 : PySem.W.nsIn K mainGlobals "checked_text" = some (some (.ref f2)))
    (l2 : K.lookup f2 = some ⟨oc2, od2, .func (PySem.W.fnOf "checked_text" "checked_text" (defArgs sChecked) (defBody sChecked) (defScope sChecked) .none kV2 dc2 pm2 an2 cd2 ct2), sl2⟩)
    (c2 : PySem.W.codeIn K cd2 "checked_text" = true)
    (k2 : PySem.W.keepIn K (.ref f2) = true)
    (a3 : PySem.W.nsIn K mainGlobals "framed" = some (some (.ref f3)))
    (l3 : K.lookup f3 = some ⟨oc3, od3, .func (PySem.W.fnOf "framed" "framed" (defArgs sFramed) (defBody sFramed) (defScope sFramed) .none kV3 dc3 pm3 an3 cd3 ct3), sl3⟩)
    (c3 : PySem.W.codeIn K cd3 "framed" = true)
    (k3 : PySem.W.keepIn K (.ref f3) = true)
    (a4 : PySem.W.nsIn K mainGlobals "framed_all" = some (some (.ref f4)))
    (l4 : K.lookup f4 = some ⟨oc4, od4, .func (PySem.W.fnOf "framed_all" "framed_all" (defArgs sFAll) (defBody sFAll) (defScope sFAll) .none kV4 dc4 pm4 an4 cd4 ct4), sl4⟩)
    (c4 : PySem.W.codeIn K cd4 "framed_all" = true)
    (k4 : PySem.W.keepIn K (.ref f4) = true)
    (a5 : PySem.W.nsIn K mainGlobals "_number" = some (some (.ref f5)))
    (l5 : K.lookup f5 = some ⟨oc5, od5, .func (PySem.W.fnOf "_number" "_number" (defArgs sNumber) (defBody sNumber) (defScope sNumber) .none kV5 dc5 pm5 an5 cd5 ct5), sl5⟩)
    (c5 : PySem.W.codeIn K cd5 "_number" = true)
    (k5 : PySem.W.keepIn K (.ref f5) = true)
    (a6 : PySem.W.nsIn K mainGlobals "one_frame" = some (some (.ref f6)))
    (l6 : K.lookup f6 = some ⟨oc6, od6, .func (PySem.W.fnOf "one_frame" "one_frame" (defArgs sOneF) (defBody sOneF) (defScope sOneF) .none kV6 dc6 pm6 an6 cd6 ct6), sl6⟩)
    (c6 : PySem.W.codeIn K cd6 "one_frame" = true)
    (k6 : PySem.W.keepIn K (.ref f6) = true)
    (a7 : PySem.W.nsIn K mainGlobals "read_frames" = some (some (.ref f7)))
    (l7 : K.lookup f7 = some ⟨oc7, od7, .func (PySem.W.fnOf "read_frames" "read_frames" (defArgs sRead) (defBody sRead) (defScope sRead) .none kV7 dc7 pm7 an7 cd7 ct7), sl7⟩)
    (c7 : PySem.W.codeIn K cd7 "read_frames" = true)
    (k7 : PySem.W.keepIn K (.ref f7) = true)
    (a8 : PySem.W.nsIn K mainGlobals "is_whole" = some (some (.ref f8)))
    (l8 : K.lookup f8 = some ⟨oc8, od8, .func (PySem.W.fnOf "is_whole" "is_whole" (defArgs sWhole) (defBody sWhole) (defScope sWhole) .none kV8 dc8 pm8 an8 cd8 ct8), sl8⟩)
    (c8 : PySem.W.codeIn K cd8 "is_whole" = true)
    (k8 : PySem.W.keepIn K (.ref f8) = true)
    (a9 : PySem.W.nsIn K mainGlobals "first_gap" = some (some (.ref f9)))
    (l9 : K.lookup f9 = some ⟨oc9, od9, .func (PySem.W.fnOf "first_gap" "first_gap" (defArgs sGap) (defBody sGap) (defScope sGap) .none kV9 dc9 pm9 an9 cd9 ct9), sl9⟩)
    (c9 : PySem.W.codeIn K cd9 "first_gap" = true)
    (k9 : PySem.W.keepIn K (.ref f9) = true)
    (a10 : PySem.W.nsIn K mainGlobals "ends" = some (some (.ref f10)))
    (l10 : K.lookup f10 = some ⟨oc10, od10, .func (PySem.W.fnOf "ends" "ends" (defArgs sEnds) (defBody sEnds) (defScope sEnds) .none kV10 dc10 pm10 an10 cd10 ct10), sl10⟩)
    (c10 : PySem.W.codeIn K cd10 "ends" = true)
    (k10 : PySem.W.keepIn K (.ref f10) = true)
    (a11 : PySem.W.nsIn K mainGlobals "left_of" = some (some (.ref f11)))
    (l11 : K.lookup f11 = some ⟨oc11, od11, .func (PySem.W.fnOf "left_of" "left_of" (defArgs sLeft) (defBody sLeft) (defScope sLeft) .none kV11 dc11 pm11 an11 cd11 ct11), sl11⟩)
    (c11 : PySem.W.codeIn K cd11 "left_of" = true)
    (k11 : PySem.W.keepIn K (.ref f11) = true)
    (a12 : PySem.W.nsIn K mainGlobals "_law_same" = some (some (.ref f12)))
    (l12 : K.lookup f12 = some ⟨oc12, od12, .func (PySem.W.fnOf "_law_same" "_law_same" (defArgs sSame) (defBody sSame) (defScope sSame) .none kV12 dc12 pm12 an12 cd12 ct12), sl12⟩)
    (c12 : PySem.W.codeIn K cd12 "_law_same" = true)
    (k12 : PySem.W.keepIn K (.ref f12) = true)
    (a13 : PySem.W.nsIn K mainGlobals "_law_pool" = some (some (.ref f13)))
    (l13 : K.lookup f13 = some ⟨oc13, od13, .func (PySem.W.fnOf "_law_pool" "_law_pool" (defArgs sPool) (defBody sPool) (defScope sPool) .none kV13 dc13 pm13 an13 cd13 ct13), sl13⟩)
    (c13 : PySem.W.codeIn K cd13 "_law_pool" = true)
    (k13 : PySem.W.keepIn K (.ref f13) = true)
    (a14 : PySem.W.nsIn K mainGlobals "_law_draw" = some (some (.ref f14)))
    (l14 : K.lookup f14 = some ⟨oc14, od14, .func (PySem.W.fnOf "_law_draw" "_law_draw" (defArgs sDraw) (defBody sDraw) (defScope sDraw) .none kV14 dc14 pm14 an14 cd14 ct14), sl14⟩)
    (c14 : PySem.W.codeIn K cd14 "_law_draw" = true)
    (k14 : PySem.W.keepIn K (.ref f14) = true)
    (a15 : PySem.W.nsIn K mainGlobals "_law_pick" = some (some (.ref f15)))
    (l15 : K.lookup f15 = some ⟨oc15, od15, .func (PySem.W.fnOf "_law_pick" "_law_pick" (defArgs sPick) (defBody sPick) (defScope sPick) .none kV15 dc15 pm15 an15 cd15 ct15), sl15⟩)
    (c15 : PySem.W.codeIn K cd15 "_law_pick" = true)
    (k15 : PySem.W.keepIn K (.ref f15) = true)
    (a16 : PySem.W.nsIn K mainGlobals "_law_check" = some (some (.ref f16)))
    (l16 : K.lookup f16 = some ⟨oc16, od16, .func (PySem.W.fnOf "_law_check" "_law_check" (defArgs sLCheck) (defBody sLCheck) (defScope sLCheck) .none kV16 dc16 pm16 an16 cd16 ct16), sl16⟩)
    (c16 : PySem.W.codeIn K cd16 "_law_check" = true)
    (k16 : PySem.W.keepIn K (.ref f16) = true)
    (a17 : PySem.W.nsIn K mainGlobals "_law_text" = some (some (.ref f17)))
    (l17 : K.lookup f17 = some ⟨oc17, od17, .func (PySem.W.fnOf "_law_text" "_law_text" (defArgs sLText) (defBody sLText) (defScope sLText) .none kV17 dc17 pm17 an17 cd17 ct17), sl17⟩)
    (c17 : PySem.W.codeIn K cd17 "_law_text" = true)
    (k17 : PySem.W.keepIn K (.ref f17) = true)
    (a18 : PySem.W.nsIn K mainGlobals "_law_frame" = some (some (.ref f18)))
    (l18 : K.lookup f18 = some ⟨oc18, od18, .func (PySem.W.fnOf "_law_frame" "_law_frame" (defArgs sLFrame) (defBody sLFrame) (defScope sLFrame) .none kV18 dc18 pm18 an18 cd18 ct18), sl18⟩)
    (c18 : PySem.W.codeIn K cd18 "_law_frame" = true)
    (k18 : PySem.W.keepIn K (.ref f18) = true)
    (a19 : PySem.W.nsIn K mainGlobals "_law_read" = some (some (.ref f19)))
    (l19 : K.lookup f19 = some ⟨oc19, od19, .func (PySem.W.fnOf "_law_read" "_law_read" (defArgs sLRead) (defBody sLRead) (defScope sLRead) .none kV19 dc19 pm19 an19 cd19 ct19), sl19⟩)
    (c19 : PySem.W.codeIn K cd19 "_law_read" = true)
    (k19 : PySem.W.keepIn K (.ref f19) = true)
    (a20 : PySem.W.nsIn K mainGlobals "_law_refused" = some (some (.ref f20)))
    (l20 : K.lookup f20 = some ⟨oc20, od20, .func (PySem.W.fnOf "_law_refused" "_law_refused" (defArgs sRefused) (defBody sRefused) (defScope sRefused) .none kV20 dc20 pm20 an20 cd20 ct20), sl20⟩)
    (c20 : PySem.W.codeIn K cd20 "_law_refused" = true)
    (k20 : PySem.W.keepIn K (.ref f20) = true)
    (a21 : PySem.W.nsIn K mainGlobals "law" = some (some (.ref f21)))
    (l21 : K.lookup f21 = some ⟨oc21, od21, .func (PySem.W.fnOf "law" "law" (defArgs sLaw) (defBody sLaw) (defScope sLaw) .none kV21 dc21 pm21 an21 cd21 ct21), sl21⟩)
    (c21 : PySem.W.codeIn K cd21 "law" = true)
    (k21 : PySem.W.keepIn K (.ref f21) = true)
    (z_len : PySem.W.nsIn K mainGlobals "len" = some none)
    (z_isinstance : PySem.W.nsIn K mainGlobals "isinstance" = some none)
    (z_str : PySem.W.nsIn K mainGlobals "str" = some none)
    (z_int : PySem.W.nsIn K mainGlobals "int" = some none)
    (z_list : PySem.W.nsIn K mainGlobals "list" = some none)
    (z_tuple : PySem.W.nsIn K mainGlobals "tuple" = some none)
    (z_bool : PySem.W.nsIn K mainGlobals "bool" = some none)
    (z_range : PySem.W.nsIn K mainGlobals "range" = some none)
    (z_abs : PySem.W.nsIn K mainGlobals "abs" = some none)
    (z_ord : PySem.W.nsIn K mainGlobals "ord" = some none)
    (z_ValueError : PySem.W.nsIn K mainGlobals "ValueError" = some none)
    (n_GREAT : PySem.W.nsIn K mainGlobals "GREAT" = some (some (.int 1000003 t_GREAT)))
    (n_STEP : PySem.W.nsIn K mainGlobals "STEP" = some (some (.int 8191 t_STEP)))
    (n_MOST : PySem.W.nsIn K mainGlobals "MOST" = some (some (.int 1000000 t_MOST)))
    (aD : PySem.W.nsIn K mainGlobals "DeskError" = some (some (.ref CD)))
    (bD : PySem.W.subIn K (.ref CD) (.type "BaseException") = some true)
    (tD : PySem.W.typeIn K (.ref CD) = some (.type "type"))
    (hD : PySem.W.hasDictIn K CD = true)
    (a_C : PySem.W.nsIn K mainGlobals "InvalidPaper" = some (some (.ref C)))
    (x_C : PySem.W.excIn K C [.type "ValueError", .type "Exception", .type "BaseException", .type "object"] "ValueError.__new__" = true)
    (k_C : PySem.W.keepIn K (.ref C) = true)
    (b_C : PySem.W.subIn K (.ref C) (.type "BaseException") = some true)
    (t_C : PySem.W.typeIn K (.ref C) = some (.type "type"))
    (sD_C : PySem.W.subIn K (.ref C) (.ref CD) = some true)
    (sV_C : PySem.W.subIn K (.ref C) (.type "ValueError") = some true)
    (eg_C : PySem.W.findIn K (.ref C) "__getattribute__" = some (some (.builtin "BaseException.__getattribute__")))
    (ek_C : PySem.W.findIn K (.ref C) "__getattr__" = some none)
    (ed_C : PySem.W.hasDictIn K C = true)
    (ea_C : PySem.W.findIn K (.ref C) "__class__" = some (some (.builtin "object.__class__")))
    (en_C : PySem.W.specialIn K (.builtin "object.__class__") "__get__" = some (some (.builtin "getset_descriptor.__get__")))
    (et_C : PySem.W.takesIn K (.builtin "object.__class__") = some true)
    (em_C : PySem.W.mroIn K C (.type "object") = some true)
    : ∃ fd : FuncData, (∀ (s : Shared) (v : Value), BindsTo s fd ⟨[v], []⟩ [("script", v)]) ∧ ∀ base : Heap, K.In base → base.Ns mainGlobals mg → FnOk P w K mg base CX0 6 fa fd ["script"] (spLaw K) := by
  have e := hfa.symm.trans (PySem.W.mg_of X G a21)
  cases e
  have T : Blt mg := ⟨PySem.W.mg_none_of X G z_len, PySem.W.mg_none_of X G z_isinstance, PySem.W.mg_none_of X G z_str, PySem.W.mg_none_of X G z_int, PySem.W.mg_none_of X G z_list, PySem.W.mg_none_of X G z_tuple, PySem.W.mg_none_of X G z_bool, PySem.W.mg_none_of X G z_range, PySem.W.mg_none_of X G z_abs, PySem.W.mg_none_of X G z_ord⟩
  have X_C : ErrT K mg C := ⟨PySem.W.mg_of X G a_C, x_C, k_C, b_C, t_C⟩
  have kV_C : PySem.W.kitOne K (.ref C) (.type "ValueError") = some true := by
    show (if (Value.ref C == Value.type "ValueError") = true then some true else PySem.W.kitCls K (.ref C) (.type "ValueError")) = some true
    rw [show (Value.ref C == Value.type "ValueError") = false from rfl, if_neg Bool.false_ne_true]
    show (if PySem.W.kitMeta "ValueError" = true then PySem.W.subIn K (.ref C) (.type "ValueError") else none) = some true
    rw [if_pos (show PySem.W.kitMeta "ValueError" = true by decide +kernel)]
    exact sV_C
  have kC_C : PySem.W.kitOne K (.ref C) (.ref C) = some true := if_pos (by simp)
  have Y_C : CatchT K mg CD C := ⟨PySem.W.mg_of X G aD, PySem.W.exm_ref bD hD tD sD_C, ⟨eg_C, ek_C, b_C, ed_C, ea_C, en_C, et_C, em_C⟩, kC_C, kV_C, PySem.W.mg_none_of X G z_ValueError⟩
  have F1 := fun_mk (st := sCheck) l1 c1 k1
  have b1 := F1.binds (ps := ["text"]) fun _ _ _ _ _ _ us hl => match us, hl with | [_], _ => rfl
  have F2 := fun_mk (st := sChecked) l2 c2 k2
  have b2 := F2.binds (ps := ["text"]) fun _ _ _ _ _ _ us hl => match us, hl with | [_], _ => rfl
  have F3 := fun_mk (st := sFramed) l3 c3 k3
  have b3 := F3.binds (ps := ["text"]) fun _ _ _ _ _ _ us hl => match us, hl with | [_], _ => rfl
  have F4 := fun_mk (st := sFAll) l4 c4 k4
  have b4 := F4.binds (ps := ["texts"]) fun _ _ _ _ _ _ us hl => match us, hl with | [_], _ => rfl
  have F5 := fun_mk (st := sNumber) l5 c5 k5
  have b5 := F5.binds (ps := ["text", "at"]) fun _ _ _ _ _ _ us hl => match us, hl with | [_, _], _ => rfl
  have F6 := fun_mk (st := sOneF) l6 c6 k6
  have b6 := F6.binds (ps := ["text", "at"]) fun _ _ _ _ _ _ us hl => match us, hl with | [_, _], _ => rfl
  have F7 := fun_mk (st := sRead) l7 c7 k7
  have b7 := F7.binds (ps := ["text"]) fun _ _ _ _ _ _ us hl => match us, hl with | [_], _ => rfl
  have F8 := fun_mk (st := sWhole) l8 c8 k8
  have b8 := F8.binds (ps := ["text"]) fun _ _ _ _ _ _ us hl => match us, hl with | [_], _ => rfl
  have F9 := fun_mk (st := sGap) l9 c9 k9
  have b9 := F9.binds (ps := ["text"]) fun _ _ _ _ _ _ us hl => match us, hl with | [_], _ => rfl
  have F10 := fun_mk (st := sEnds) l10 c10 k10
  have b10 := F10.binds (ps := ["texts"]) fun _ _ _ _ _ _ us hl => match us, hl with | [_], _ => rfl
  have F11 := fun_mk (st := sLeft) l11 c11 k11
  have b11 := F11.binds (ps := ["texts", "signs"]) fun _ _ _ _ _ _ us hl => match us, hl with | [_, _], _ => rfl
  have F12 := fun_mk (st := sSame) l12 c12 k12
  have b12 := F12.binds (ps := ["actual", "due"]) fun _ _ _ _ _ _ us hl => match us, hl with | [_, _], _ => rfl
  have F13 := fun_mk (st := sPool) l13 c13 k13
  have b13 := F13.binds (ps := ["script"]) fun _ _ _ _ _ _ us hl => match us, hl with | [_], _ => rfl
  have F14 := fun_mk (st := sDraw) l14 c14 k14
  have b14 := F14.binds (ps := ["pool", "many"]) fun _ _ _ _ _ _ us hl => match us, hl with | [_, _], _ => rfl
  have F15 := fun_mk (st := sPick) l15 c15 k15
  have b15 := F15.binds (ps := ["pool", "rows"]) fun _ _ _ _ _ _ us hl => match us, hl with | [_, _], _ => rfl
  have F16 := fun_mk (st := sLCheck) l16 c16 k16
  have b16 := F16.binds (ps := ["text"]) fun _ _ _ _ _ _ us hl => match us, hl with | [_], _ => rfl
  have F17 := fun_mk (st := sLText) l17 c17 k17
  have b17 := F17.binds (ps := ["pool"]) fun _ _ _ _ _ _ us hl => match us, hl with | [_], _ => rfl
  have F18 := fun_mk (st := sLFrame) l18 c18 k18
  have b18 := F18.binds (ps := ["text"]) fun _ _ _ _ _ _ us hl => match us, hl with | [_], _ => rfl
  have F19 := fun_mk (st := sLRead) l19 c19 k19
  have b19 := F19.binds (ps := ["text"]) fun _ _ _ _ _ _ us hl => match us, hl with | [_], _ => rfl
  have F20 := fun_mk (st := sRefused) l20 c20 k20
  have b20 := F20.binds (ps := ["choice", "one", "two"]) fun _ _ _ _ _ _ us hl => match us, hl with | [_, _, _], _ => rfl
  have F21 := fun_mk (st := sLaw) l21 c21 k21
  refine ⟨PySem.W.fnOf "law" "law" (defArgs sLaw) (defBody sLaw) (defScope sLaw) .none kV21 dc21 pm21 an21 cd21 ct21, fun s v => .of_eq rfl, fun base _ _ => ?_⟩
  have GC : Con51 mg := ⟨⟨_, PySem.W.mg_of X G n_GREAT⟩, ⟨_, PySem.W.mg_of X G n_STEP⟩, ⟨_, PySem.W.mg_of X G n_MOST⟩⟩
  have Ocheck := ok_check (P := P) (w := w) (base := base) F1 T GC
  have Olcheck := ok_lcheck (P := P) (w := w) (base := base) F16 T
  have Ochk := ok_chk (P := P) (w := w) (base := base) F2 T GC
  have OchkX := ok_chkX (P := P) (w := w) (base := base) F2 T X_C GC
  have Ofrm := ok_frm F3 T Ochk (PySem.W.mg_of X G a2) k2 b2 Ocheck (PySem.W.mg_of X G a1) k1 b1
  have OfrmX := ok_frmX F3 T OchkX (PySem.W.mg_of X G a2) k2 b2
  have Olfrm := ok_lfrm F18 T Olcheck (PySem.W.mg_of X G a16) k16 b16
  have Onum := ok_number (P := P) (w := w) (base := base) F5 T
  have Oone := ok_oneF F6 T GC Onum (PySem.W.mg_of X G a5) k5 b5 Ocheck (PySem.W.mg_of X G a1) k1 b1
  have Oread := ok_read F7 T Oone (PySem.W.mg_of X G a6) k6 b6
  have Owhole := ok_whole F8 T Oread (PySem.W.mg_of X G a7) k7 b7
  have Ogap := ok_gap F9 T Oread (PySem.W.mg_of X G a7) k7 b7
  have Ofall := ok_fall F4 T Ofrm (PySem.W.mg_of X G a3) k3 b3
  have Oends := ok_ends F10 T Ofrm (PySem.W.mg_of X G a3) k3 b3
  have Oleft := ok_left F11 T Oends (PySem.W.mg_of X G a10) k10 b10
  have OleftX := ok_leftX F11 T X_C Oends (PySem.W.mg_of X G a10) k10 b10
  have Opool := ok_pool (P := P) (w := w) (base := base) F13 T
  have Odraw := ok_draw (P := P) (w := w) (base := base) F14 T
  have Opick := ok_pick F15 T Odraw (PySem.W.mg_of X G a14) k14 b14
  have Osame := ok_same (P := P) (w := w) (base := base) F12 T (PySem.W.mg_of X G a12) k12 b12 3
  have Otext := ok_ltext F17 T Odraw (PySem.W.mg_of X G a14) k14 b14
  have Olread := ok_lread F19 T Olcheck (PySem.W.mg_of X G a16) k16 b16
  have Oref := ok_refused F20 T X_C Y_C OchkX (PySem.W.mg_of X G a2) k2 b2 OfrmX (PySem.W.mg_of X G a3) k3 b3 OleftX (PySem.W.mg_of X G a11) k11 b11
  exact ok_law F21 T ⟨PySem.W.mg_of X G a13, k13, b13, PySem.W.mg_of X G a14, k14, b14, PySem.W.mg_of X G a15, k15, b15, PySem.W.mg_of X G a17, k17, b17, PySem.W.mg_of X G a18, k18, b18, PySem.W.mg_of X G a12, k12, b12, PySem.W.mg_of X G a3, k3, b3, PySem.W.mg_of X G a1, k1, b1, PySem.W.mg_of X G a16, k16, b16, PySem.W.mg_of X G a2, k2, b2, PySem.W.mg_of X G a6, k6, b6, PySem.W.mg_of X G a4, k4, b4, PySem.W.mg_of X G a10, k10, b10, PySem.W.mg_of X G a7, k7, b7, PySem.W.mg_of X G a8, k8, b8, PySem.W.mg_of X G a9, k9, b9, PySem.W.mg_of X G a11, k11, b11, PySem.W.mg_of X G a19, k19, b19, PySem.W.mg_of X G a20, k20, b20⟩
    Opool Odraw Opick Otext Olfrm Osame Ofrm Ocheck Olcheck Ochk Oone Ofall Oends Oread Owhole Ogap Oleft Olread Oref
theorem walk {l : PySem.W.OpenLaw} {q : Program} {loose : List Str} {XP : (Str → Option Value) → Heap → Prop} {YP : World → Heap → Prop} {d : DefRec} {K : Params → PySem.W.Frag} (hn : l.most = some 63) (hdf : d.params.defaults = [])
    (hY : ∀ (w : World) (h : Heap), YP w h → (K w.params).In h)
    (F : ∀ (w : World) (mg : Str → Option Value) (fa : Addr) (h : Heap), (K w.params).In h → h.Ns mainGlobals mg → mg d.name = some (.ref fa) →
      ∃ fd : FuncData, (∀ (s : Shared) (u : Value), BindsTo s fd ⟨[u], []⟩ [("script", u)]) ∧ ∀ base : Heap, (K w.params).In base → base.Ns mainGlobals mg → FnOk l.prog w (K w.params) mg base CX0 6 fa fd ["script"] (spLaw (K w.params))) :
    PySem.W.WalkO q loose XP YP l.row.toRowW d [] (fun f vs => PySem.call f vs) :=
  L2.walk_of (n := 63) (k := 6) (x := "script") (CX := fun _ => CX0) (sp := fun w => spLaw (K w.params)) hn (by decide) hdf ⟨rfl, by decide, by decide⟩ hY F (fun _ _ a ns hl _ hS => ⟨a, ns, rfl, hS, hl, fun _ => rfl⟩) fun _ _ _ _ _ z => z
end K51

open PySem PySem.W PyProof.Rows in
set_option maxRecDepth 100000 in
set_option maxHeartbeats 0 in
theorem PySem.Challenge.cw_desksagree_k51_frames_and_torn_ends_holds : PySem.Challenge.rw_desksagree_k51_frames_and_torn_ends.Holds := by
  w_on; o_law; k_head; (case hw => w_witness2)
  k_fill
  refine K51.walk (l := PySem.Challenge.rw_desksagree_k51_frames_and_torn_ends) rfl rfl (fun w h Y => PySem.W.kIn_of Y) ?F
  case F =>
    intro w mg fa h KX G hmg
    refine' K51.all_mk KX G hmg ?a1 ?l1 ?c1 ?k1 ?a2 ?l2 ?c2 ?k2 ?a3 ?l3 ?c3 ?k3 ?a4 ?l4 ?c4 ?k4 ?a5 ?l5 ?c5 ?k5 ?a6 ?l6 ?c6 ?k6 ?a7 ?l7 ?c7 ?k7 ?a8 ?l8 ?c8 ?k8 ?a9 ?l9 ?c9 ?k9 ?a10 ?l10 ?c10 ?k10 ?a11 ?l11 ?c11 ?k11 ?a12 ?l12 ?c12 ?k12 ?a13 ?l13 ?c13 ?k13 ?a14 ?l14 ?c14 ?k14 ?a15 ?l15 ?c15 ?k15 ?a16 ?l16 ?c16 ?k16 ?a17 ?l17 ?c17 ?k17 ?a18 ?l18 ?c18 ?k18 ?a19 ?l19 ?c19 ?k19 ?a20 ?l20 ?c20 ?k20 ?a21 ?l21 ?c21 ?k21 ?z_len ?z_isinstance ?z_str ?z_int ?z_list ?z_tuple ?z_bool ?z_range ?z_abs ?z_ord ?z_ValueError ?n_GREAT ?n_STEP ?n_MOST ?aD ?bD ?tD ?hD ?a_C ?x_C ?k_C ?b_C ?t_C ?sD_C ?sV_C ?eg_C ?ek_C ?ed_C ?ea_C ?en_C ?et_C ?em_C
    (case a1 => k_is)
    (case l1 => k_is)
    (case c1 => k_is)
    (case k1 => k_is)
    (case a2 => k_is)
    (case l2 => k_is)
    (case c2 => k_is)
    (case k2 => k_is)
    (case a3 => k_is)
    (case l3 => k_is)
    (case c3 => k_is)
    (case k3 => k_is)
    (case a4 => k_is)
    (case l4 => k_is)
    (case c4 => k_is)
    (case k4 => k_is)
    (case a5 => k_is)
    (case l5 => k_is)
    (case c5 => k_is)
    (case k5 => k_is)
    (case a6 => k_is)
    (case l6 => k_is)
    (case c6 => k_is)
    (case k6 => k_is)
    (case a7 => k_is)
    (case l7 => k_is)
    (case c7 => k_is)
    (case k7 => k_is)
    (case a8 => k_is)
    (case l8 => k_is)
    (case c8 => k_is)
    (case k8 => k_is)
    (case a9 => k_is)
    (case l9 => k_is)
    (case c9 => k_is)
    (case k9 => k_is)
    (case a10 => k_is)
    (case l10 => k_is)
    (case c10 => k_is)
    (case k10 => k_is)
    (case a11 => k_is)
    (case l11 => k_is)
    (case c11 => k_is)
    (case k11 => k_is)
    (case a12 => k_is)
    (case l12 => k_is)
    (case c12 => k_is)
    (case k12 => k_is)
    (case a13 => k_is)
    (case l13 => k_is)
    (case c13 => k_is)
    (case k13 => k_is)
    (case a14 => k_is)
    (case l14 => k_is)
    (case c14 => k_is)
    (case k14 => k_is)
    (case a15 => k_is)
    (case l15 => k_is)
    (case c15 => k_is)
    (case k15 => k_is)
    (case a16 => k_is)
    (case l16 => k_is)
    (case c16 => k_is)
    (case k16 => k_is)
    (case a17 => k_is)
    (case l17 => k_is)
    (case c17 => k_is)
    (case k17 => k_is)
    (case a18 => k_is)
    (case l18 => k_is)
    (case c18 => k_is)
    (case k18 => k_is)
    (case a19 => k_is)
    (case l19 => k_is)
    (case c19 => k_is)
    (case k19 => k_is)
    (case a20 => k_is)
    (case l20 => k_is)
    (case c20 => k_is)
    (case k20 => k_is)
    (case a21 => k_is)
    (case l21 => k_is)
    (case c21 => k_is)
    (case k21 => k_is)
    (case z_len => k_is)
    (case z_isinstance => k_is)
    (case z_str => k_is)
    (case z_int => k_is)
    (case z_list => k_is)
    (case z_tuple => k_is)
    (case z_bool => k_is)
    (case z_range => k_is)
    (case z_abs => k_is)
    (case z_ord => k_is)
    (case z_ValueError => k_is)
    (case n_GREAT => k_is)
    (case n_STEP => k_is)
    (case n_MOST => k_is)
    (case aD => k_is)
    (case bD => k_is)
    (case tD => k_is)
    (case hD => k_is)
    (case a_C => k_is)
    (case x_C => k_exc)
    (case k_C => k_is)
    (case b_C => k_is)
    (case t_C => k_is)
    (case sD_C => first | rfl | k_is)
    (case sV_C => k_is)
    (case eg_C => k_is)
    (case ek_C => k_is)
    (case ed_C => k_is)
    (case ea_C => k_is)
    (case en_C => k_is)
    (case et_C => k_is)
    (case em_C => k_is)

