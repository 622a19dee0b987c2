import PyProof.Rows.All
import Wide.All
import OpenK.AllK
import Wide.FinOn
import HandS.ForMost
import HandS.Exc
import HandS.TryOnly
import HandS.ExcOwn
import HandS.WordsExc
import HandS.ExcIs
import HandS.IsInst
import HandS.StrMore
import HandS.Wide
import HandS.TupAny
import HandS.Flow
import HandS.TupLe
import HandS.HotCalls
import HandS.ExcCtx
import HandS.Defaults
import HandS.WordsDict
import HandS.More
import HandS.NoneIn
import HandS.RaiseMore
import HandS.CallRecv
import HandS.Sort
import HandS.SortRule
import HandS.RevTup
import HandS.Rev
import KE.SortData
import KE.DataMinMax
import PySem.Challenge.RW_desksagree_k78_shares_that_lose_nothing
import KE.RegKIsAll
set_option Elab.async false
set_option maxRecDepth 100000
set_option maxHeartbeats 8000000
namespace K78
open PySem PySem.Spec PyProof.Rows L2
def top (i : Nat) : Stmt := PySem.Challenge.pw_desksagree_k78_shares_that_lose_nothing.main.body.getD i (.Pass ⟨0, 0, 0, 0⟩)
abbrev s_is_name : Stmt := top 8
abbrev s_is_number : Stmt := top 9
abbrev s_is_amount : Stmt := top 11
abbrev s_checked_rate : Stmt := top 14
abbrev s_changed : Stmt := top 15
abbrev s_rest_of : Stmt := top 16
abbrev s_checked_weights : Stmt := top 17
abbrev s_shared : Stmt := top 18
abbrev s_judge_shared : Stmt := top 19
abbrev s_Rates___init__ : Stmt := inClass (top 20) 0
abbrev s_Rates_tell : Stmt := inClass (top 20) 1
abbrev s_Rates_rate : Stmt := inClass (top 20) 2
abbrev s_Rates_rows : Stmt := inClass (top 20) 3
abbrev s_Rates_copy : Stmt := inClass (top 20) 4
abbrev s__law_same : Stmt := top 22
abbrev s__law_pool : Stmt := top 23
abbrev s__law_draw : Stmt := top 24
abbrev s__law_pick : Stmt := top 25
abbrev s__law_refusal : Stmt := top 26
abbrev s__law_good : Stmt := top 27
abbrev s__law_refused : Stmt := top 28
abbrev s__law_rates_right : Stmt := top 29
abbrev s_law : Stmt := top 30
structure Blt (mg : Str → Option Value) : Prop where
  b_len : mg "len" = none
  b_isinstance : mg "isinstance" = none
  b_str : mg "str" = none
  b_int : mg "int" = none
  b_list : mg "list" = none
  b_tuple : mg "tuple" = none
  b_bool : mg "bool" = none
  b_range : mg "range" = none
  b_abs : mg "abs" = none
  b_ord : mg "ord" = none
  b_sorted : mg "sorted" = none
  b_dict : mg "dict" = none
  b_ValueError : mg "ValueError" = none
  b_sum : mg "sum" = none
  b_max : mg "max" = none
  b_min : mg "min" = none
  b_reversed : mg "reversed" = none
abbrev tl (x : Str) : List Nat := x.cps.toList
abbrev mkS (l : List Nat) : Str := ⟨l.toArray⟩
theorem mkS_tl (x : Str) : mkS (tl x) = x := by cases x; rfl
theorem tl_mkS (l : List Nat) : tl (mkS l) = l := rfl
theorem len_tl (x : Str) : x.length = (tl x).length := by simp [Str.length, tl]
theorem cut_nat (x : Str) (a b : Nat) (h : b ≤ (tl x).length) : cutS x (some (a : Int)) (some (b : Int)) = mkS (((tl x).drop a).take (b - a)) := by
  have hn : x.length = (tl x).length := len_tl x
  have e1 : HT.sIx x.length 0 (some (a : Int)) = min a x.length := by
    show (if ((a : Int)) < 0 then ((a : Int) + (x.length : Int)).toNat else min ((a : Int)).toNat x.length) = _
    rw [if_neg (by omega)]; rfl
  have e2 : HT.sIx x.length x.length (some (b : Int)) = b := by
    show (if ((b : Int)) < 0 then ((b : Int) + (x.length : Int)).toNat else min ((b : Int)).toNat x.length) = _
    rw [if_neg (by omega)]
    show min b x.length = b
    omega
  show (⟨((x.cps.toList.drop (HT.sIx x.length 0 (some (a : Int)))).take (HT.sIx x.length x.length (some (b : Int)) - HT.sIx x.length 0 (some (a : Int)))).toArray⟩ : Str) = _
  rw [e1, e2]
  by_cases ha : a ≤ x.length
  · rw [Nat.min_eq_left ha]
  · have z : (tl x).length ≤ a := by omega
    have e3 : ((tl x).drop a).take (b - a) = [] := by rw [List.drop_eq_nil_of_le z, List.take_nil]
    have e4 : (x.cps.toList.drop (min a x.length)).take (b - min a x.length) = [] := by
      rw [List.drop_eq_nil_of_le (by show (tl x).length ≤ _; omega), List.take_nil]
    rw [e3, e4]
theorem cut_any (x : Str) (a b : Nat) : cutS x (some (a : Int)) (some (b : Int)) = mkS (((tl x).drop a).take (b - a)) := by
  by_cases h : b ≤ (tl x).length
  · exact cut_nat x a b h
  · have hn : x.length = (tl x).length := len_tl x
    have e1 : HT.sIx x.length 0 (some (a : Int)) = min a x.length := by
      show (if ((a : Int)) < 0 then ((a : Int) + (x.length : Int)).toNat else min ((a : Int)).toNat x.length) = _
      rw [if_neg (by omega)]; rfl
    have e2 : HT.sIx x.length x.length (some (b : Int)) = x.length := by
      show (if ((b : Int)) < 0 then ((b : Int) + (x.length : Int)).toNat else min ((b : Int)).toNat x.length) = _
      rw [if_neg (by omega)]
      show min b x.length = x.length
      omega
    show (⟨((x.cps.toList.drop (HT.sIx x.length 0 (some (a : Int)))).take (HT.sIx x.length x.length (some (b : Int)) - HT.sIx x.length 0 (some (a : Int)))).toArray⟩ : Str) = _
    rw [e1, e2]
    by_cases ha : a ≤ x.length
    · rw [Nat.min_eq_left ha]
      show mkS (((tl x).drop a).take (x.length - a)) = _
      have hd : ((tl x).drop a).length = (tl x).length - a := List.length_drop
      rw [List.take_of_length_le (by omega), List.take_of_length_le (by omega)]
    · have z : (tl x).length ≤ a := by omega
      have e3 : ((tl x).drop a).take (b - a) = [] := by rw [List.drop_eq_nil_of_le z, List.take_nil]
      have e4 : (x.cps.toList.drop (min a x.length)).take (x.length - min a x.length) = [] := by
        rw [List.drop_eq_nil_of_le (by show (tl x).length ≤ _; omega), List.take_nil]
      rw [e3, e4]
def upto (c : Nat) (l : List Nat) : List Nat := l.takeWhile fun d => decide (d ≠ c)
theorem upto_le (c : Nat) (l : List Nat) : (upto c l).length ≤ l.length := by
  induction l with
  | nil => exact Nat.le_refl _
  | cons d r ih =>
    unfold upto at ih ⊢
    rw [List.takeWhile_cons]
    split
    · simpa using ih
    · simp
theorem upto_take (c : Nat) (l : List Nat) : l.take (upto c l).length = upto c l := by
  induction l with
  | nil => rfl
  | cons d r ih =>
    unfold upto at ih ⊢
    rw [List.takeWhile_cons]
    split
    · simp only [List.length_cons, List.take_succ_cons]; rw [ih]
    · rfl
theorem occ_full (s sub : Str) (hi : Nat) : ∀ (l : List Nat) (st : Array Nat × Nat), 1 ≤ st.fst.size → (forIn l st (StrLaws.occBody s sub hi 1)).run = st
  | [], st, h => rfl
  | a :: l, st, h => by
    rw [List.forIn_cons]
    unfold StrLaws.occBody
    rw [if_neg (fun z => by have := z.1.1.1; omega)]
    exact occ_full s sub hi l st h
theorem occ_run (x : Str) (c : Nat) : ∀ (n a f : Nat), a + n = x.length + 1 → f ≤ a →
    (forIn (List.range' a n) ((#[] : Array Nat), f) (StrLaws.occBody x ⟨#[c]⟩ x.length 1)).run.fst.toList =
      if (upto c ((tl x).drop a)).length < ((tl x).drop a).length then [a + (upto c ((tl x).drop a)).length] else []
  | 0, a, f, h, hf => by
    have hx : x.length = (tl x).length := len_tl x
    have e : (tl x).drop a = [] := List.drop_eq_nil_of_le (by omega)
    rw [e]
    rfl
  | n + 1, a, f, h, hf => by
    have hx : x.length = (tl x).length := len_tl x
    rw [List.range'_succ, List.forIn_cons]
    have key := StrLaws.subAt_one x c a
    by_cases hc : (tl x)[a]? = some c
    · have z := key.mpr hc
      have hlt : a < (tl x).length := (List.getElem?_eq_some_iff.mp hc).1
      unfold StrLaws.occBody
      rw [if_pos ⟨⟨⟨by simp, hf⟩, z.1⟩, z.2⟩]
      show ((forIn (List.range' (a + 1) n) ((#[] : Array Nat).push a, a + (⟨#[c]⟩ : Str).length) (StrLaws.occBody x ⟨#[c]⟩ x.length 1)).run).fst.toList = _
      rw [occ_full _ _ _ _ _ (by simp)]
      have e : (tl x).drop a = c :: (tl x).drop (a + 1) := by
        rw [List.drop_eq_getElem_cons hlt]
        rw [(List.getElem?_eq_some_iff.mp hc).2]
      rw [e]
      unfold upto
      rw [List.takeWhile_cons, if_neg (show ¬ decide (c ≠ c) = true by simp)]
      simp
    · have hn : ¬ ((((((#[] : Array Nat), f) : Array Nat × Nat).fst.size < 1 ∧ (((#[] : Array Nat), f) : Array Nat × Nat).snd ≤ a) ∧ a + (⟨#[c]⟩ : Str).length ≤ x.length) ∧ Builtin.Str.subAt x ⟨#[c]⟩ a = true) := fun z => hc (key.mp ⟨z.1.2, z.2⟩)
      have e1 : StrLaws.occBody x ⟨#[c]⟩ x.length 1 a ((#[] : Array Nat), f) = pure (ForInStep.yield ((#[] : Array Nat), f)) := by
        unfold StrLaws.occBody
        rw [if_neg hn]
      rw [e1]
      show ((forIn (List.range' (a + 1) n) ((#[] : Array Nat), f) (StrLaws.occBody x ⟨#[c]⟩ x.length 1)).run).fst.toList = _
      rw [occ_run x c n (a + 1) f (by omega) (by omega)]
      by_cases hlt : a < (tl x).length
      · have e : (tl x).drop a = (tl x)[a] :: (tl x).drop (a + 1) := List.drop_eq_getElem_cons hlt
        have hd : (tl x)[a] ≠ c := fun z => hc (by rw [List.getElem?_eq_getElem hlt, z])
        have e2 : upto c ((tl x).drop a) = (tl x)[a] :: upto c ((tl x).drop (a + 1)) := by
          rw [e]
          unfold upto
          rw [List.takeWhile_cons, if_pos (by simpa using hd)]
        rw [e2, e]
        simp only [List.length_cons, Nat.add_lt_add_iff_right]
        split
        · congr 1; omega
        · rfl
      · have e : (tl x).drop a = [] := List.drop_eq_nil_of_le (by omega)
        have e3 : (tl x).drop (a + 1) = [] := List.drop_eq_nil_of_le (by omega)
        rw [e, e3]
        rfl
theorem find_one (x : Str) (c a : Nat) (ha : a ≤ (tl x).length) : Txt.find3 x ⟨#[c]⟩ (a : Int) = if (upto c ((tl x).drop a)).length < ((tl x).drop a).length then ((a + (upto c ((tl x).drop a)).length : Nat) : Int) else -1 := by
  have hx : x.length = (tl x).length := len_tl x
  have e0 : fromIndex x.length (a : Int) = a := by
    unfold fromIndex
    rw [if_neg (by omega)]
    omega
  unfold Txt.find3
  rw [e0, StrLaws.occ_eq, occ_run x c _ a a (by omega) (Nat.le_refl _)]
  by_cases h : (upto c ((tl x).drop a)).length < ((tl x).drop a).length
  · rw [if_pos h, if_pos h]
  · rw [if_neg h, if_neg h]
theorem lc_str {x : Str} {g : TG} {tt : TT} {te : TE} {vs : List Nat} {σ : L2.St} {H1 : Hp} {D : Addr} {Qd : Hp → Prop} (Pv : Nat → Hp → Prop) (h0 : Pv 0 (upd H1 D (.lst [])))
    (hs : ∀ i c H, (tl x)[i]? = some c → Pv i H → g (.str ⟨#[c]⟩) (wipe σ vs) H fun σ2 H2 => wipe σ2 vs = wipe σ vs ∧ tt σ2 H2 fun b H3 =>
      if b = true then te σ2 H3 fun y H4 => ∃ acc, H4 D = some (.lst acc) ∧ acc.length < sizeLine ∧ Pv (i + 1) (upd H4 D (.lst (acc ++ [y]))) else Pv (i + 1) H3) (hd : ∀ H, Pv (tl x).length H → Qd H) :
    ∃ W : Nat → Nat → Hp → Prop, (∃ m, W 0 m (upd H1 D (.lst []))) ∧ ∀ i m H, W i m H →
      ((Its x).stop i H ∧ Qd H) ∨ ((Its x).go i H ∧ ∃ Nx : Hp → Prop, (∀ H', Nx H' → ∃ m', m' < m ∧ W (i + 1) m' H') ∧ ∀ v H', (Its x).yld i H v H' → g v (wipe σ vs) H' fun σ2 H2 => wipe σ2 vs = wipe σ vs ∧ tt σ2 H2 fun b H3 =>
        if b = true then te σ2 H3 fun y H4 => ∃ acc, H4 D = some (.lst acc) ∧ acc.length < sizeLine ∧ Nx (upd H4 D (.lst (acc ++ [y]))) else Nx H3) := by
  have hx : x.cps.size = (tl x).length := by simp [tl]
  refine ⟨fun i m H => m = (tl x).length - i ∧ i ≤ (tl x).length ∧ Pv i H, ⟨(tl x).length, by simp, Nat.zero_le _, h0⟩, ?_⟩
  rintro i m H ⟨rfl, hi, p⟩
  by_cases hlt : i < (tl x).length
  · refine .inr ⟨(by show i < x.cps.size; omega), Pv (i + 1), fun H' p' => ⟨(tl x).length - (i + 1), by omega, rfl, hlt, p'⟩, fun v H' y => ?_⟩
    obtain ⟨e, c, hc, ev⟩ := y
    subst e
    subst ev
    exact hs i c _ (by rw [Array.getElem?_toList]; exact hc) p
  · have e : i = (tl x).length := by omega
    subst e
    exact .inl ⟨(by show x.cps.size ≤ _; omega), hd H p⟩
structure ErrT (K : PySem.W.Frag) (mg : Str → Option Value) (x : Str) (C : Addr) : Prop where
  gP : mg x = some (.ref C)
  xP : PySem.W.excIn K C [.type "ValueError", .type "Exception", .type "BaseException", .type "object"] "ValueError.__new__" = true
  kP : PySem.W.keepIn K (.ref C) = true
  bP : PySem.W.subIn K (.ref C) (.type "BaseException") = some true
  tP : PySem.W.typeIn K (.ref C) = some (.type "type")
theorem le1 (a b : Nat) : (!decide (([a] : List Nat) < [b])) = decide (b ≤ a) := by
  by_cases h : a < b
  · have e1 : ([a] : List Nat) < [b] := List.Lex.rel h
    rw [decide_eq_true e1, decide_eq_false (by omega)]; rfl
  · have e1 : ¬ ([a] : List Nat) < [b] := by
      intro z
      cases z with
      | cons z => cases z
      | rel z => exact h z
    rw [decide_eq_false e1, decide_eq_true (by omega)]; rfl
theorem take_snoc {α : Type} : ∀ {l : List α} {i : Nat} {x : α}, l[i]? = some x → l.take (i + 1) = l.take i ++ [x]
  | [], i, x, h => by simp at h
  | a :: l, 0, x, h => by
    have e : a = x := Option.some.inj h
    subst e
    rfl
  | a :: l, i + 1, x, h => by
    have ih := take_snoc (l := l) (i := i) (x := x) h
    show a :: l.take (i + 1) = a :: l.take i ++ [x]
    rw [ih]
    rfl
theorem one_eq (c d : Nat) : decide (V.str ⟨#[c]⟩ = V.str ⟨#[d]⟩) = decide (c = d) := by
  by_cases h : c = d
  · subst h; simp
  · rw [decide_eq_false h, decide_eq_false]
    intro e
    have := V.str.inj e
    simp at this
    exact h this
theorem sz1 {n : Nat} (h : n ≤ sizeLine) (m : Nat) (hm : m < n) : m < sizeLine := Nat.lt_of_lt_of_le hm h
theorem same_upd {H H1 : Hp} {p : Addr} {o : HO} (s : Same H H1) (hp : H1 p = none) : Same H (upd H1 p o) := fun b u e => by
  rw [upd_ne (ne_of_none (s b u e) hp)]
  exact s b u e
theorem inV_strs (s : Str) (L : List Str) : inV (V.str s) (L.map V.str) = L.any fun y => y == s := by
  unfold inV
  rw [List.any_map]
  rfl
theorem flat_strs (L : List Str) : (L.map V.str).all flatV = true := by
  rw [List.all_map]
  exact List.all_eq_true.mpr fun _ _ => rfl
theorem strs_at {L : List Str} {i : Nat} {y : V} (h : (L.map V.str)[i]? = some y) : ∃ s, L[i]? = some s ∧ y = V.str s := by
  rw [List.getElem?_map] at h
  cases e : L[i]? with
  | none => rw [e] at h; cases h
  | some s => rw [e] at h; exact ⟨s, rfl, (Option.some.inj h).symm⟩
theorem paired_imp {α β : Type} {R S : α → β → Prop} (h : ∀ a b, R a b → S a b) : ∀ {xs : List α} {ys : List β}, Paired R xs ys → Paired S xs ys
  | _, _, .nil => .nil
  | _, _, .cons r t => .cons (h _ _ r) (paired_imp h t)
theorem paired_snoc {α β : Type} {R : α → β → Prop} {a : α} {b : β} (h : R a b) : ∀ {xs : List α} {ys : List β}, Paired R xs ys → Paired R (xs ++ [a]) (ys ++ [b])
  | _, _, .nil => .cons h .nil
  | _, _, .cons r t => .cons r (paired_snoc h t)
theorem paired_at {α β : Type} {R : α → β → Prop} : ∀ {xs : List α} {ys : List β} {i : Nat} {x : α}, Paired R xs ys → xs[i]? = some x → ∃ y, ys[i]? = some y ∧ R x y
  | _, _, _, _, .nil, e => by simp at e
  | _, _, 0, _, .cons r _, e => by
    have := Option.some.inj e
    subst this
    exact ⟨_, rfl, r⟩
  | _, _, i + 1, _, .cons _ t, e => by
    obtain ⟨y, e1, e2⟩ := paired_at (i := i) t (by simpa using e)
    exact ⟨y, by simpa using e1, e2⟩
theorem paired_len {α β : Type} {R : α → β → Prop} : ∀ {xs : List α} {ys : List β}, Paired R xs ys → xs.length = ys.length
  | _, _, .nil => rfl
  | _, _, .cons _ t => by rw [List.length_cons, List.length_cons, paired_len t]
theorem upto_app {c : Nat} : ∀ {u rest : List Nat}, (∀ d ∈ u, d ≠ c) → upto c (u ++ c :: rest) = u
  | [], rest, _ => by
    unfold upto
    rw [List.nil_append, List.takeWhile_cons, if_neg (by simp)]
  | d :: u, rest, h => by
    have ih := upto_app (c := c) (u := u) (rest := rest) (fun e he => h e (List.mem_cons_of_mem _ he))
    unfold upto at ih ⊢
    rw [List.cons_append, List.takeWhile_cons, if_pos (by simpa using h d (List.mem_cons_self ..)), ih]
theorem upto_step {c : Nat} {l : List Nat} {n d : Nat} (h : l[n]? = some d) (hd : d ≠ c) (hp : n ≤ (upto c l).length) : n + 1 ≤ (upto c l).length := by
  induction l generalizing n with
  | nil => simp at h
  | cons e r ih =>
    unfold upto at ih hp ⊢
    rw [List.takeWhile_cons] at hp ⊢
    cases n with
    | zero =>
      have : e = d := by simpa using h
      subst this
      rw [if_pos (by simpa using hd)]
      simp
    | succ n =>
      by_cases he : decide (e ≠ c) = true
      · rw [if_pos he] at hp ⊢
        have := ih (n := n) (by simpa using h) (by simpa using hp)
        simpa using this
      · rw [if_neg he] at hp
        simp at hp
theorem upto_stop {c : Nat} {l : List Nat} {n : Nat} (hp : n ≤ (upto c l).length) (h : ∀ d, l[n]? = some d → d = c) : n = (upto c l).length := by
  induction l generalizing n with
  | nil => simp [upto] at hp ⊢; exact hp
  | cons e r ih =>
    unfold upto at ih hp ⊢
    rw [List.takeWhile_cons] at hp ⊢
    by_cases he : decide (e ≠ c) = true
    · rw [if_pos he] at hp ⊢
      cases n with
      | zero => exact absurd (h e rfl) (by simpa using he)
      | succ n =>
        have := ih (n := n) (by simpa using hp) (fun d hd => h d (by simpa using hd))
        simpa using this
    · rw [if_neg he] at hp ⊢
      simpa using hp
theorem upto_get {c : Nat} : ∀ {l : List Nat} {n d : Nat}, l[n]? = some d → n < (upto c l).length → (upto c l)[n]? = some d
  | [], n, d, h, _ => by simp at h
  | e :: r, n, d, h, hn => by
    unfold upto at hn ⊢
    rw [List.takeWhile_cons] at hn ⊢
    by_cases he : decide (e ≠ c) = true
    · rw [if_pos he] at hn ⊢
      cases n with
      | zero => exact h
      | succ n =>
        have := upto_get (c := c) (l := r) (n := n) (d := d) (by simpa using h) (by unfold upto; simpa using hn)
        unfold upto at this
        simpa using this
    · rw [if_neg he] at hn
      simp at hn
theorem sum_mem : ∀ {l : List Nat} {n : Nat}, n ∈ l → n ≤ l.sum
  | a :: l, n, h => by
    rw [List.sum_cons]
    rcases List.mem_cons.mp h with rfl | h
    · omega
    · have := sum_mem h
      omega
theorem pss_when {X : Cx} {st : List Stmt} {t : TS} {p : Prop} (h : p → PSs X st t) : PSs X st (fun D σ H => p ∧ t D σ H) := ⟨fun pins s σ H D I ⟨hp, ht⟩ => (h hp).run pins s σ H D I ht⟩
structure CatchT (K : PySem.W.Frag) (mg : Str → Option Value) (CD C : Addr) : Prop where
  gD : mg "DeskError" = some (.ref CD)
  exm : PySem.W.exmOne K (.ref C) (.ref CD) = some true
  ec : ExcC K C
  kC : PySem.W.kitOne K (.ref C) (.ref C) = some true
  kV : PySem.W.kitOne K (.ref C) (.type "ValueError") = some true
  b_VE : mg "ValueError" = none
theorem iteF' {b : Bool} {p q : Prop} (e : b = false) (h : q) : if b = true then p else q := by
  rw [e]; exact h
theorem app_len (s t : Str) : (s ++ t).length = s.length + t.length := by
  have e : tl (s ++ t) = tl s ++ tl t := TL.tl_append s t
  rw [len_tl, e, List.length_append, len_tl, len_tl]
theorem mem_strs {L : List Str} {v : V} (h : v ∈ L.map V.str) : ∃ s, s ∈ L ∧ v = V.str s := by
  obtain ⟨s, h1, h2⟩ := List.mem_map.mp h
  exact ⟨s, h1, h2.symm⟩
theorem mem_cut {xs : List V} {lo hi : Option Int} {v : V} (h : v ∈ cutV xs lo hi) : v ∈ xs := by
  unfold cutV at h
  exact List.mem_of_mem_drop (List.mem_of_mem_take h)
theorem cut_le (xs : List V) (lo hi : Option Int) : (cutV xs lo hi).length ≤ xs.length := by
  unfold cutV
  rw [List.length_take, List.length_drop]
  omega
theorem for_str {x : Str} {g : TG} {tb : TS} {D : Ends} {σ : L2.St} {H : Hp} (Pv : Nat → L2.St → Hp → Prop) (h0 : Pv 0 σ H)
    (hs : ∀ i c σ H, (tl x)[i]? = some c → Pv i σ H → g (.str ⟨#[c]⟩) σ H fun σ2 H2 => tb { D with nx := Pv (i + 1), ct := Pv (i + 1), bk := D.nx } σ2 H2) (hd : ∀ σ H, Pv (tl x).length σ H → D.nx σ H) :
    ∃ W : Nat → Nat → L2.St → Hp → Prop, (∃ m, W 0 m σ H) ∧ ∀ i m σ H, W i m σ H →
      ((Its x).stop i H ∧ D.nx σ H) ∨ ((Its x).go i H ∧ ∃ N : L2.St → Hp → Prop, (∀ σ' H', N σ' H' → ∃ m', m' < m ∧ W (i + 1) m' σ' H') ∧ ∀ v H', (Its x).yld i H v H' → g v σ H' fun σ2 H2 => tb { D with nx := N, ct := N, bk := D.nx } σ2 H2) := by
  have hx : x.cps.size = (tl x).length := by simp [tl]
  refine ⟨fun i m σ H => m = (tl x).length - i ∧ i ≤ (tl x).length ∧ Pv i σ H, ⟨(tl x).length, by simp, Nat.zero_le _, h0⟩, ?_⟩
  rintro i m σ H ⟨rfl, hi, p⟩
  by_cases hlt : i < (tl x).length
  · refine .inr ⟨(by show i < x.cps.size; omega), Pv (i + 1), fun σ' H' p' => ⟨(tl x).length - (i + 1), by omega, rfl, hlt, p'⟩, fun v H' y => ?_⟩
    obtain ⟨e, c, hc, ev⟩ := y
    subst e
    subst ev
    exact hs i c _ _ (by rw [Array.getElem?_toList]; exact hc) p
  · have e : i = (tl x).length := by omega
    subst e
    exact .inl ⟨(by show x.cps.size ≤ _; omega), hd σ H p⟩
theorem lc_filter {x : Str} {σ : L2.St} {H1 : Hp} {D : Addr} {j : Nat} {bad : Nat → Bool} {tt : TT} {Qd : Hp → Prop} (hx : x.length ≤ sizeLine) (hD : H1 D = none)
    (hw : ∀ v, wipe ((wipe σ [j]).set j (some v)) [j] = wipe σ [j]) (hg : ∀ v, ((wipe σ [j]).set j (some v))[j]? = some (some v))
    (ht : ∀ c H' (R : Bool → Hp → Prop), c ∈ tl x → R (bad c) H' → tt ((wipe σ [j]).set j (some (.str ⟨#[c]⟩))) H' R)
    (hd : ∀ H', Same H1 H' → H' D = some (.lst (((tl x).filter bad).map fun c => V.str ⟨#[c]⟩)) → Qd H') :
    ∃ W : Nat → Nat → Hp → Prop, (∃ m, W 0 m (upd H1 D (.lst []))) ∧ ∀ i m H, W i m H →
      ((Its x).stop i H ∧ Qd H) ∨ ((Its x).go i H ∧ ∃ Nx : Hp → Prop, (∀ H', Nx H' → ∃ m', m' < m ∧ W (i + 1) m' H') ∧ ∀ v H', (Its x).yld i H v H' → gName j v (wipe σ [j]) H' fun σ2 H2 => wipe σ2 [j] = wipe σ [j] ∧ tt σ2 H2 fun b H3 =>
        if b = true then tVar j σ2 H3 fun y H4 => ∃ acc, H4 D = some (.lst acc) ∧ acc.length < sizeLine ∧ Nx (upd H4 D (.lst (acc ++ [y]))) else Nx H3) := by
  have hl : x.length = (tl x).length := len_tl x
  refine lc_str (x := x) (fun i H' => H' D = some (.lst ((((tl x).take i).filter bad).map fun c => V.str ⟨#[c]⟩)) ∧ ∀ b, b ≠ D → H' b = H1 b) ⟨upd_same, fun b hb => upd_ne hb⟩ ?_ ?_
  · rintro i c H' hc ⟨h1, h2⟩
    have hi : i < (tl x).length := (List.getElem?_eq_some_iff.mp hc).1
    have et : (tl x).take (i + 1) = (tl x).take i ++ [c] := take_snoc hc
    refine ⟨hw _, ?_⟩
    refine ht c _ _ (List.mem_of_getElem? hc) ?_
    refine ite2 (fun hb => ?_) (fun hb => ?_)
    · refine ⟨_, hg _, _, h1, ?_, ?_, fun b hb => by rw [upd_ne hb]; exact h2 b hb⟩
      · have := List.length_filter_le bad ((tl x).take i)
        rw [List.length_map]
        rw [List.length_take] at this
        omega
      · rw [upd_same, et, List.filter_append, List.map_append]
        simp [hb]
    · refine ⟨?_, h2⟩
      rw [h1, et, List.filter_append, List.map_append]
      simp [hb]
  · rintro H' ⟨h1, h2⟩
    rw [List.take_length] at h1
    refine hd H' (fun b o e => ?_) h1
    have : b ≠ D := fun z => by rw [z, hD] at e; cases e
    rw [h2 b this]; exact e
theorem filt_empty {l : List Nat} {bad : Nat → Bool} : ((l.filter bad).map fun c => V.str ⟨#[c]⟩).isEmpty = l.all fun c => !bad c := by
  induction l with
  | nil => rfl
  | cons c r ih =>
    rw [List.filter_cons, List.all_cons]
    by_cases h : bad c = true
    · rw [if_pos h, h]; rfl
    · rw [if_neg h, ih]
      have : bad c = false := by simpa using h
      rw [this]; rfl
theorem fmod_nat (a b : Nat) : Int.fmod (a : Int) (b : Int) = ((a % b : Nat) : Int) := by
  rw [Int.fmod_eq_emod_of_nonneg _ (by omega)]; rfl
theorem log_small (n : Nat) (h : n ≤ 10000000) : ((n : Nat) : Int).natAbs.log2 < 1920 := by
  rw [Int.natAbs_natCast]
  by_cases h0 : n = 0
  · subst h0; decide
  · have := (Nat.log2_lt h0 (k := 1920)).mpr (by
      have : (10000000 : Nat) < 2 ^ 1920 := by decide +kernel
      omega)
    exact this
theorem num_len {n : Nat} (h : n ≤ 9999999) : (TL.numL n).length ≤ 7 := TL.numL_len (by decide) (by omega)
theorem iteT' {b : Bool} {p q : Prop} (e : b = true) (h : p) : if b = true then p else q := by
  rw [e]; exact h
theorem joinL_flat : ∀ L : List (List Nat), TL.joinL [] L = L.flatten
  | [] => rfl
  | [p] => by simp [TL.joinL]
  | p :: q :: r => by
    show p ++ ([] ++ TL.joinL [] (q :: r)) = _
    rw [joinL_flat (q :: r)]; simp
theorem join_flat (L : List (List Nat)) : Txt.join (Str.ofString "") (L.map mkS) = mkS L.flatten := by
  refine TL.ext_tl ?_
  rw [TL.join_eq, TL.tl_join, List.map_map]
  show TL.joinL [] (L.map fun l => tl (mkS l)) = L.flatten
  rw [List.map_id'' (f := fun l => tl (mkS l)) (fun _ => rfl), joinL_flat]
theorem sum_le {ys : List Str} {B : Nat} (h : ∀ y ∈ ys, y.length ≤ B) : (ys.map (·.length)).sum ≤ ys.length * B := by
  induction ys with
  | nil => exact Nat.zero_le _
  | cons y r ih =>
    have h1 := h y (List.mem_cons_self ..)
    have h2 := ih fun z hz => h z (List.mem_cons_of_mem _ hz)
    rw [List.map_cons, List.sum_cons, List.length_cons, Nat.add_mul]
    omega
theorem cut_pre (x : Str) (n : Nat) : cutS x none (some (n : Int)) = mkS ((tl x).take n) := by
  have e : cutS x none (some (n : Int)) = cutS x (some ((0 : Nat) : Int)) (some (n : Int)) := by
    have e1 : HT.sIx x.length 0 (some ((0 : Nat) : Int)) = 0 := by
      show (if (((0 : Nat) : Int)) < 0 then (((0 : Nat) : Int) + (x.length : Int)).toNat else min (((0 : Nat) : Int)).toNat x.length) = _
      rw [if_neg (by omega)]
      show min 0 x.length = 0
      omega
    unfold cutS
    rw [e1]
    rfl
  rw [e, cut_any, List.drop_zero, Nat.sub_zero]
theorem fit_cut {z : Str} {l u : Option Int} {n : Nat} (h : z.length ≤ n) : (cutS z l u).length ≤ n := Nat.le_trans (cutS_length z l u) h
theorem fit_app {s t : Str} {a b n : Nat} (h : s.length ≤ a) (g : t.length ≤ b) (k : a + b ≤ n) : (s ++ t).length ≤ n := by rw [app_len]; omega
theorem fit_add {s t : Str} {a b : Nat} (h : s.length ≤ a) (g : t.length ≤ b) (k : a + b ≤ 16777216) : s.length + t.length ≤ sizeLine := by rw [sizeLine_eq]; omega
theorem ne_self (x : V) : (!decide (x = x)) = false := by rw [decide_eq_true rfl]; rfl
theorem ite_val {c : Bool} {x y : V} {A B : VK → Prop} {Q : VK} {H : Hp} (hA : ∀ Q : VK, Q x H → A Q) (hB : ∀ Q : VK, Q y H → B Q) (h : Q (if c = true then x else y) H) : if c = true then A Q else B Q := by
  cases c
  · exact hB _ h
  · exact hA _ h
/-! ### steps: one lemma for each construct, by its head -/
section steps
variable {σ : L2.St} {H : Hp} {D : Ends}
theorem w_start {t : TS} {σ' : L2.St} (e : σ = σ') (h : t D σ' H) : t D σ H := by subst e; exact h
theorem w_seq {t u : TS} (h : t { D with nx := u D } σ H) : tSeq t u D σ H := h
theorem w_asg {te : TE} {g : TG} (h : te σ H fun x H1 => g x σ H1 D.nx) : tAsg te g D σ H := h
theorem w_drop {te : TE} (h : te σ H fun _ H1 => D.nx σ H1) : tDrop te D σ H := h
theorem w_ret {te : TE} (h : te σ H D.rt) : tRet te D σ H := h
theorem w_retN (h : D.rt .non H) : tRetN D σ H := h
theorem w_next (h : D.nx σ H) : tNext D σ H := h
theorem w_break (h : D.bk σ H) : tBreak D σ H := h
theorem w_cont (h : D.ct σ H) : tCont D σ H := h
theorem w_ifS {c : TT} {t u : TS} (h : c σ H fun b H1 => if b = true then t D σ H1 else u D σ H1) : tIfS c t u D σ H := h
theorem w_while {c : TT} {tb : TS} (h : ∃ W : Nat → L2.St → Hp → Prop, (∃ m, W m σ H) ∧ ∀ m σ H, W m σ H → c σ H fun b H1 => if b = true then ∃ N : L2.St → Hp → Prop, (∀ σ' H', N σ' H' → ∃ m', m' < m ∧ W m' σ' H') ∧ tb { D with nx := N, ct := N, bk := D.nx } σ H1 else D.nx σ H1) : tWhile c tb D σ H := h
theorem w_name {i : Nat} {v : V} {σ' : L2.St} {Q : L2.St → Hp → Prop} (e : σ.set i (some v) = σ') (h : Q σ' H) : gName i v σ H Q := by subst e; exact h
theorem w_sub {to ti : TE} {t : TSet} {v : V} {Q : L2.St → Hp → Prop} (h : to σ H fun o H1 => ti σ H1 fun i H2 => t o i v H2 fun H3 => Q σ H3) : gSub to ti t v σ H Q := h
theorem w_var {i : Nat} {v : V} {Q : VK} (h : σ[i]? = some (some v)) (k : Q v H) : tVar i σ H Q := ⟨v, h, k⟩
theorem w_c {v : V} {Q : VK} (k : Q v H) : tC v σ H Q := k
theorem w_op {r : R2} {ta tb : TE} {Q : VK} (h : ta σ H fun x H1 => tb σ H1 fun y H2 => r x y H2 Q) : tOp r ta tb σ H Q := h
theorem w_un {r : V → Hp → VK → Prop} {ta : TE} {Q : VK} (h : ta σ H fun x H1 => r x H1 Q) : tUn r ta σ H Q := h
theorem w_test {t : TE} {Q : Bool → Hp → Prop} (h : t σ H fun x H' => ∃ k, x = .bl k ∧ Q k H') : tTest t σ H Q := h
theorem w_B {t : TE} {Q : Bool → Hp → Prop} (h : t σ H fun x H1 => ∃ c, x = .bl c ∧ Q c H1) : tB t σ H Q := h
theorem w_yes {Q : Bool → Hp → Prop} (h : Q true H) : tYes σ H Q := h
theorem w_not {t : TT} {Q : Bool → Hp → Prop} (h : t σ H fun c H1 => Q (!c) H1) : tNot t σ H Q := h
theorem w_and {t u : TT} {Q : Bool → Hp → Prop} (h : t σ H fun c H1 => if c = true then u σ H1 Q else Q false H1) : tAnd t u σ H Q := h
theorem w_or {t u : TT} {Q : Bool → Hp → Prop} (h : t σ H fun c H1 => if c = true then Q true H1 else u σ H1 Q) : tOr t u σ H Q := h
theorem w_andV {ta tb : TE} {Q : VK} (h : ta σ H fun x H1 => ∃ c, x = .bl c ∧ if c = true then tb σ H1 Q else Q (.bl false) H1) : tAndV ta tb σ H Q := h
theorem w_orV {ta tb : TE} {Q : VK} (h : ta σ H fun x H1 => ∃ c, x = .bl c ∧ if c = true then Q (.bl true) H1 else tb σ H1 Q) : tOrV ta tb σ H Q := h
theorem w_notV {ta : TE} {Q : VK} (h : ta σ H fun x H1 => ∃ c, x = .bl c ∧ Q (.bl (!c)) H1) : tNotV ta σ H Q := h
theorem w_ifE {t : TT} {ta tb : TE} {Q : VK} (h : t σ H fun c H1 => if c = true then ta σ H1 Q else tb σ H1 Q) : tIf t ta tb σ H Q := h
theorem w_nil {Q : List V → Hp → Prop} (h : Q [] H) : tNil σ H Q := h
theorem w_cons {ta : TE} {tr : TA} {Q : List V → Hp → Prop} (h : ta σ H fun x H1 => tr σ H1 fun xs H2 => Q (x :: xs) H2) : tCons ta tr σ H Q := h
theorem w_call {sp : Sp} {dvs : List V} {E : XK} {t : TA} {Q : VK} (h : t σ H fun vs H1 => sp (vs ++ dvs) H1 Q E) : tCall sp dvs E t σ H Q := h
theorem w_callS {sp : Sp} {E : L2.St → XK} {t : TA} {Q : VK} (h : t σ H fun vs H1 => sp vs H1 Q (E σ)) : tCallS sp E t σ H Q := h
theorem w_cB {r : List V → Hp → VK → Prop} {t : TA} {Q : VK} (h : t σ H fun vs H1 => r vs H1 Q) : tCB r t σ H Q := h
theorem w_lst {t : TA} {Q : VK} (h : t σ H fun xs H1 => xs.length ≤ sizeLine ∧ ∀ p, H1 p = none → Q (.ref p) (upd H1 p (.lst xs))) : tLst t σ H Q := h
theorem w_tup {t : TA} {Q : VK} (h : t σ H fun xs H1 => xs.length ≤ sizeLine ∧ ∀ p, H1 p = none → Q (.ref p) (upd H1 p (.tup xs))) : tTup t σ H Q := h
theorem w_sl {r : V → Option Int → Option Int → Hp → VK → Prop} {te : TE} {tl th : TO} {Q : VK} (h : te σ H fun x H1 => tl σ H1 fun l H2 => th σ H2 fun u H3 => r x l u H3 Q) : tSl r te tl th σ H Q := h
theorem w_noPart {Q : Option Int → Hp → Prop} (h : Q none H) : tNoPart σ H Q := h
theorem w_part {t : TE} {Q : Option Int → Hp → Prop} (h : t σ H fun x H1 => ∃ i, x = .int i ∧ Q (some i) H1) : tPart t σ H Q := h
theorem w_bm {K : PySem.W.Frag} {T : String} {r : V → List V → Hp → VK → Prop} {to : TE} {t : TA} {Q : VK} (h : to σ H fun x H1 => tyV K T x H1 ∧ t σ H1 fun xs H2 => r x xs H2 Q) : tBM K T r to t σ H Q := h
theorem w_bm0 {K : PySem.W.Frag} {T : String} {r : V → List V → Hp → VK → Prop} {to : TE} {Q : VK} (h : to σ H fun x H1 => tyV K T x H1 ∧ r x [] H1 Q) : tBM0 K T r to σ H Q := h
theorem w_strTy {K : PySem.W.Frag} {s : Str} {P : Prop} (h : P) : tyV K "str" (.str s) H ∧ P := ⟨rfl, h⟩
theorem w_lstTy {K : PySem.W.Frag} {a : Addr} {xs : List V} {P : Prop} (e : H a = some (.lst xs)) (h : P) : tyV K "list" (.ref a) H ∧ P := ⟨.inl ⟨rfl, _, SqL.of e⟩, h⟩
theorem w_bl {b : Bool} {Q : Bool → Prop} (h : Q b) : ∃ k, V.bl b = V.bl k ∧ Q k := ⟨b, rfl, h⟩
theorem w_int1 {i : Int} {Q : Int → Prop} (h : Q i) : ∃ k, V.int i = V.int k ∧ Q k := ⟨i, rfl, h⟩
theorem w_str1 {i : Str} {Q : Str → Prop} (h : Q i) : ∃ k, V.str i = V.str k ∧ Q k := ⟨i, rfl, h⟩
theorem w_rI0 {g : Int → Int → V} {i j : Int} {Q : VK} (h : Q (g i j) H) : rI0 g (.int i) (.int j) H Q := ⟨i, j, rfl, rfl, h⟩
theorem w_rI {C : Int → Int → Prop} {g : Int → Int → V} {i j : Int} {Q : VK} (c : C i j) (h : Q (g i j) H) : rI C g (.int i) (.int j) H Q := ⟨i, j, rfl, rfl, c, h⟩
theorem w_rU {g : Int → V} {i : Int} {Q : VK} (h : Q (g i) H) : rU g (.int i) H Q := ⟨i, rfl, h⟩
theorem w_eqI {i j : Int} {Q : VK} (h : Q (.bl (decide (V.int i = V.int j))) H) : rEq (.int i) (.int j) H Q := ⟨rfl, h⟩
theorem w_eqS {i j : Str} {Q : VK} (h : Q (.bl (decide (V.str i = V.str j))) H) : rEq (.str i) (.str j) H Q := ⟨rfl, h⟩
theorem w_neI {i j : Int} {Q : VK} (h : Q (.bl (!decide (V.int i = V.int j))) H) : rNe (.int i) (.int j) H Q := ⟨rfl, h⟩
theorem w_neS {i j : Str} {Q : VK} (h : Q (.bl (!decide (V.str i = V.str j))) H) : rNe (.str i) (.str j) H Q := ⟨rfl, h⟩
theorem w_ixL {K : PySem.W.Frag} {p : Addr} {xs : List V} {i : Int} {v : V} {Q : VK} (h : H p = some (.lst xs)) (a : atI xs i = some v) (k : Q v H) : rIxL K (.ref p) (.int i) H Q := ⟨p, xs, i, v, rfl, rfl, SqL.of h, a, k⟩
theorem w_ixT {K : PySem.W.Frag} {p : Addr} {xs : List V} {i : Int} {v : V} {Q : VK} (h : H p = some (.tup xs)) (a : atI xs i = some v) (k : Q v H) : rIxT K (.ref p) (.int i) H Q := ⟨p, xs, i, v, rfl, rfl, SqT.of h, a, k⟩
theorem w_ixS {z : Str} {i : Int} {c : Nat} {Q : VK} (h : z.length ≤ sizeLine) (a : atI z.cps.toList i = some c) (k : Q (.str ⟨#[c]⟩) H) : rIxS (.str z) (.int i) H Q := ⟨z, i, c, rfl, rfl, h, a, k⟩
theorem w_slS {z : Str} {l u : Option Int} {Q : VK} (h : z.length ≤ sizeLine) (k : Q (.str (cutS z l u)) H) : rSlS (.str z) l u H Q := ⟨z, rfl, h, k⟩
theorem w_lenS {K : PySem.W.Frag} {z : Str} {R : Nat → Prop} (h : z.length ≤ sizeLine) (k : R z.length) : ∃ (x : V) (n : Nat), [V.str z] = [x] ∧ LenV K x H n ∧ R n := ⟨_, _, rfl, ⟨h, rfl⟩, k⟩
theorem w_lenL {K : PySem.W.Frag} {p : Addr} {xs : List V} {R : Nat → Prop} (h : H p = some (.lst xs)) (k : R xs.length) : ∃ (x : V) (n : Nat), [V.ref p] = [x] ∧ LenV K x H n ∧ R n := ⟨_, _, rfl, .inl ⟨_, SqL.of h, rfl⟩, k⟩
theorem w_lenT {K : PySem.W.Frag} {p : Addr} {xs : List V} {R : Nat → Prop} (h : H p = some (.tup xs)) (k : R xs.length) : ∃ (x : V) (n : Nat), [V.ref p] = [x] ∧ LenV K x H n ∧ R n := ⟨_, _, rfl, .inr ⟨_, SqT.of h, rfl⟩, k⟩
theorem w_append {p : Addr} {xs : List V} {y : V} {Q : VK} (h : H p = some (.lst xs)) (l : xs.length < sizeLine) (k : Q .non (upd H p (.lst (xs ++ [y])))) : rAppend (.ref p) [y] H Q := ⟨p, xs, y, rfl, rfl, h, l, k⟩
theorem w_addS {i j : Str} {R : Str → Str → Prop} (l : i.length + j.length ≤ sizeLine) (k : R i j) : ∃ x y, V.str i = V.str x ∧ V.str j = V.str y ∧ x.length + y.length ≤ sizeLine ∧ R x y := ⟨i, j, rfl, rfl, l, k⟩
theorem w_bl2 {a b : Bool} {Q : Bool → Bool → Prop} (k : Q a b) : ∃ x y, V.bl a = V.bl x ∧ V.bl b = V.bl y ∧ Q x y := ⟨a, b, rfl, rfl, k⟩
theorem w_isN {P : Prop} (k : P) : V.non = .non ∧ P := ⟨rfl, k⟩
theorem w_listOf {K : PySem.W.Frag} {p : Addr} {ys : List V} {R : List V → Prop} (h : H p = some (.lst ys)) (k : R ys) : ∃ p' ys', [V.ref p] = [.ref p'] ∧ (SqL K H p' ys' ∨ SqT K H p' ys') ∧ R ys' := ⟨p, ys, rfl, .inl (SqL.of h), k⟩
theorem w_strOf {i : Int} {R : Int → Prop} (l : i.natAbs.log2 < 1920) (k : R i) : ∃ j, [V.int i] = [.int j] ∧ j.natAbs.log2 < 1920 ∧ R j := ⟨i, rfl, l, k⟩
theorem w_iT {b : Bool} {p q : Prop} (e : b = true) (h : p) : if b = true then p else q := by rw [e]; exact h
theorem w_iF {b : Bool} {p q : Prop} (e : b = false) (h : q) : if b = true then p else q := by rw [e]; exact h
theorem same_at {H H' : Hp} (s : Same H H') {a : Addr} {o : HO} (h : H a = some o) : H' a = some o := s _ _ h
theorem upd_at {H : Hp} {a b : Addr} {o u : HO} (n : b ≠ a) (h : H b = some u) : upd H a o b = some u := by rw [upd_ne n]; exact h
theorem upd_atN {H : Hp} {a b : Addr} {o u : HO} (f : H a = none) (h : H b = some u) : upd H a o b = some u := by rw [upd_ne (ne_of_none h f)]; exact h
theorem same_new {H H1 : Hp} {p : Addr} {o : HO} (s : Same H H1) (hp : H1 p = none) : Same H (upd H1 p o) := fun b u e => by
  rw [upd_ne (ne_of_none (s b u e) hp)]
  exact s b u e
theorem w_for {wi : TI} {g : TG} {tb : TS} (h : wi σ H fun J H1 => ∃ W : Nat → Nat → L2.St → Hp → Prop, (∃ m, W 0 m σ H1) ∧ ∀ i m σ H, W i m σ H →
  (J.stop i H ∧ D.nx σ H) ∨ (J.go i H ∧ ∃ N : L2.St → Hp → Prop, (∀ σ' H', N σ' H' → ∃ m', m' < m ∧ W (i + 1) m' σ' H') ∧ ∀ x H', J.yld i H x H' → g x σ H' fun σ2 H2 => tb { D with nx := N, ct := N, bk := D.nx } σ2 H2)) : tFor wi g tb D σ H := h
theorem w_lc {wi : TI} {g : TG} {tt : TT} {te : TE} {vs : List Nat} {Q : VK} (h : wi σ H fun J H1 => ∀ D, H1 D = none → ∃ W : Nat → Nat → Hp → Prop, (∃ m, W 0 m (upd H1 D (.lst []))) ∧ ∀ i m H, W i m H →
  (J.stop i H ∧ Q (.ref D) H) ∨ (J.go i H ∧ ∃ Nx : Hp → Prop, (∀ H', Nx H' → ∃ m', m' < m ∧ W (i + 1) m' H') ∧ ∀ x H', J.yld i H x H' → g x (wipe σ vs) H' fun σ2 H2 => wipe σ2 vs = wipe σ vs ∧ tt σ2 H2 fun b H3 =>
    if b = true then te σ2 H3 fun y H4 => ∃ acc, H4 D = some (.lst acc) ∧ acc.length < sizeLine ∧ Nx (upd H4 D (.lst (acc ++ [y]))) else Nx H3)) : tLc wi g tt te vs σ H Q := h
theorem w_iRng1 {ta : TA} {R : L2.It → Hp → Prop} (h : ta σ H fun vs H1 => ∃ j : Int, vs = [.int j] ∧ -(2 ^ 62) ≤ j ∧ j < 2 ^ 62 ∧ R (Itr 0 j.toNat) H1) : iRng1 ta σ H R := h
theorem w_iRng2 {ta : TA} {R : L2.It → Hp → Prop} (h : ta σ H fun vs H1 => ∃ i j : Int, vs = [.int i, .int j] ∧ (-(2 ^ 62) ≤ i ∧ i < 2 ^ 62 ∧ -(2 ^ 62) ≤ j ∧ j < 2 ^ 62) ∧ R (Itr i (j - i).toNat) H1) : iRng2 ta σ H R := h
theorem w_rng1 {i : Int} {R : Int → Prop} (b1 : -(2 ^ 62) ≤ i) (b2 : i < 2 ^ 62) (h : R i) : ∃ j : Int, [V.int i] = [.int j] ∧ -(2 ^ 62) ≤ j ∧ j < 2 ^ 62 ∧ R j := ⟨_, rfl, b1, b2, h⟩
theorem w_iList {K : PySem.W.Frag} {tl : TE} {R : L2.It → Hp → Prop} (h : tl σ H fun x H1 => ∃ a, x = .ref a ∧ (∃ xs, SqL K H1 a xs) ∧ R (Itl K a) H1) : iList K tl σ H R := h
theorem w_iTup {K : PySem.W.Frag} {tl : TE} {R : L2.It → Hp → Prop} (h : tl σ H fun x H1 => ∃ a, x = .ref a ∧ (∃ xs, SqT K H1 a xs) ∧ R (Itt K a) H1) : iTup K tl σ H R := h
theorem w_iStr {te : TE} {R : L2.It → Hp → Prop} (h : te σ H fun v H1 => ∃ x, v = .str x ∧ R (Its x) H1) : iStr te σ H R := h
theorem w_wipe {σ' : L2.St} {vs : List Nat} {P : Prop} (e : wipe σ vs = wipe σ' vs) (h : P) : wipe σ vs = wipe σ' vs ∧ P := ⟨e, h⟩
theorem w_acc {D : Addr} {acc : List V} {R : List V → Prop} (h : H D = some (.lst acc)) (l : acc.length < sizeLine) (k : R acc) : ∃ acc, H D = some (.lst acc) ∧ acc.length < sizeLine ∧ R acc := ⟨acc, h, l, k⟩
theorem w_itl {K : PySem.W.Frag} {a : Addr} {xs : List V} {R : Addr → Prop} (h : H a = some (.lst xs)) (k : R a) : ∃ b, V.ref a = V.ref b ∧ (∃ xs, SqL K H b xs) ∧ R b := ⟨a, rfl, ⟨_, SqL.of h⟩, k⟩
theorem w_itt {K : PySem.W.Frag} {a : Addr} {xs : List V} {R : Addr → Prop} (h : H a = some (.tup xs)) (k : R a) : ∃ b, V.ref a = V.ref b ∧ (∃ xs, SqT K H b xs) ∧ R b := ⟨a, rfl, ⟨_, SqT.of h⟩, k⟩
theorem w_M1 {r : V → List V → Hp → VK → Prop} {to te : TE} {Q : VK} (h : to σ H fun x H1 => (∃ a, x = .str a) ∧ te σ H1 fun y H2 => r x [y] H2 Q) : tM1 r to te σ H Q := h
theorem w_M0 {r : V → List V → Hp → VK → Prop} {to : TE} {Q : VK} (h : to σ H fun x H1 => (∃ a, x = .str a) ∧ r x [] H1 Q) : tM0 r to σ H Q := h
theorem w_isS {s : Str} {P : Prop} (h : P) : (∃ a, V.str s = .str a) ∧ P := ⟨⟨s, rfl⟩, h⟩
theorem w_Fld {K : PySem.W.Frag} {ta : TE} {f : Str} {Q : VK} (h : ta σ H fun x H1 => ∃ a C dx fs v, x = .ref a ∧ H1 a = some (.ins C dx fs) ∧ Cls K C ∧ NoAttr K C f ∧ fs.lookup f = some v ∧ Q v H1) : tFld K ta f σ H Q := h
theorem w_fld1 {K : PySem.W.Frag} {a C dx : Addr} {f : Str} {fs : List (Str × V)} {v : V} {R : V → Prop} (h : H a = some (.ins C dx fs)) (c : Cls K C) (n : NoAttr K C f) (l : fs.lookup f = some v) (k : R v) : ∃ a' C' dx' fs' v', V.ref a = .ref a' ∧ H a' = some (.ins C' dx' fs') ∧ Cls K C' ∧ NoAttr K C' f ∧ fs'.lookup f = some v' ∧ R v' := ⟨a, C, dx, fs, v, rfl, h, c, n, l, k⟩
theorem w_sFld {K : PySem.W.Frag} {ta tv : TE} {f : Str} (h : tv σ H fun y H1 => ta σ H1 fun x H2 => ∃ a C dx fs, x = .ref a ∧ H2 a = some (.ins C dx fs) ∧ Cls K C ∧ NoAttr K C f ∧ fs.length < 1000 ∧ D.nx σ (upd H2 a (.ins C dx (putF f y fs)))) : sFld K ta tv f D σ H := h
theorem w_sfld1 {K : PySem.W.Frag} {a C dx : Addr} {f : Str} {fs : List (Str × V)} {R : Addr → Addr → Addr → List (Str × V) → Prop} (h : H a = some (.ins C dx fs)) (c : Cls K C) (n : NoAttr K C f) (l : fs.length < 1000) (k : R a C dx fs) : ∃ a' C' dx' fs', V.ref a = .ref a' ∧ H a' = some (.ins C' dx' fs') ∧ Cls K C' ∧ NoAttr K C' f ∧ fs'.length < 1000 ∧ R a' C' dx' fs' := ⟨a, C, dx, fs, rfl, h, c, n, l, k⟩
theorem w_dget {td ty : TE} {Q : VK} (h : td σ H fun x H1 => ty σ H1 fun y H2 => ∃ a v, x = .ref a ∧ DGet H2 a y (some v) ∧ Q v H2) : tDGet td ty σ H Q := h
theorem w_dgetS {a : Addr} {kvs : List (Key × V)} {x : Str} {v : V} {R : V → Prop} (h : H a = some (.dK kvs)) (e : valV kvs (Sum.inr x : Key) = some v) (k : R v) : ∃ a' v', V.ref a = .ref a' ∧ DGet H a' (.str x) (some v') ∧ R v' := ⟨a, v, rfl, e ▸ DGet.k (k := Sum.inr x) h, k⟩
theorem w_dgetI {a : Addr} {kvs : List (Key × V)} {x : Int} {v : V} {R : V → Prop} (h : H a = some (.dK kvs)) (e : valV kvs (Sum.inl x : Key) = some v) (k : R v) : ∃ a' v', V.ref a = .ref a' ∧ DGet H a' (.int x) (some v') ∧ R v' := ⟨a, v, rfl, e ▸ DGet.k (k := Sum.inl x) h, k⟩
theorem w_dIn {ty td : TE} {Q : VK} (h : ty σ H fun y H1 => td σ H1 fun x H2 => ∃ a o, x = .ref a ∧ DGet H2 a y o ∧ Q (.bl o.isSome) H2) : tDIn ty td σ H Q := h
theorem w_dNotIn {ty td : TE} {Q : VK} (h : ty σ H fun y H1 => td σ H1 fun x H2 => ∃ a o, x = .ref a ∧ DGet H2 a y o ∧ Q (.bl (!o.isSome)) H2) : tDNotIn ty td σ H Q := h
theorem w_dinS {a : Addr} {kvs : List (Key × V)} {x : Str} {R : Option V → Prop} (h : H a = some (.dK kvs)) (k : R (valV kvs (Sum.inr x : Key))) : ∃ a' o, V.ref a = .ref a' ∧ DGet H a' (.str x) o ∧ R o := ⟨a, _, rfl, DGet.k (k := Sum.inr x) h, k⟩
theorem w_sDPut {td ty tv : TE} (h : tv σ H fun v H1 => td σ H1 fun x H2 => ty σ H2 fun y H3 => ∃ a H4, x = .ref a ∧ DPut H3 a y v H4 ∧ D.nx σ H4) : sDPut td ty tv D σ H := h
theorem w_dputI {a : Addr} {kvs : List (Key × V)} {x : Int} {v : V} {R : Hp → Prop} (h : H a = some (.dK kvs)) (l : kvs.length < sizeLine) (k : R (upd H a (.dK (putK kvs (Sum.inl x : Key) v)))) : ∃ a' H', V.ref a = .ref a' ∧ DPut H a' (.int x) v H' ∧ R H' := ⟨a, _, rfl, DPut.k (k := Sum.inl x) h l, k⟩
theorem w_dputS {a : Addr} {kvs : List (Key × V)} {x : Str} {v : V} {R : Hp → Prop} (h : H a = some (.dK kvs)) (l : kvs.length < sizeLine) (k : R (upd H a (.dK (putK kvs (Sum.inr x : Key) v)))) : ∃ a' H', V.ref a = .ref a' ∧ DPut H a' (.str x) v H' ∧ R H' := ⟨a, _, rfl, DPut.k (k := Sum.inr x) h l, k⟩
theorem w_dnewK {Q : VK} (k : ∀ p, H p = none → Q (.ref p) (upd H p (.dK []))) : tDNewK σ H Q := k
theorem w_meth {C : Addr} {m : Str} {sp : Sp} {dvs : List V} {E : XK} {ta : TE} {t : TA} {Q : VK} (h : ta σ H fun x H1 => ∃ a dx fs, x = .ref a ∧ H1 a = some (.ins C dx fs) ∧ fs.lookup m = none ∧ t σ H1 fun vs H2 => sp (x :: (vs ++ dvs)) H2 Q E) : tMeth C m sp dvs E ta t σ H Q := h
theorem w_meth1 {a C dx : Addr} {m : Str} {fs : List (Str × V)} {P : Prop} (h : H a = some (.ins C dx fs)) (l : fs.lookup m = none) (k : P) : ∃ a' dx' fs', V.ref a = .ref a' ∧ H a' = some (.ins C dx' fs') ∧ fs'.lookup m = none ∧ P := ⟨a, dx, fs, rfl, h, l, k⟩
theorem w_make {C : Addr} {sp : Sp} {dvs : List V} {E : XK} {t : TA} {Q : VK} (h : t σ H fun vs H1 => ∀ x dx, H1 x = none → H1 dx = none → dx ≠ x → sp (.ref x :: (vs ++ dvs)) (upd (upd H1 dx (.own x)) x (.ins C dx [])) (fun v H2 => v = .non ∧ Q (.ref x) H2) E) : tMake C sp dvs E t σ H Q := h
end steps
theorem sc_is_name : FnScope ["word", "sign"] ["word"] (defScope s_is_name) := ⟨rfl, rfl, rfl, by decide +kernel, rfl, by decide +kernel, by decide +kernel⟩
theorem sc_is_number : FnScope ["value", "least", "most"] ["value", "least", "most"] (defScope s_is_number) := ⟨rfl, rfl, rfl, by decide +kernel, rfl, by decide +kernel, by decide +kernel⟩
theorem sc_is_amount : FnScope ["value"] ["value"] (defScope s_is_amount) := ⟨rfl, rfl, rfl, by decide +kernel, rfl, by decide +kernel, by decide +kernel⟩
theorem sc_checked_rate : FnScope ["rate", "one"] ["rate"] (defScope s_checked_rate) := ⟨rfl, rfl, rfl, by decide +kernel, rfl, by decide +kernel, by decide +kernel⟩
theorem sc_changed : FnScope ["amount", "rate", "over", "under", "found"] ["amount", "rate"] (defScope s_changed) := ⟨rfl, rfl, rfl, by decide +kernel, rfl, by decide +kernel, by decide +kernel⟩
theorem sc_rest_of : FnScope ["amount", "rate", "told"] ["amount", "rate"] (defScope s_rest_of) := ⟨rfl, rfl, rfl, by decide +kernel, rfl, by decide +kernel, by decide +kernel⟩
theorem sc_checked_weights : FnScope ["weights", "one"] ["weights"] (defScope s_checked_weights) := ⟨rfl, rfl, rfl, by decide +kernel, rfl, by decide +kernel, by decide +kernel⟩
theorem sc_shared : FnScope ["amount", "weights", "rows", "every", "found", "one", "rests", "at", "rest"] ["amount", "weights"] (defScope s_shared) := ⟨rfl, rfl, rfl, by decide +kernel, rfl, by decide +kernel, by decide +kernel⟩
theorem sc_judge_shared : FnScope ["amount", "weights", "told", "rows", "one", "every", "off", "at"] ["amount", "weights", "told"] (defScope s_judge_shared) := ⟨rfl, rfl, rfl, by decide +kernel, rfl, by decide +kernel, by decide +kernel⟩
theorem sc_Rates___init__ : FnScope ["self"] ["self"] (defScope s_Rates___init__) := ⟨rfl, rfl, rfl, by decide +kernel, rfl, by decide +kernel, by decide +kernel⟩
theorem sc_Rates_tell : FnScope ["self", "day", "one", "other", "rate", "row"] ["self", "day", "one", "other", "rate"] (defScope s_Rates_tell) := ⟨rfl, rfl, rfl, by decide +kernel, rfl, by decide +kernel, by decide +kernel⟩
theorem sc_Rates_rate : FnScope ["self", "one", "other", "day", "told", "row", "rows"] ["self", "one", "other", "day"] (defScope s_Rates_rate) := ⟨rfl, rfl, rfl, by decide +kernel, rfl, by decide +kernel, by decide +kernel⟩
theorem sc_Rates_rows : FnScope ["self"] ["self"] (defScope s_Rates_rows) := ⟨rfl, rfl, rfl, by decide +kernel, rfl, by decide +kernel, by decide +kernel⟩
theorem sc_Rates_copy : FnScope ["self", "found"] ["self"] (defScope s_Rates_copy) := ⟨rfl, rfl, rfl, by decide +kernel, rfl, by decide +kernel, by decide +kernel⟩
theorem sc__law_same : FnScope ["actual", "due", "k"] ["actual", "due"] (defScope s__law_same) := ⟨rfl, rfl, rfl, by decide +kernel, rfl, by decide +kernel, by decide +kernel⟩
theorem sc__law_pool : FnScope ["script"] ["script"] (defScope s__law_pool) := ⟨rfl, rfl, rfl, by decide +kernel, rfl, by decide +kernel, by decide +kernel⟩
theorem sc__law_draw : FnScope ["pool", "many", "found", "cell", "mixed"] ["pool", "many"] (defScope s__law_draw) := ⟨rfl, rfl, rfl, by decide +kernel, rfl, by decide +kernel, by decide +kernel⟩
theorem sc__law_pick : FnScope ["pool", "rows"] ["pool", "rows"] (defScope s__law_pick) := ⟨rfl, rfl, rfl, by decide +kernel, rfl, by decide +kernel, by decide +kernel⟩
theorem sc__law_refusal : FnScope ["problem", "kinds", "found", "k"] ["problem"] (defScope s__law_refusal) := ⟨rfl, rfl, rfl, by decide +kernel, rfl, by decide +kernel, by decide +kernel⟩
theorem sc__law_good : FnScope ["amount", "weights", "told", "every", "one", "off", "at"] ["amount", "weights", "told"] (defScope s__law_good) := ⟨rfl, rfl, rfl, by decide +kernel, rfl, by decide +kernel, by decide +kernel⟩
theorem sc__law_refused : FnScope ["choice", "one", "two", "three", "problem"] ["choice", "one", "two", "three"] (defScope s__law_refused) := ⟨rfl, rfl, rfl, by decide +kernel, rfl, by decide +kernel, by decide +kernel⟩
theorem sc__law_rates_right : FnScope ["pool", "rates", "rows", "kept", "k", "one", "other", "day", "rate", "row", "best"] ["pool"] (defScope s__law_rates_right) := ⟨rfl, rfl, rfl, by decide +kernel, rfl, by decide +kernel, by decide +kernel⟩
theorem sc_law : FnScope ["script", "pool", "k", "amount", "rate", "much", "weights", "j", "told", "every", "due", "one", "rests", "at", "rest", "some", "i", "other", "wrong"] ["script"] (defScope s_law) := ⟨rfl, rfl, rfl, by decide +kernel, rfl, by decide +kernel, by decide +kernel⟩
/-! ### a comprehension over range(..) where an exception is being handled -/
/-- one more number of a range's iterator; X may be handling something -/
theorem rgH_go {X : Cx} {ps : List (Addr × Obj)} {τ : L2.St} {G : Hp} {z : Shared} {tg : Expr} {j : Addr} {lo : Int} {n i : Nat} {E : Value → Shared → Prop} (J : Inv X ps τ G z) (fr : FpOk X ps G j)
    (at_ : IsRangeIter z.heap j (lo + (i : Nat) * 1) ((n : Int) - (i : Nat)) 1) (lt : i < n) :
    wpAny (model X.prog X.w) X.A (pyNext (.ref j)) (fun r z1 => ∃ u, r = some u ∧ wpAny (model X.prog X.w) X.A (letOwnedTupleGo tg (.ref j) u) (fun _ z2 =>
      Inv X ps τ G z2 ∧ RelV (.int (lo + i)) u ∧ IsRangeIter z2.heap j (lo + ((i + 1 : Nat) : Int) * 1) ((n : Int) - ((i + 1 : Nat) : Int)) 1) E z1) E z := by
  obtain ⟨q0, q1, _, q3, q4, q5⟩ := fr
  refine wpAny_pyNext_range_item at_ (by omega) fun g at2 same => ?_
  rw [show lo + ((i : Nat) : Int) * 1 + 1 = lo + ((i + 1 : Nat) : Int) * 1 by omega, show (n : Int) - ((i : Nat) : Int) - 1 = (n : Int) - ((i + 1 : Nat) : Int) by omega] at at2
  have J2 : Inv X ps τ G { z with heap := g, toks := z.toks + 1 } := J.turned (fun b o nb e => (same.2 b nb).trans e) q0 q1 q3 q4 q5
  refine ⟨_, rfl, ?_⟩
  refine go_of (n := "range_iterator") (s := { z with heap := g, toks := z.toks + 1 }) at2 rfl rfl (by decide) ⟨J2, ⟨z.toks, ?_⟩, at2⟩
  rw [Int.mul_one]
/-- no more of them -/
theorem rgH_end {X : Cx} {ps : List (Addr × Obj)} {τ : L2.St} {G : Hp} {z : Shared} {j x1 : Addr} {lo : Int} {n i : Nat} {E : Value → Shared → Prop} (J : Inv X ps τ G z) (fr : FpOk X ps G j) (hot : HotX.HotAt X.A x1 z.heap)
    (at_ : IsRangeIter z.heap j (lo + (i : Nat) * 1) ((n : Int) - (i : Nat)) 1) (ge : n ≤ i) :
    wpAny (model X.prog X.w) X.A (pyNext (.ref j)) (fun r z1 => r = none ∧ Inv X ps τ G z1) E z := by
  obtain ⟨q0, q1, _, q3, q4, q5⟩ := fr
  exact HotX.pyNext_range_end_hot hot at_ (by omega) fun g all => ⟨rfl, J.turned (t' := z.toks) (fun b o _ e => all b o e) q0 q1 q3 q4 q5⟩
/-- what is pinned outside stands within a comprehension's block, too -/
theorem inv_withPn {X : Cx} {ps : List (Addr × Obj)} {τ : L2.St} {G : Hp} {z : Shared} (J : Inv X ps τ G z) (pn : List (Addr × Obj)) (hp : ∀ p ∈ pn, z.heap.get? p.1 = some p.2 ∧ G p.1 = none ∧ p.1 ≠ X.env.locals ∧ p.1 ∉ X.fs ∧ ∀ v, p.2.data ≠ .cell v) : Inv { X with pn := pn } ps τ G z where
  ok := ⟨J.ok.mod, J.ok.kind, J.ok.glob, J.ok.blt, J.ok.above, J.ok.inj, J.ok.has, J.ok.cab, J.ok.hd, J.ok.frames, J.ok.stk, J.ok.exf, J.ok.bs, J.ok.bsz, J.ok.noex, J.ok.exfs, J.ok.funs, J.ok.frf⟩
  os := J.os
  bare := J.bare
  base := J.base
  loc := J.loc
  cell := J.cell
  free := J.free
  freeC := J.freeC
  pin := fun p m => (List.mem_append.mp m).elim (hp p) fun m2 => J.pin p (List.mem_append_right _ m2)
  hok := J.hok
  len := J.len
theorem inv_noPn {X : Cx} {ps pn : List (Addr × Obj)} {τ : L2.St} {G : Hp} {z : Shared} (J : Inv { X with pn := pn } ps τ G z) (h0 : X.pn = []) : Inv X ps τ G z where
  ok := ⟨J.ok.mod, J.ok.kind, J.ok.glob, J.ok.blt, J.ok.above, J.ok.inj, J.ok.has, J.ok.cab, J.ok.hd, J.ok.frames, J.ok.stk, J.ok.exf, J.ok.bs, J.ok.bsz, J.ok.noex, J.ok.exfs, J.ok.funs, J.ok.frf⟩
  os := J.os
  bare := J.bare
  base := J.base
  loc := J.loc
  cell := J.cell
  free := J.free
  freeC := J.freeC
  pin := fun p m => J.pin p (List.mem_append_right _ (by rw [h0] at m; exact m))
  hok := J.hok
  len := J.len
section
variable {X : Cx}
/-- [elt for tg in iter if ..] while something is handled: what lc_core tells where nothing is -/
theorem hot_core {ps : List (Addr × Obj)} {z : Shared} {τ : L2.St} {G : Hp} {Q : VK} {elt tg iter : Expr} {ifs : List Expr} {scope : Scope} {own : List (Str × Nat)} {pos pos' : Pos} {wi : TI} {g : TG} {tt : TT} {te : TE} {use : Option (Value → Sem Unit)} {Qf : Value → Shared → Prop}
    (hot : L2H.HotC X) (nd : X.N.Nodup) (J : Inv X ps τ G z) (hi : L2H.PIH X tg iter wi) (ok : BlkOk X.N X.env.scope scope own)
    (tgR : ∀ z G C cl fp, PG (X.blk z G scope (compEnvC scope cl C X.env) fp) tg g) (ifR : ∀ z G C cl fp, PTs (X.blk z G scope (compEnvC scope cl C X.env) fp) ifs tt)
    (elR : ∀ z G C cl fp, PE (X.blk z G scope (compEnvC scope cl C X.env) fp) elt te) (fold : ∀ x, foldedSetIterable iter X.env x = pure x) (rd : tLc wi g tt te (own.map (·.2)) τ G Q)
    (fin : ∀ D C z' m G', Inv X ps τ G' z' → Q (.ref D) G' → z'.heap.Ns C m → FpOk X ps G' C → compPost (model X.prog X.w) X.A X.xe use Qf (.ref D) C (.ok .next) z') :
    wpAny (model X.prog X.w) X.A (comprehension (.ListComp elt [⟨tg, iter, ifs, 0⟩] scope pos) scope X.env pos' (newList []) false (eval iter X.env) use) Qf X.xe z := by
  have clo := closure_ok (scope := scope) (env := X.env) fun y hy e => J.ok.has _ ((ok.free y hy e).imp id id)
  refine wpAny_comprehension_free (use := use) rfl fold clo ok.kind (fun y hy e => (ok.uniq y hy).trans (by rw [e])) ?_
  refine thn (hi.run ps z τ G _ J rd) fun _ z1 r1 => thn r1 fun _ z2 ⟨j, fp, tn, It0, G2, ej, J2, T, t2, free2, rd2⟩ => ?_
  subst ej
  refine wpAny_newObj_type (newEnv_comp ?_) (by show 0 ≤ sizeLine; decide)
  have newD : G2 z2.heap.objs.size = none := J2.hok.fresh (Nat.le_refl _)
  obtain ⟨W, ⟨m0, w0⟩, turn⟩ := rd2 _ newD
  -- the block's beginning
  obtain ⟨z3, ez3⟩ : ∃ z3 : Shared, z3 = { z2 with heap := z2.heap.push { cls := .type "list", data := .seq ([] : List Value).toArray } } := ⟨_, rfl⟩
  obtain ⟨G3, eG3⟩ : ∃ G3 : Hp, G3 = upd G2 z2.heap.objs.size (.lst []) := ⟨_, rfl⟩
  have grow : ∀ b o, z2.heap.get? b = some o → z3.heap.get? b = some o := fun b o e => by rw [ez3]; exact Heap.get?_push_of_some _ e
  have J3 : Inv X ps τ G3 z3 := by
    rw [ez3, eG3]
    exact J2.laid (t' := z2.toks) (fun b o e => Heap.get?_push_of_some _ e) (Nat.le_refl _) ⟨Nat.zero_le _, [], 0, .nil, Heap.get?_push_size _ rfl⟩
  have size3 : z3.heap.objs.size = z2.heap.objs.size + 1 := by rw [ez3]; exact Heap.size_push _ _
  have small : ∀ b ∈ fp, b < z2.heap.objs.size := fun b m => (T.obj _ _ t2 b m).elim fun _ e => Heap.lt_size e.1
  have free3 : ∀ b ∈ fp, FpOk X ps G3 b ∧ b < z3.heap.objs.size := fun b m => by
    have lt := small b m
    refine ⟨⟨?_, (free2 b m).2⟩, by rw [size3]; exact Nat.lt_succ_of_lt lt⟩
    rw [eG3, upd_ne (Nat.ne_of_lt lt)]
    exact (free2 b m).1
  have t3 : tn 0 z3.heap := T.keep _ _ _ t2 fun b _ o e => grow b o e
  have B0 := block_start J3 ok nd free3
  have tg1 := tgR z3 G3 z3.heap.objs.size (cellsFrom (z3.heap.objs.size + 1) scope.names (cloFrom X.env.cells scope.names [])) fp
  have if1 := ifR z3 G3 z3.heap.objs.size (cellsFrom (z3.heap.objs.size + 1) scope.names (cloFrom X.env.cells scope.names [])) fp
  have el1 := elR z3 G3 z3.heap.objs.size (cellsFrom (z3.heap.objs.size + 1) scope.names (cloFrom X.env.cells scope.names [])) fp
  rw [← eG3] at w0
  rw [show z2.heap.push { cls := .type "list", data := .seq ([] : List Value).toArray } = z3.heap by rw [ez3]]
  show codeAny _ _ (.compStart (.ListComp elt [⟨tg, iter, ifs, 0⟩] scope pos) 0 (.ref j) (.ref z2.heap.objs.size) (compEnvC scope (cellsFrom (z3.heap.objs.size + 1) scope.names (cloFrom X.env.cells scope.names [])) z3.heap.objs.size X.env)) (compPost (model X.prog X.w) X.A X.xe use Qf (.ref z2.heap.objs.size) z3.heap.objs.size) _
  rw [show ({ z2 with heap := pushCells (z3.heap.push { cls := .type "dict", data := .dict #[] }) scope.names } : Shared) = { z3 with heap := pushCells (z3.heap.push { cls := .type "dict", data := .dict #[] }) scope.names } by rw [ez3]]
  generalize hce : compEnvC scope (cellsFrom (z3.heap.objs.size + 1) scope.names (cloFrom X.env.cells scope.names [])) z3.heap.objs.size X.env = ce at B0 tg1 if1 el1 ⊢
  have ceL : ce.locals = z3.heap.objs.size := by rw [← hce]; rfl
  obtain ⟨z4, ez4⟩ : ∃ z4 : Shared, z4 = { z3 with heap := pushCells (z3.heap.push { cls := .type "dict", data := .dict #[] }) scope.names } := ⟨_, rfl⟩
  rw [← ez4] at B0 ⊢
  have t4 : tn 0 z4.heap := T.keep _ _ _ t3 fun b _ o e => by rw [ez4]; exact pushCells_keeps _ _ _ _ (Heap.get?_push_of_some _ e)
  -- what is pinned outside is pinned in the block
  have pinned : ∀ {τ' : L2.St} {G' : Hp} {z' : Shared}, Inv (X.blk z3 G3 scope ce fp) [] τ' G' z' → Inv { X.blk z3 G3 scope ce fp with pn := X.pn } [] τ' G' z' := fun {τ' G' z'} J' => inv_withPn J' X.pn fun p m => by
    obtain ⟨a1, a2, a3, a4, a5⟩ := J3.pin p (List.mem_append_left _ m)
    have nfs : p.1 ∉ frs X.stack := fun y => (List.mem_cons.mp (J3.stkSub p.1 y)).elim a3 a4
    have nfp : p.1 ∉ fp := fun y => (free3 p.1 y).1.2.2.2.2.2 p (List.mem_append_left _ m) rfl
    exact ⟨J'.base.keep _ _ a1 a2 nfs nfp, J'.base.free _ _ a1 a2 nfp, fun y => absurd (Heap.lt_size a1) (by rw [show p.1 = z3.heap.objs.size from y.trans ceL]; exact Nat.lt_irrefl _), nfs, a5⟩
  have hotB : L2H.HotC { X.blk z3 G3 scope ce fp with pn := X.pn } := hot
  have away : ∀ {τ' : L2.St} {G' : Hp} {z' : Shared}, Inv { X.blk z3 G3 scope ce fp with pn := X.pn } [] τ' G' z' → (∀ b ∈ fp, G' b = none) → ∀ b ∈ fp, FpOk { X.blk z3 G3 scope ce fp with pn := X.pn } [] G' b := fun {τ' G' z'} J' no b m =>
    ⟨no b m, (J'.ok.exf b m).1, J'.ok.exfs b m, .inl m, fun x c e => (J'.ok.exf b m).2 x c e, fun p y => (free3 b m).1.2.2.2.2.2 p (List.mem_append_left _ ((List.mem_append.mp y).elim id fun v => by cases v))⟩
  refine codeAny_compStart_list ?loop (T.self X.A 0 _ _ _ t4 ?loop)
  refine compLoop_any (fun n z' => ∃ i G', Inv (X.blk z3 G3 scope ce fp) [] (wipe τ (own.map (·.2))) G' z' ∧ tn i z'.heap ∧ (∀ b ∈ fp, G' b = none) ∧ W i n G') ?_ m0 ⟨0, G3, B0, t4, fun b m => (free3 b m).1.1, w0⟩
  rintro n z5 ⟨i, G5, J5, t5, no5, w5⟩
  have P5 := pinned J5
  rcases turn i n G5 w5 with ⟨stop, q⟩ | ⟨go, Nx, less, step⟩
  · refine thnF (T.done { X.blk z3 G3 scope ce fp with pn := X.pn } rfl rfl rfl hotB i [] z5 _ G5 (fun _ _ => False) P5 (away P5 no5) t5 stop) fun r z6 ⟨er, J6⟩ => ?_
    subst er
    have back : Inv X ps τ G5 z6 := J3.call' (ch := fp) J6.os J6.base J6.hok J6.bare fun b m => ⟨(free3 b m).1.2.2.2.1, (free3 b m).1.2.1, (free3 b m).1.2.2.2.2.1, (free3 b m).1.2.2.2.2.2⟩
    have noC : G5 z3.heap.objs.size = none := ceL ▸ J6.free
    obtain ⟨m, ns, _⟩ := J6.loc
    exact fin _ z3.heap.objs.size z6 m G5 back q (ceL ▸ ns) (J3.fpOk (Nat.le_refl _) noC)
  · refine thnF (T.item { X.blk z3 G3 scope ce fp with pn := X.pn } rfl rfl rfl hotB i [] z5 _ G5 (fun _ _ => False) P5 (away P5 no5) t5 go) fun r z6 ⟨u, er, h6⟩ => ?_
    subst er
    refine thnF h6 fun _ z7 ⟨x, G7, P7, r7, y7, t7, no7⟩ => ?_
    have J7 := (inv_noPn P7 rfl).pinned (fun b m => let a := away P7 no7 b m; ⟨a.1, a.2.1, a.2.2.1, a.2.2.2.1, a.2.2.2.2.1, fun p y => by cases y⟩) (T.obj _ _ t7)
    refine thnF (tg1.run _ z7 _ G7 x u _ J7 r7 (step x G7 y7)) fun _ z8 ⟨τ8, G8, J8, ew8, q8⟩ => thnF (if1.run _ z8 τ8 G8 _ J8 q8) fun b z9 ⟨G9, J9, q9⟩ => ?_
    have next : ∀ {z' : Shared} {G' : Hp}, Inv (X.blk z3 G3 scope ce fp) ([] ++ pinsAt fp z7.heap) τ8 G' z' → Nx G' → ∃ m, m < n ∧ ∃ i G', Inv (X.blk z3 G3 scope ce fp) [] (wipe τ (own.map (·.2))) G' z' ∧ tn i z'.heap ∧ (∀ b ∈ fp, G' b = none) ∧ W i m G' := fun {z' G'} J' nx => by
      obtain ⟨m', lt, w'⟩ := less G' nx
      have held : ∀ b ∈ fp, ∀ o, z7.heap.get? b = some o → z'.heap.get? b = some o ∧ G' b = none := fun b m o e =>
        ⟨(J'.pin (b, o) (List.mem_append_right _ (List.mem_append_right _ (mem_pinsAt m e)))).1, (J'.pin (b, o) (List.mem_append_right _ (List.mem_append_right _ (mem_pinsAt m e)))).2.1⟩
      refine ⟨m', lt, i + 1, G', (J'.unpinned (pins := [])).weak (by rw [← ew8, wipe_length]) (fun k v e => (wipe_some (ew8 ▸ e)).1), T.keep _ _ _ t7 fun b m o e => (held b m o e).1, fun b m => ?_, w'⟩
      exact (T.obj _ _ t7 b m).elim fun o e => (held b m o e.1).2
    cases b with
    | false => exact next J9 (by simpa using q9)
    | true =>
      have q9' : te τ8 G9 fun y H4 => ∃ acc, H4 z2.heap.objs.size = some (.lst acc) ∧ acc.length < sizeLine ∧ Nx (upd H4 z2.heap.objs.size (.lst (acc ++ [y]))) := by simpa using q9
      refine thnF (el1.run _ z9 τ8 G9 _ J9 q9') fun v z10 ⟨y, G10, J10, r10, acc, eD, sz, nx⟩ => ?_
      exact app_ok (X := X.blk z3 G3 scope ce fp) J10 eD sz r10 fun z11 J11 => next J11 nx
end
section
variable {X : Cx}
/-- y = [..] on one line, y a local, while something is handled -/
theorem ps_hotLc {i : Nat} {y : Str} {yp : Pos} {elt tg iter : Expr} {ifs : List Expr} {scope : Scope} {own : List (Str × Nat)} {pos spos : Pos} {wi : TI} {g : TG} {tt : TT} {te : TE} (hot : L2H.HotC X) (nd : X.N.Nodup) (at_ : X.N[i]? = some y) (loc : X.env.scope.names.lookup y = some .local)
    (sw : swapsWith (.ListComp elt [⟨tg, iter, ifs, 0⟩] scope pos) (some (.Name y yp)) spos.line X.env = pure true) (hi : L2H.PIH X tg iter wi) (ok : BlkOk X.N X.env.scope scope own)
    (tgR : ∀ z G C cl fp, PG (X.blk z G scope (compEnvC scope cl C X.env) fp) tg g) (ifR : ∀ z G C cl fp, PTs (X.blk z G scope (compEnvC scope cl C X.env) fp) ifs tt)
    (elR : ∀ z G C cl fp, PE (X.blk z G scope (compEnvC scope cl C X.env) fp) elt te) (fold : ∀ x, foldedSetIterable iter X.env x = pure x := by intro _; rfl) :
    PS X (.Assign [.Name y yp] (.ListComp elt [⟨tg, iter, ifs, 0⟩] scope pos) spos) (tAsg (tLc wi g tt te (own.map (·.2))) (gName i)) := ⟨fun ps z τ G D J rd => by
  rw [exec_Assign_Name_used _ _ _ _ sw]
  refine wpAny_bind (wpAny_standAt (wpAny_bind ?_))
  refine wpAny_bind (thn (hot_core (use := some (assign (.Name y yp) X.env)) (Qf := fun _ z' => SP X ps D .next z') (Q := fun x G1 => gName i x τ G1 D.nx) hot nd J hi ok tgR ifR elR fold rd fun L C z' m G' J' q ns free => ?_) fun _ z' e => wpAny_pure (wpAny_pure e))
  obtain ⟨c0, c1, _, c3, c4, c5⟩ := free
  refine wpAny_assign_Name (store_ok2 (v := V.ref L) J' nd at_ (.inl loc) rfl (fun z2 J2 st => ?_) (.inr loc))
  obtain ⟨b, same, where_⟩ := st
  have ne : C ≠ b := where_.elim (fun e => by rw [e]; exact c1) fun e k => c4 y b e k.symm
  exact ⟨m, ns.sameBut same ne, fun g3 s3 => ⟨_, G', J2.turned (t' := z2.toks) (fun b o nb e => (s3.2 b nb).trans e) c0 c1 c3 c4 c5, q⟩⟩⟩
end
/-! ### a def that an except suite hands its exception -/
/-- called with the exception that is being handled, of the class C, it gives r, and what stood stands -/
structure FnE (P : Program) (w : World) (K : PySem.W.Frag) (mg : Str → Option Value) (base : Heap) (C : Addr) (k : Nat) (f : Addr) (fd : FuncData) (ps : List Str) (r : V) : Prop where
  run : ∀ (A : Around) (outer : List Env) (z : Shared) (G : Hp) (args : Args) (us : List Value) (p : Addr × Obj) (Q : VK), L2H.RoomH k A → L2H.Hot1 A p → Zc (.ref C) none p.2 → L2H.PinOk outer G z p → Env0 P w K mg base A outer z G →
    BindsTo z fd args (ps.zip us) → Vals [V.ref p.1] us → (∀ G', Same G G' → Q r G') → codeAny (model P w) A (.call (.ref f) args) (CR CX0 outer P w G z Q E0) z
theorem fnE_of {P : Program} {w : World} {K : PySem.W.Frag} {mg : Str → Option Value} {base : Heap} {C : Addr} {k : Nat} {f : Addr} {x qual : Str} {st : Stmt} {fd : FuncData} {N ps : List Str} {r : V} (F : Fun K x qual st f fd) (S : FnScope N ps (defScope st)) (one : ps.length = 1)
    (rd : ∀ (cd : Value) (A : Around) (outer : List Env) (z : Shared) (G : Hp) (Q : VK) (p : Addr × Obj), L2H.Hot1 A p → Zc (.ref C) none p.2 → L2H.RoomH k (A.deeper (envOfC qual (defScope st) z.heap.objs.size f cd)) → (∀ G', Same G G' → Q r G') →
      ∃ t, PSs (L2H.cxH CX0 P w K mg base N qual (defScope st) f cd A outer z G E0 p) (defBody st) t ∧ t { nx := fun _ G' => Q .non G', rt := Q } (L2.start N [V.ref p.1]) G) :
    FnE P w K mg base C (k + 1) f fd ps r := by
  obtain ⟨oc, od, kV, doc, pm, an, cd, ct, sl, rfl, lk, hcd⟩ := F.ex
  refine ⟨fun A outer z G args us p Q room hot zc pin e0 bind vals q => ?_⟩
  have kz : K.In z.heap := e0.mod.kin.keeps fun b o e => (e0.bs b o e).1
  have nl : z.heap.NoLimit := e0.mod.nolimit.keeps fun b o e => (e0.bs b o e).1
  have kinds : ∀ y ∈ ps.zip us, (defScope st).names.lookup y.1 = some .local ∨ ((defScope st).names.lookup y.1 = some .cell ∧ ((cellsFrom (z.heap.objs.size + 1) (defScope st).names []).lookup y.1).isSome = true) :=
    fun y m => (S.par y.1 (List.of_mem_zip (show (y.1, y.2) ∈ ps.zip us from m)).1).imp id fun c => ⟨c, PySem.W.cellsFrom_some _ _ _ (.inl c)⟩
  refine codeAny_call_function room.depth (kz _ _ lk) rfl S.co S.gen rfl (PySem.W.codeRec_of kz hcd) (bind _ _ _ _ ?_)
  refine wpAny_newFunctionEnv_cells S.kind kinds fun env ee z1 ic => ?_
  subst ee
  obtain ⟨t, ht, hq⟩ := rd cd A outer z G Q p hot zc (room.deeper _) q
  have J := L2H.inv_startH (vs := [V.ref p.1]) (CX := CX0) (P := P) (w := w) (K := K) (mg := mg) (base := base) (E := E0) S pin e0 one.symm vals ic
  refine ⟨nl.keeps ic.toInCall.keep, codeAny_func (wpAny_mono (ht.run [] z1 _ G _ J hq) (fun fl z' e => ?_) fun _ _ e => e)⟩
  match fl, e with
  | .ret _, ⟨v, τ, G', J', rv, q'⟩ => exact ⟨v, G', J'.os, J'.bare, J'.base, J'.hok, rv, q'⟩
  | .next, ⟨τ, G', J', q'⟩ => exact ⟨.non, G', J'.os, J'.bare, J'.base, J'.hok, rfl, q'⟩
  | .brk, ⟨_, _, _, q'⟩ => exact q'.elim
  | .cont, ⟨_, _, _, q'⟩ => exact q'.elim
/-- f(problem) in the suite -/
theorem pe_handed {X : Cx} {C a : Addr} {oe : Obj} {pn : List (Addr × Obj)} {k i : Nat} {f : Addr} {fd : FuncData} {pp : Str} {r : V} {x y : Str} {p q pos : Pos} (F : FnE X.prog X.w X.K X.mg X.base C k f fd [pp] r) (room : L2H.RoomH k (X.suite a ((a, oe) :: pn)).A)
    (zc : Zc (.ref C) none oe) (hot : L2H.Hot1 (X.suite a ((a, oe) :: pn)).A (a, oe)) (hg : Gl X x) (hm : X.mg x = some (.ref f)) (hk : PySem.W.keepIn X.K (.ref f) = true) (hb : Binds X.K fd [pp] []) (hi : X.N[i]? = some y) (hv : Vis X.env.scope y)
    (hd : (x == ("__debug__" : Str)) = false := by decide) (hd2 : (y == ("__debug__" : Str)) = false := by decide) (hd3 : (y == ("__classdict__" : Str)) = false := by decide) :
    PE (X.suite a ((a, oe) :: pn)) (.Call (.Name x p) [.Name y q] [] pos) (fun σ H Q => σ[i]? = some (some (.ref a)) ∧ ∀ H', Same H H' → Q r H') := ⟨fun ps z τ G Q J rd => by
  have ha : PA (X.suite a ((a, oe) :: pn)) [.Name y q] (tCons (tVar i) tNil) := pa_cons (pe_var hi hv (hd := hd2) (hcd := hd3)) pa_nil
  refine wpAny_Call_Name_kw (ld_glob J hg hm ?_ hd)
  refine PySem.W.callWith_K (h₀ := X.base) J.ok.mod.kin hk (thn (ha.run pos ps z τ G (fun vs G' => vs = [V.ref a] ∧ G' = G) J ⟨_, rd.1, rfl, rfl⟩) fun us z1 ⟨vs, G1, J1, rv, e1, e2⟩ => ⟨J1.kIn, ?_⟩) rfl rfl
  subst e1 e2
  have bind := hb z1 us J1.kIn (by rw [List.append_nil]; exact rv.length.symm)
  rw [List.append_nil] at bind
  have P1 := J1.pin (a, oe) (List.mem_append_left _ (List.mem_cons_self ..))
  have pin : L2H.PinOk X.stack G1 z1 (a, oe) := ⟨P1.1, P1.2.1, fun m => (List.mem_cons.mp (J1.stkSub a m)).elim P1.2.2.1 P1.2.2.2.1, P1.2.2.2.2⟩
  refine wpAny_call (codeAny_mono (F.run _ X.stack z1 G1 ⟨us, []⟩ us (a, oe) Q room hot zc pin J1.env0 bind rv rd.2) fun res z2 e => ?_)
  match res, e with
  | .ok (.ret _), e => exact J1.after e
  | .ok .next, e => exact e.elim
  | .ok .brk, e => exact e.elim
  | .ok .cont, e => exact e.elim
  | .error _, e => exact e.elim⟩
/-- isinstance(e, c), e pinned: an exception of an own class -/
theorem call_isP {X : Cx} {a D : Addr} {oe : Obj} (ec : ExcC X.K D) (zc : Zc (.ref D) none oe) (flds : ∃ vs, oe.data = .fields vs) (m : (a, oe) ∈ X.pn) : CallR X (.builtin "isinstance") (rIsE X.K D a) := fun ps z τ G xs us Q J rv rd => by
  obtain ⟨c, cv, b, rfl, only, kit, q⟩ := rd
  match rv with
  | .cons ra (.cons rc .nil) =>
    obtain rfl := ra
    obtain rfl := only _ rc
    have there : z.heap.get? a = some oe := (J.pin (a, oe) (List.mem_append_left _ m)).1
    have inst : PySem.W.InstAt z.heap a oe D none := by
      obtain ⟨vs, ev⟩ := flds
      match oe, zc, ev with
      | ⟨_, _, _, _⟩, ⟨rfl, rfl⟩, rfl => exact ⟨there, rfl, rfl, trivial⟩
    exact PySem.W.kia_one (PySem.W.handS_kitx_exc ec.hg ec.hk ec.hs ec.hd ec.ha ec.hn ec.ht ec.hm) J.kIn inst kit (fun y => nomatch y) fun tk => ⟨.bl b, G, J.kept (t' := tk) fun _ _ y => y, rfl, q⟩
/-! ### _law_pool, _law_draw, _law_pick -/
/-- a pool at p: its cells at l, how many are taken, what is left of the last great one, the last small one, how many were drawn of it -/
def PoolL (H : Hp) (p l : Addr) : Prop := ∃ (ns : List Int) (a b c d : Int), H p = some (.lst [.ref l, .int a, .int b, .int c, .int d]) ∧ H l = some (.lst (ns.map V.int)) ∧ ns.length ≤ 63 ∧ 0 ≤ a ∧ 0 ≤ b ∧ l ≠ p
/-- all but p is as it was -/
def SameBut (p : Addr) (H H' : Hp) : Prop := ∀ b o, b ≠ p → H b = some o → H' b = some o
theorem SameBut.refl (p : Addr) (H : Hp) : SameBut p H H := fun _ _ _ e => e
theorem SameBut.trans {p : Addr} {H H1 H2 : Hp} (a : SameBut p H H1) (b : SameBut p H1 H2) : SameBut p H H2 := fun c o n e => b c o n (a c o n e)
theorem SameBut.upd {p : Addr} {H H1 : Hp} {o : HO} (a : SameBut p H H1) : SameBut p H (upd H1 p o) := fun b u n e => by rw [upd_ne n]; exact a b u n e
theorem SameBut.of {p : Addr} {H H1 : Hp} (a : Same H H1) : SameBut p H H1 := fun b u _ e => a b u e
theorem SameBut.new {p q : Addr} {H H1 : Hp} {o : HO} (a : SameBut p H H1) (hq : H1 q = none) : SameBut p H (L2.upd H1 q o) := fun b u n e => by
  rw [upd_ne (ne_of_none (a b u n e) hq)]
  exact a b u n e
def spPool (K : PySem.W.Frag) : Sp := fun vs H Q _ => ∃ (a : Addr) (ns : List Int), vs = [.ref a] ∧ SqL K H a (ns.map V.int) ∧ ns.length ≤ 63 ∧ ∀ H' p l, Same H H' → H p = none → H l = none → PoolL H' p l → Q (.ref p) H'
def spDraw : Sp := fun vs H Q _ => ∃ (p l : Addr) (m : Int), vs = [.ref p, .int m] ∧ PoolL H p l ∧ 1 ≤ m ∧ m ≤ 1000000000000000000 ∧ ∀ v H', 0 ≤ v → v < m → PoolL H' p l → SameBut p H H' → Q (.int v) H'
def spPick : Sp := fun vs H Q _ => ∃ (p r l : Addr) (xs : List V), vs = [.ref p, .ref r] ∧ PoolL H p l ∧ H r = some (.lst xs) ∧ r ≠ p ∧ 1 ≤ xs.length ∧ xs.length ≤ sizeLine ∧ ∀ v H', v ∈ xs → PoolL H' p l → SameBut p H H' → Q v H'
section
variable {P : Program} {w : World} {K : PySem.W.Frag} {mg : Str → Option Value} {base : Heap}
theorem ok_pool {f : Addr} {fd : FuncData} (F : Fun K "_law_pool" "_law_pool" s__law_pool f fd) (T : Blt mg) : FnOk P w K mg base CX0 1 f fd ["script"] (spPool K) := by
  refine F.ok sc__law_pool (fun vs H Q E h => ?_) (fun cdv A outer s H vs Q E hr h => ?_)
  · obtain ⟨a, ns, rfl, _⟩ := h
    rfl
  · obtain ⟨a, ns, rfl, hS, hn, k⟩ := h
    refine ⟨_, (pss_one (ps_ret (pe_lst (pa_cons (pe_callTy call_list_of (by rfl) T.b_list (by decide +kernel) (pa_cons (pv 0) pa_nil)) (pa_cons pe_int (pa_cons pe_int (pa_cons pe_int (pa_cons pe_int pa_nil)))))))), ?_⟩
    refine ⟨_, rfl, a, _, rfl, .inl hS, fun l hl => ⟨(by show 5 ≤ sizeLine; decide), fun p hp => ?_⟩⟩
    have nlp : l ≠ p := ne_of_none upd_same hp
    have hp0 : H p = Option.none := by rw [upd_ne (Ne.symm nlp)] at hp; exact hp
    exact k _ p l (same_upd (same_upd (Same.refl _) hl) hp) hp0 hl ⟨ns, 0, 0, 0, 0, upd_same, by rw [upd_ne nlp, upd_same], hn, by omega, by omega, nlp⟩
theorem ok_draw {f : Addr} {fd : FuncData} (F : Fun K "_law_draw" "_law_draw" s__law_draw f fd) (T : Blt mg) : FnOk P w K mg base CX0 1 f fd ["pool", "many"] spDraw := by
  refine F.ok sc__law_draw (fun vs H Q E h => ?_) (fun cdv A outer s H vs Q E hr h => ?_)
  · obtain ⟨p, l, m, rfl, _⟩ := h
    rfl
  · obtain ⟨p, l, m, rfl, ⟨ns, a, b, c, d, hp, hl, hn, ha, hb, nlp⟩, h1, h2, k⟩ := h
    refine ⟨_, (pss_cons (ps_if (pt_cmpR op_gt (pe_ix (r := rIxL K) ix_list (pv 0) pe_int (fun _ _ => rfl)) pe_int (nomark _)) (pss_cons (ps_set (i := 2) sc__law_draw.nd rfl (Or.inl rfl) (pe_op op_modN (pe_callTy call_int1 (by rfl) T.b_int (by decide +kernel) (pa_cons (pe_ix (r := rIxL K) ix_list (pv 0) pe_int (fun _ _ => rfl)) pa_nil)) (pv 1)))
    (pss_cons (ps_asg (pe_op op_fdivW (pe_ix (r := rIxL K) ix_list (pv 0) pe_int (fun _ _ => rfl)) (pv 1)) (pg_sub (pv 0) pe_int set_list))
    (pss_one (ps_ret (pv 2))))) pss_nil)
    (pss_cons (ps_if (PW.pt (pw_and (pt_cmpR op_eq (pe_op op_modN (pe_callTy call_int1 (by rfl) T.b_int (by decide +kernel) (pa_cons (pe_ix (r := rIxL K) ix_list (pv 0) pe_int (fun _ _ => rfl)) pa_nil)) pe_int) pe_int (nomark _)) (pw_and1 (pt_cmpR op_lt (pe_ix (r := rIxL K) ix_list (pv 0) pe_int (fun _ _ => rfl)) (pe_callB call_len (by rfl) T.b_len (by decide +kernel) (pa_cons (pe_ix (r := rIxL K) ix_list (pv 0) pe_int (fun _ _ => rfl)) pa_nil)) (nomark _))))) (pss_cons (ps_set (i := 3) sc__law_draw.nd rfl (Or.inl rfl) (pe_callB call_abs (by rfl) T.b_abs (by decide +kernel) (pa_cons (pe_ix (r := rIxL K) ix_list (pe_ix (r := rIxL K) ix_list (pv 0) pe_int (fun _ _ => rfl)) (pe_ix (r := rIxL K) ix_list (pv 0) pe_int (fun _ _ => rfl)) (fun _ _ => rfl)) pa_nil)))
    (pss_cons (ps_asg (pe_op op_add (pe_ix (r := rIxL K) ix_list (pv 0) pe_int (fun _ _ => rfl)) pe_int) (pg_sub (pv 0) pe_int set_list))
    (pss_cons (ps_if (pt_cmpR op_ge (pv 3) (pe_op op_pow pe_int pe_int) (nomark _)) (pss_cons (ps_asg (pe_op op_fdivW (pv 3) (pv 1)) (pg_sub (pv 0) pe_int set_list))
    (pss_one (ps_ret (pe_op op_modN (pe_callTy call_int1 (by rfl) T.b_int (by decide +kernel) (pa_cons (pv 3) pa_nil)) (pv 1))))) pss_nil)
    (pss_one (ps_asg (pv 3) (pg_sub (pv 0) pe_int set_list)))))) pss_nil)
    (pss_cons (ps_asg (pe_op op_add (pe_ix (r := rIxL K) ix_list (pv 0) pe_int (fun _ _ => rfl)) pe_int) (pg_sub (pv 0) pe_int set_list))
    (pss_cons (ps_set (i := 4) sc__law_draw.nd rfl (Or.inl rfl) (pe_op op_modN (pe_callTy call_int1 (by rfl) T.b_int (by decide +kernel) (pa_cons (pe_op op_add (pe_op op_add (pe_op op_mul (pe_ix (r := rIxL K) ix_list (pv 0) pe_int (fun _ _ => rfl)) pe_int) (pe_op op_mul (pe_ix (r := rIxL K) ix_list (pv 0) pe_int (fun _ _ => rfl)) pe_int)) pe_int) pa_nil)) pe_int))
    (pss_cons (ps_set (i := 4) sc__law_draw.nd rfl (Or.inl rfl) (pe_op op_modN (pe_callTy call_int1 (by rfl) T.b_int (by decide +kernel) (pa_cons (pe_op op_add (pe_op op_mul (pv 4) (pv 4)) (pe_op op_mul (pe_ix (r := rIxL K) ix_list (pv 0) pe_int (fun _ _ => rfl)) pe_int)) pa_nil)) pe_int))
    (pss_one (ps_ret (pe_op op_modN (pe_callTy call_int1 (by rfl) T.b_int (by decide +kernel) (pa_cons (pv 4) pa_nil)) (pv 1))))))))), ?_⟩
    have m0 : (0 : Int) < m := by omega
    have mne : m ≠ 0 := by omega
    have hw : CDivW 0 m := by
      have z := wide_div (i := 0) (j := m) (b := 63) m0 (by omega) (by omega) (by omega)
      exact z
    have hw' : ∀ i : Int, CDivW i m := fun i => hw
    -- the end: pool[4] = pool[4] + 1 .. return
    have fin : ∀ (a b c d : Int) (x y : Option V) (H' : Hp), H' p = some (.lst [.ref l, .int a, .int b, .int c, .int d]) → H' l = some (.lst (ns.map V.int)) → 0 ≤ a → 0 ≤ b → SameBut p H H' →
        tSeq (tAsg (tOp (rI0 fun i j => .int (i + j)) (tOp (rIxL K) (tVar 0) (tC (.int 4))) (tC (.int 1))) (gSub (tVar 0) (tC (.int 4)) rSetL))
          (tSeq (tAsg (tOp (rI (fun i j => j ≠ 0) fun i j => .int (i.fmod j)) (tCB (fun xs H Q => (∃ i, xs = [.int i] ∧ Q (.int i) H) ∨ ∃ k, xs = [.bl k] ∧ Q (.int (if k then 1 else 0)) H)
            (tCons (tOp (rI0 fun i j => .int (i + j)) (tOp (rI0 fun i j => .int (i + j)) (tOp (rI CMul fun i j => .int (i * j)) (tOp (rIxL K) (tVar 0) (tC (.int 3))) (tC (.int 48271))) (tOp (rI CMul fun i j => .int (i * j)) (tOp (rIxL K) (tVar 0) (tC (.int 4))) (tC (.int 69621)))) (tC (.int 7919))) tNil)) (tC (.int 2147483647))) (gName 4))
          (tSeq (tAsg (tOp (rI (fun i j => j ≠ 0) fun i j => .int (i.fmod j)) (tCB (fun xs H Q => (∃ i, xs = [.int i] ∧ Q (.int i) H) ∨ ∃ k, xs = [.bl k] ∧ Q (.int (if k then 1 else 0)) H)
            (tCons (tOp (rI0 fun i j => .int (i + j)) (tOp (rI CMul fun i j => .int (i * j)) (tVar 4) (tVar 4)) (tOp (rI CMul fun i j => .int (i * j)) (tOp (rIxL K) (tVar 0) (tC (.int 4))) (tC (.int 40692)))) tNil)) (tC (.int 2147483399))) (gName 4))
          (tRet (tOp (rI (fun i j => j ≠ 0) fun i j => .int (i.fmod j)) (tCB (fun xs H Q => (∃ i, xs = [.int i] ∧ Q (.int i) H) ∨ ∃ k, xs = [.bl k] ∧ Q (.int (if k then 1 else 0)) H) (tCons (tVar 4) tNil)) (tVar 1)))))
          { nx := fun _ H' => Q .non H', rt := Q } [some (.ref p), some (.int m), x, y, none] H' := by
      intro a b c d x y H' hp hl ha hb sb
      refine ⟨_, rfl, p, _, _, _, rfl, rfl, SqL.of hp, atI_nat (j := 4) rfl, _, _, rfl, rfl, _, rfl, p, _, _, 4, rfl, rfl, hp, rfl, ?_⟩
      have hl' : upd H' p (.lst [.ref l, .int a, .int b, .int c, .int (d + 1)]) l = some (.lst (ns.map V.int)) := by rw [upd_ne nlp]; exact hl
      show tSeq _ _ _ _ (upd H' p (.lst [.ref l, .int a, .int b, .int c, .int (d + 1)]))
      have hp2 : upd H' p (.lst [V.ref l, V.int a, V.int b, V.int c, V.int (d + 1)]) p = some (.lst [V.ref l, V.int a, V.int b, V.int c, V.int (d + 1)]) := upd_same
      have sb2 : SameBut p H (upd H' p (.lst [V.ref l, V.int a, V.int b, V.int c, V.int (d + 1)])) := sb.upd
      generalize upd H' p (.lst [V.ref l, V.int a, V.int b, V.int c, V.int (d + 1)]) = H2 at *
      refine ⟨_, rfl, p, _, _, _, rfl, rfl, SqL.of hp2, atI_nat (j := 3) rfl, _, _, rfl, rfl, .inr ⟨by decide, by decide⟩, ?_⟩
      refine ⟨_, rfl, p, _, _, _, rfl, rfl, SqL.of hp2, atI_nat (j := 4) rfl, _, _, rfl, rfl, .inr ⟨by decide, by decide⟩, ?_⟩
      refine ⟨_, _, rfl, rfl, _, _, rfl, rfl, .inl ⟨_, rfl, _, _, rfl, rfl, (show (2147483647 : Int) ≠ 0 by decide), ?_⟩⟩
      have q0 := Int.fmod_nonneg_of_pos (c * 48271 + (d + 1) * 69621 + 7919) (show (0 : Int) < 2147483647 by decide)
      have q1 := Int.fmod_lt_of_pos (c * 48271 + (d + 1) * 69621 + 7919) (show (0 : Int) < 2147483647 by decide)
      refine ⟨_, rfl, _, rfl, _, _, rfl, rfl, .inl ⟨by omega, by omega⟩, ?_⟩
      refine ⟨_, rfl, p, _, _, _, rfl, rfl, SqL.of hp2, atI_nat (j := 4) rfl, _, _, rfl, rfl, .inr ⟨by decide, by decide⟩, ?_⟩
      refine ⟨_, _, rfl, rfl, .inl ⟨_, rfl, _, _, rfl, rfl, (show (2147483399 : Int) ≠ 0 by decide), ?_⟩⟩
      refine ⟨_, rfl, .inl ⟨_, rfl, _, rfl, _, _, rfl, rfl, mne, ?_⟩⟩
      exact k _ _ (Int.fmod_nonneg_of_pos _ m0) (Int.fmod_lt_of_pos _ m0) ⟨ns, a, b, c, d + 1, hp2, hl', hn, ha, hb, nlp⟩ sb2
    refine ⟨_, rfl, p, _, _, _, rfl, rfl, SqL.of hp, atI_nat (j := 2) rfl, _, _, rfl, rfl, _, rfl, ?_⟩
    refine ite2 (fun hb0 => ?_) (fun hb0 => ?_)
    · -- what is left of a great cell
      refine ⟨_, rfl, p, _, _, _, rfl, rfl, SqL.of hp, atI_nat (j := 2) rfl, .inl ⟨_, rfl, _, rfl, _, _, rfl, rfl, mne, ?_⟩⟩
      refine ⟨_, rfl, p, _, _, _, rfl, rfl, SqL.of hp, atI_nat (j := 2) rfl, _, rfl, _, _, rfl, rfl, hw' _, _, rfl, p, _, _, 2, rfl, rfl, hp, rfl, ?_⟩
      refine ⟨_, rfl, ?_⟩
      exact k _ _ (Int.fmod_nonneg_of_pos _ m0) (Int.fmod_lt_of_pos _ m0) ⟨ns, a, b / m, c, d, upd_same, by rw [upd_ne nlp]; exact hl, hn, ha, Int.ediv_nonneg hb (by omega), nlp⟩ (SameBut.refl p H).upd
    · refine ⟨_, rfl, p, _, _, _, rfl, rfl, SqL.of hp, atI_nat (j := 4) rfl, .inl ⟨_, rfl, _, _, rfl, rfl, (show (8 : Int) ≠ 0 by decide), rfl, _, rfl, ?_⟩⟩
      refine ite2 (fun h8 => ?_) (fun h8 => ?_)
      · refine ⟨_, rfl, p, _, _, _, rfl, rfl, SqL.of hp, atI_nat (j := 1) rfl, _, rfl, p, _, _, _, rfl, rfl, SqL.of hp, atI_nat (j := 0) rfl, _, _, rfl, .inl ⟨_, SqL.of hl, rfl⟩, _, _, rfl, rfl, _, rfl, ?_⟩
        refine ite2 (fun hlt => ?_) (fun hlt => ?_)
        · have hlt' := of_decide_eq_true hlt
          rw [List.length_map] at hlt'
          obtain ⟨n, rfl⟩ := Int.eq_ofNat_of_zero_le ha
          have hn' : n < ns.length := by omega
          refine ⟨_, rfl, p, _, _, _, rfl, rfl, SqL.of hp, atI_nat (j := 0) rfl, _, rfl, p, _, _, _, rfl, rfl, SqL.of hp, atI_nat (j := 1) rfl, l, _, _, _, rfl, rfl, SqL.of hl, atI_nat (v := V.int ns[n]) (by simp [hn']), _, rfl, ?_⟩
          have hcell : 0 ≤ (if ns[n] < 0 then -ns[n] else ns[n]) := by split <;> omega
          generalize (if ns[n] < 0 then -ns[n] else ns[n]) = cell at *
          refine ⟨_, rfl, p, _, _, _, rfl, rfl, SqL.of hp, atI_nat (j := 1) rfl, _, _, rfl, rfl, _, rfl, p, _, _, 1, rfl, rfl, hp, rfl, ?_⟩
          have hp2 : upd H p (.lst [V.ref l, V.int ((n : Int) + 1), V.int b, V.int c, V.int d]) p = some (.lst [V.ref l, V.int ((n : Int) + 1), V.int b, V.int c, V.int d]) := upd_same
          have hl2 : upd H p (.lst [V.ref l, V.int ((n : Int) + 1), V.int b, V.int c, V.int d]) l = some (.lst (ns.map V.int)) := by rw [upd_ne nlp]; exact hl
          have sb2 : SameBut p H (upd H p (.lst [V.ref l, V.int ((n : Int) + 1), V.int b, V.int c, V.int d])) := (SameBut.refl p H).upd
          show tSeq _ _ _ _ (upd H p (.lst [V.ref l, V.int ((n : Int) + 1), V.int b, V.int c, V.int d]))
          generalize upd H p (.lst [V.ref l, V.int ((n : Int) + 1), V.int b, V.int c, V.int d]) = H2 at *
          refine ⟨_, rfl, _, _, rfl, rfl, ⟨by decide, by decide, by decide⟩, _, _, rfl, rfl, _, rfl, ?_⟩
          refine ite2 (fun hg => ?_) (fun hg => ?_)
          · refine ⟨_, rfl, _, rfl, _, _, rfl, rfl, hw' _, _, rfl, p, _, _, 2, rfl, rfl, hp2, rfl, ?_⟩
            refine ⟨_, rfl, .inl ⟨_, rfl, _, rfl, _, _, rfl, rfl, mne, ?_⟩⟩
            exact k _ _ (Int.fmod_nonneg_of_pos _ m0) (Int.fmod_lt_of_pos _ m0) ⟨ns, (n : Int) + 1, cell / m, c, d, upd_same, by rw [upd_ne nlp]; exact hl2, hn, by omega, Int.ediv_nonneg hcell (by omega), nlp⟩ sb2.upd
          · refine ⟨_, rfl, _, rfl, p, _, _, 3, rfl, rfl, hp2, rfl, ?_⟩
            exact fin ((n : Int) + 1) b cell d none (some (.int cell)) _ upd_same (by rw [upd_ne nlp]; exact hl2) (by omega) hb sb2.upd
        · exact fin a b c d none none H hp hl ha hb (SameBut.refl p H)
      · refine iteF ?_
        exact fin a b c d none none H hp hl ha hb (SameBut.refl p H)
theorem ok_pick {f fD : Addr} {fd fdD : FuncData} (F : Fun K "_law_pick" "_law_pick" s__law_pick f fd) (T : Blt mg)
    (FD : FnOk P w K mg base CX0 1 fD fdD ["pool", "many"] spDraw) (mgD : mg "_law_draw" = some (.ref fD)) (kD : PySem.W.keepIn K (.ref fD) = true) (bD : Binds K fdD ["pool", "many"] []) : FnOk P w K mg base CX0 2 f fd ["pool", "rows"] spPick := by
  refine F.ok sc__law_pick (fun vs H Q E h => ?_) (fun cdv A outer s H vs Q E hr h => ?_)
  · obtain ⟨p, r, l, xs, rfl, _⟩ := h
    rfl
  · obtain ⟨p, r, l, xs, rfl, hP, hr1, nrp, hx, hz, k⟩ := h
    refine ⟨_, (pss_one (ps_ret (pe_ix (r := rIxL K) ix_list (pv 1) (pe_call FD hr rfl mgD kD bD .nil pass0 (pa_cons (pv 0) (pa_cons (pe_callB call_len (by rfl) T.b_len (by decide +kernel) (pa_cons (pv 1) pa_nil)) pa_nil))) (fun _ _ => rfl)))), ?_⟩
    refine ⟨_, rfl, _, rfl, _, rfl, _, _, rfl, .inl ⟨_, SqL.of hr1, rfl⟩, p, l, (xs.length : Int), rfl, hP, by omega, ?_, fun v H' h0 hv hP' sb => ?_⟩
    · rw [sizeLine_eq] at hz; omega
    · obtain ⟨n, rfl⟩ := Int.eq_ofNat_of_zero_le h0
      have hn : n < xs.length := by omega
      refine ⟨r, xs, _, xs[n], rfl, rfl, SqL.of (sb _ _ nrp hr1), atI_nat (by simp [hn]), ?_⟩
      exact k _ _ (List.getElem_mem hn) hP' sb
end
/-! ### _law_same: of the same data it says True -/
/-- data without dicts, so deep at most -/
def okD : Nat → PyData → Prop
  | 0, _ => False
  | n + 1, d => match d with
    | .dict _ => False
    | .list ds => ds.length ≤ 1000000 ∧ ∀ e ∈ ds, okD n e
    | .tuple ds => ds.length ≤ 1000000 ∧ ∀ e ∈ ds, okD n e
    | _ => True
theorem seqT {K : PySem.W.Frag} {H H' : Hp} {a : Addr} {xs : List V} (s : Same H H') (h : SqT K H a xs) : SqT K H' a xs := by
  rcases h with (h | ⟨o, h⟩) | h
  · exact .inl (.inl (s _ _ h))
  · exact .inl (.inr ⟨o, s _ _ h⟩)
  · exact .inr h
mutual
theorem dp_keep {K : PySem.W.Frag} {H H' : Hp} (s : Same H H') : ∀ {d : PyData} {v : V}, Dp K H v d → Dp K H' v d
  | _, _, .non => .non
  | _, _, .bl b => .bl b
  | _, _, .int i => .int i
  | _, _, .str x => .str x
  | _, _, .lst h t => .lst (s.seq h) (dpAll_keep s t)
  | _, _, .tup h t => .tup (by
      rcases h with (h | ⟨o, h⟩) | h
      · exact .inl (.inl (s _ _ h))
      · exact .inl (.inr ⟨o, s _ _ h⟩)
      · exact .inr h) (dpAll_keep s t)
theorem dpAll_keep {K : PySem.W.Frag} {H H' : Hp} (s : Same H H') : ∀ {ds : List PyData} {vs : List V}, DpAll K H vs ds → DpAll K H' vs ds
  | _, _, .nil => .nil
  | _, _, .cons h t => .cons (dp_keep s h) (dpAll_keep s t)
end
theorem dpAll_at {K : PySem.W.Frag} {H : Hp} : ∀ {ds : List PyData} {vs : List V} {i : Nat} {d : PyData}, DpAll K H vs ds → ds[i]? = some d → ∃ v, vs[i]? = some v ∧ Dp K H v d
  | _, _, _, _, .nil, e => by simp at e
  | _, _, 0, _, .cons h _, e => by
    have := Option.some.inj e
    subst this
    exact ⟨_, rfl, h⟩
  | _, _, i + 1, _, .cons _ t, e => by
    obtain ⟨x, e1, e2⟩ := dpAll_at (i := i) t (by simpa using e)
    exact ⟨x, by simpa using e1, e2⟩
theorem dpAll_len {K : PySem.W.Frag} {H : Hp} : ∀ {ds : List PyData} {vs : List V}, DpAll K H vs ds → vs.length = ds.length
  | _, _, .nil => rfl
  | _, _, .cons _ t => by rw [List.length_cons, List.length_cons, dpAll_len t]
/-- the type of a list, a tuple as the heap tells it -/
theorem tyL {K : PySem.W.Frag} {H : Hp} {a : Addr} {xs : List V} (h : SqL K H a xs) : TyX K H (.ref a) (.type "list") := by
  rcases h with (h | ⟨o, h⟩) | ⟨o, its, n, h, c, _⟩
  · exact .base (.lst h)
  · exact .base (.frz h)
  · exact .kList h c
theorem tyT {K : PySem.W.Frag} {H : Hp} {a : Addr} {xs : List V} (h : SqT K H a xs) : TyX K H (.ref a) (.type "tuple") := by
  rcases h with (h | ⟨o, h⟩) | ⟨o, its, n, h, c, _⟩
  · exact .base (.tup h)
  · exact .fTuple h
  · exact .kTuple h c
theorem any_no {K : PySem.W.Frag} {t : String} (h1 : kitB t "tuple" = some false) (h2 : kitB t "list" = some false) : PySem.W.kitAny K (.type t) [.type "tuple", .type "list"] = some false :=
  kitAny_cons (kit_ty h1) (fun _ => kitAny_cons (kit_ty h2) (fun _ => kitAny_nil) (fun z => by cases z)) (fun z => by cases z)
theorem any_list {K : PySem.W.Frag} : PySem.W.kitAny K (.type "list") [.type "tuple", .type "list"] = some true :=
  kitAny_cons (b := false) (kit_ty (by decide +kernel)) (fun _ => kitAny_cons (b := true) (kit_ty (by decide +kernel)) (fun z => by cases z) (fun _ => rfl)) (fun z => by cases z)
theorem any_tuple {K : PySem.W.Frag} : PySem.W.kitAny K (.type "tuple") [.type "tuple", .type "list"] = some true :=
  kitAny_cons (b := true) (kit_ty (by decide +kernel)) (fun z => by cases z) (fun _ => rfl)
def spSame (K : PySem.W.Frag) (n : Nat) : Sp := fun vs H Q _ => ∃ (v1 v2 : V) (d : PyData), vs = [v1, v2] ∧ Dp K H v1 d ∧ Dp K H v2 d ∧ okD n d ∧ ∀ H', Same H H' → Q (.bl true) H'
section
variable {P : Program} {w : World} {K : PySem.W.Frag} {mg : Str → Option Value} {base : Heap}
theorem ok_same {f : Addr} {fd : FuncData} (F : Fun K "_law_same" "_law_same" s__law_same f fd) (T : Blt mg) (mgS : mg "_law_same" = some (.ref f)) (kS : PySem.W.keepIn K (.ref f) = true) (bS : Binds K fd ["actual", "due"] []) :
    ∀ n : Nat, FnOk P w K mg base CX0 (n + 1) f fd ["actual", "due"] (spSame K n)
  | 0 => by
    refine F.ok sc__law_same (fun vs H Q E h => ?_) (fun cdv A outer s H vs Q E hr h => ?_)
    · obtain ⟨v1, v2, d, rfl, _⟩ := h
      rfl
    · obtain ⟨v1, v2, d, rfl, _, _, z, _⟩ := h
      exact z.elim
  | n + 1 => by
    have FS := ok_same F T mgS kS bS n
    refine F.ok sc__law_same (fun vs H Q E h => ?_) (fun cdv A outer s H vs Q E hr h => ?_)
    · obtain ⟨v1, v2, d, rfl, _⟩ := h
      rfl
    · obtain ⟨v1, v2, d, rfl, h1, h2, hd, k⟩ := h
      refine ⟨_, (pss_cons (ps_if (pt_cmpR op_isN (pv 1) pe_non (nomark _)) (pss_one (ps_ret (pe_cmpR op_isN (pv 0) pe_non (nomark _)))) pss_nil)
    (pss_cons (ps_if (pt_val (pe_callB call_isiT (by rfl) T.b_isinstance (by decide +kernel) (pa_cons (pv 1) (pa_cons (pe_tup (pa_cons (pe_bltn (v := .ty "tuple") (u := .type "tuple") (by rfl) T.b_tuple (by decide +kernel) rfl) (pa_cons (pe_bltn (v := .ty "list") (u := .type "list") (by rfl) T.b_list (by decide +kernel) rfl) pa_nil))) pa_nil)))) (pss_cons (ps_if (PW.pt (pw_or (pt_cmpR op_ne (pe_callB call_isi (by rfl) T.b_isinstance (by decide +kernel) (pa_cons (pv 1) (pa_cons (pe_bltn (v := .ty "tuple") (u := .type "tuple") (by rfl) T.b_tuple (by decide +kernel) rfl) pa_nil))) (pe_callB call_isi (by rfl) T.b_isinstance (by decide +kernel) (pa_cons (pv 0) (pa_cons (pe_bltn (v := .ty "tuple") (u := .type "tuple") (by rfl) T.b_tuple (by decide +kernel) rfl) pa_nil))) (nomark _)) (pw_or1 (pt_cmpR op_ne (pe_callB call_isi (by rfl) T.b_isinstance (by decide +kernel) (pa_cons (pv 1) (pa_cons (pe_bltn (v := .ty "list") (u := .type "list") (by rfl) T.b_list (by decide +kernel) rfl) pa_nil))) (pe_callB call_isi (by rfl) T.b_isinstance (by decide +kernel) (pa_cons (pv 0) (pa_cons (pe_bltn (v := .ty "list") (u := .type "list") (by rfl) T.b_list (by decide +kernel) rfl) pa_nil))) (nomark _))))) (pss_one (ps_ret pe_bl)) pss_nil)
    (pss_cons (ps_if (pt_cmpR op_ne (pe_callB call_len (by rfl) T.b_len (by decide +kernel) (pa_cons (pv 0) pa_nil)) (pe_callB call_len (by rfl) T.b_len (by decide +kernel) (pa_cons (pv 1) pa_nil)) (nomark _)) (pss_one (ps_ret pe_bl)) pss_nil)
    (pss_cons (ps_for PassesOwn.never rfl (pi_range1 (by rfl) T.b_range (pa_cons (pe_callB call_len (by rfl) T.b_len (by decide +kernel) (pa_cons (pv 1) pa_nil)) pa_nil)) (pg_name (i := 2) sc__law_same.nd rfl (Or.inl rfl)) (pss_one (ps_if (pt_not (pt_val (pe_call FS hr rfl mgS kS bS .nil pass0 (pa_cons (pe_ix (r := rIx K) ix_seq (pv 0) (pv 2) (fun _ _ => rfl)) (pa_cons (pe_ix (r := rIx K) ix_seq (pv 1) (pv 2) (fun _ _ => rfl)) pa_nil))))) (pss_one (ps_ret pe_bl)) pss_nil)))
    (pss_one (ps_ret pe_bl))))) pss_nil)
    (pss_cons (ps_if (pt_val (pe_callB call_isi (by rfl) T.b_isinstance (by decide +kernel) (pa_cons (pv 1) (pa_cons (pe_bltn (v := .ty "bool") (u := .type "bool") (by rfl) T.b_bool (by decide +kernel) rfl) pa_nil)))) (pss_one (ps_ret (pe_and (pe_callB call_isi (by rfl) T.b_isinstance (by decide +kernel) (pa_cons (pv 0) (pa_cons (pe_bltn (v := .ty "bool") (u := .type "bool") (by rfl) T.b_bool (by decide +kernel) rfl) pa_nil))) (pe_one (pe_cmpR op_eq (pv 0) (pv 1) (nomark _)))))) pss_nil)
    (pss_cons (ps_if (pt_val (pe_callB call_isi (by rfl) T.b_isinstance (by decide +kernel) (pa_cons (pv 1) (pa_cons (pe_bltn (v := .ty "int") (u := .type "int") (by rfl) T.b_int (by decide +kernel) rfl) pa_nil)))) (pss_one (ps_ret (pe_and (pe_callB call_isi (by rfl) T.b_isinstance (by decide +kernel) (pa_cons (pv 0) (pa_cons (pe_bltn (v := .ty "int") (u := .type "int") (by rfl) T.b_int (by decide +kernel) rfl) pa_nil))) (pe_and (pe_not (pe_callB call_isi (by rfl) T.b_isinstance (by decide +kernel) (pa_cons (pv 0) (pa_cons (pe_bltn (v := .ty "bool") (u := .type "bool") (by rfl) T.b_bool (by decide +kernel) rfl) pa_nil)))) (pe_one (pe_cmpR op_eq (pv 0) (pv 1) (nomark _))))))) pss_nil)
    (pss_one (ps_ret (pe_and (pe_callB call_isi (by rfl) T.b_isinstance (by decide +kernel) (pa_cons (pv 0) (pa_cons (pe_bltn (v := .ty "str") (u := .type "str") (by rfl) T.b_str (by decide +kernel) rfl) pa_nil))) (pe_one (pe_cmpR op_eq (pv 0) (pv 1) (nomark _)))))))))), ?_⟩
      cases d with
      | dict _ => exact hd.elim
      | none =>
        cases h1; cases h2
        refine ⟨_, rfl, rfl, _, rfl, ?_⟩
        refine iteT ?_
        refine ⟨_, rfl, rfl, ?_⟩
        exact k _ (Same.refl _)
      | bool b =>
        cases h1; cases h2
        refine ⟨_, rfl, rfl, _, rfl, ?_⟩
        refine iteF ?_
        refine ⟨_, rfl, (by show 2 ≤ sizeLine; decide), fun p hp => ?_⟩
        refine ⟨_, p, _, .type "bool", _, false, rfl, upd_same, .cons (.ty "tuple") (.cons (.ty "list") .nil), .base (.bl _), any_no (by decide +kernel) (by decide +kernel), false, rfl, ?_⟩
        refine iteF ?_
        refine ⟨_, rfl, _, _, .type "bool", _, true, rfl, .ty "bool", .base (.bl _), kit_ty (by decide +kernel), true, rfl, ?_⟩
        refine iteT ?_
        refine ⟨_, rfl, _, _, .type "bool", _, true, rfl, .ty "bool", .base (.bl _), kit_ty (by decide +kernel), true, rfl, ?_⟩
        refine iteT ?_
        refine ⟨_, rfl, _, rfl, rfl, ?_⟩
        rw [decide_eq_true rfl]
        exact k _ (same_upd (Same.refl _) hp)
      | int i =>
        cases h1; cases h2
        refine ⟨_, rfl, rfl, _, rfl, ?_⟩
        refine iteF ?_
        refine ⟨_, rfl, (by show 2 ≤ sizeLine; decide), fun p hp => ?_⟩
        refine ⟨_, p, _, .type "int", _, false, rfl, upd_same, .cons (.ty "tuple") (.cons (.ty "list") .nil), .base (.int _), any_no (by decide +kernel) (by decide +kernel), false, rfl, ?_⟩
        refine iteF ?_
        refine ⟨_, rfl, _, _, .type "int", _, false, rfl, .ty "bool", .base (.int _), kit_ty (by decide +kernel), false, rfl, ?_⟩
        refine iteF ?_
        refine ⟨_, rfl, _, _, .type "int", _, true, rfl, .ty "int", .base (.int _), kit_ty (by decide +kernel), true, rfl, ?_⟩
        refine iteT ?_
        refine ⟨_, rfl, _, _, .type "int", _, true, rfl, .ty "int", .base (.int _), kit_ty (by decide +kernel), true, rfl, ?_⟩
        refine iteT ?_
        refine ⟨_, rfl, _, _, .type "int", _, false, rfl, .ty "bool", .base (.int _), kit_ty (by decide +kernel), false, rfl, true, rfl, ?_⟩
        refine iteT ?_
        refine ⟨_, rfl, _, rfl, rfl, ?_⟩
        rw [decide_eq_true rfl]
        exact k _ (same_upd (Same.refl _) hp)
      | str x =>
        cases h1; cases h2
        refine ⟨_, rfl, rfl, _, rfl, ?_⟩
        refine iteF ?_
        refine ⟨_, rfl, (by show 2 ≤ sizeLine; decide), fun p hp => ?_⟩
        refine ⟨_, p, _, .type "str", _, false, rfl, upd_same, .cons (.ty "tuple") (.cons (.ty "list") .nil), .base (.str _), any_no (by decide +kernel) (by decide +kernel), false, rfl, ?_⟩
        refine iteF ?_
        refine ⟨_, rfl, _, _, .type "str", _, false, rfl, .ty "bool", .base (.str _), kit_ty (by decide +kernel), false, rfl, ?_⟩
        refine iteF ?_
        refine ⟨_, rfl, _, _, .type "str", _, false, rfl, .ty "int", .base (.str _), kit_ty (by decide +kernel), false, rfl, ?_⟩
        refine iteF ?_
        refine ⟨_, rfl, _, _, .type "str", _, true, rfl, .ty "str", .base (.str _), kit_ty (by decide +kernel), true, rfl, ?_⟩
        refine iteT ?_
        refine ⟨_, rfl, _, rfl, rfl, ?_⟩
        rw [decide_eq_true rfl]
        exact k _ (same_upd (Same.refl _) hp)
      | list ds =>
        cases h1 with
        | lst q1 t1 =>
        cases h2 with
        | lst q2 t2 =>
        rename_i a1 xs1 a2 xs2
        have l1 := dpAll_len t1
        have l2 := dpAll_len t2
        refine ⟨_, rfl, rfl, _, rfl, ?_⟩
        refine iteF ?_
        refine ⟨_, rfl, (by show 2 ≤ sizeLine; decide), fun p hp => ?_⟩
        refine ⟨_, p, _, .type "list", _, true, rfl, upd_same, .cons (.ty "tuple") (.cons (.ty "list") .nil), tyL (Same.seq (same_upd (Same.refl _) hp) q2), any_list, true, rfl, ?_⟩
        refine iteT ?_
        have s0 : Same H (upd H p (.tup [.ty "tuple", .ty "list"])) := same_upd (Same.refl _) hp
        show tSeq _ _ _ _ (upd H p (.tup [.ty "tuple", .ty "list"]))
        generalize upd H p (.tup [V.ty "tuple", V.ty "list"]) = H1 at *
        have p1 := Same.seq s0 q1
        have p2 := Same.seq s0 q2
        refine ⟨_, rfl, _, _, .type "list", _, false, rfl, .ty "tuple", tyL p2, kit_ty (by decide +kernel), _, rfl, _, _, .type "list", _, false, rfl, .ty "tuple", tyL p1, kit_ty (by decide +kernel), rfl, _, rfl, ?_⟩
        refine iteF ?_
        refine ⟨_, rfl, _, _, .type "list", _, true, rfl, .ty "list", tyL p2, kit_ty (by decide +kernel), _, rfl, _, _, .type "list", _, true, rfl, .ty "list", tyL p1, kit_ty (by decide +kernel), rfl, _, rfl, ?_⟩
        refine iteF ?_
        refine ⟨_, rfl, _, _, rfl, .inl ⟨_, p1, rfl⟩, _, rfl, _, _, rfl, .inl ⟨_, p2, rfl⟩, rfl, _, rfl, ?_⟩
        rw [l1, l2]
        refine iteNS rfl ?_
        refine ⟨_, rfl, _, _, rfl, .inl ⟨_, p2, rfl⟩, _, rfl, ?_, ?_, ?_⟩
        · rw [l2]; have := hd.1; omega
        · rw [l2]; have := hd.1; omega
        rw [l2]
        refine for_range (lo := 0) (n := ((ds.length : Nat) : Int).toNat) (fun i σ H' => ∃ v, σ = [some (.ref a1), some (.ref a2), v] ∧ Same H1 H') ⟨none, rfl, Same.refl _⟩ ?_ ?_
        · rintro i σ H' hi ⟨v, rfl, sH⟩
          have hi' : i < ds.length := by simpa using hi
          obtain ⟨x1, e1, d1⟩ := dpAll_at t1 (List.getElem?_eq_getElem hi')
          obtain ⟨x2, e2, d2⟩ := dpAll_at t2 (List.getElem?_eq_getElem hi')
          have s3 := s0.trans sH
          have ei : ((0 : Int) + (i : Int)) = (i : Int) := by omega
          refine ⟨_, rfl, _, rfl, .inl ⟨a1, xs1, _, x1, rfl, rfl, Same.seq sH p1, by rw [ei]; exact atI_nat e1, ?_⟩⟩
          refine ⟨_, rfl, _, rfl, .inl ⟨a2, xs2, _, x2, rfl, rfl, Same.seq sH p2, by rw [ei]; exact atI_nat e2, ?_⟩⟩
          refine ⟨x1, x2, ds[i], rfl, dp_keep s3 d1, dp_keep s3 d2, hd.2 _ (List.getElem_mem hi'), fun H2 s2 => ⟨true, rfl, ?_⟩⟩
          refine iteF ?_
          exact ⟨_, rfl, sH.trans s2⟩
        · rintro σ H' ⟨v, rfl, sH⟩
          exact k _ (s0.trans sH)
      | tuple ds =>
        cases h1 with
        | tup q1 t1 =>
        cases h2 with
        | tup q2 t2 =>
        rename_i a1 xs1 a2 xs2
        have l1 := dpAll_len t1
        have l2 := dpAll_len t2
        refine ⟨_, rfl, rfl, _, rfl, ?_⟩
        refine iteF ?_
        refine ⟨_, rfl, (by show 2 ≤ sizeLine; decide), fun p hp => ?_⟩
        refine ⟨_, p, _, .type "tuple", _, true, rfl, upd_same, .cons (.ty "tuple") (.cons (.ty "list") .nil), tyT (seqT (same_upd (Same.refl _) hp) q2), any_tuple, true, rfl, ?_⟩
        refine iteT ?_
        have s0 : Same H (upd H p (.tup [.ty "tuple", .ty "list"])) := same_upd (Same.refl _) hp
        show tSeq _ _ _ _ (upd H p (.tup [.ty "tuple", .ty "list"]))
        generalize upd H p (.tup [V.ty "tuple", V.ty "list"]) = H1 at *
        have p1 := seqT s0 q1
        have p2 := seqT s0 q2
        refine ⟨_, rfl, _, _, .type "tuple", _, true, rfl, .ty "tuple", tyT p2, kit_ty (by decide +kernel), _, rfl, _, _, .type "tuple", _, true, rfl, .ty "tuple", tyT p1, kit_ty (by decide +kernel), rfl, _, rfl, ?_⟩
        refine iteF ?_
        refine ⟨_, rfl, _, _, .type "tuple", _, false, rfl, .ty "list", tyT p2, kit_ty (by decide +kernel), _, rfl, _, _, .type "tuple", _, false, rfl, .ty "list", tyT p1, kit_ty (by decide +kernel), rfl, _, rfl, ?_⟩
        refine iteF ?_
        refine ⟨_, rfl, _, _, rfl, .inr ⟨_, p1, rfl⟩, _, rfl, _, _, rfl, .inr ⟨_, p2, rfl⟩, rfl, _, rfl, ?_⟩
        rw [l1, l2]
        refine iteNS rfl ?_
        refine ⟨_, rfl, _, _, rfl, .inr ⟨_, p2, rfl⟩, _, rfl, ?_, ?_, ?_⟩
        · rw [l2]; have := hd.1; omega
        · rw [l2]; have := hd.1; omega
        rw [l2]
        refine for_range (lo := 0) (n := ((ds.length : Nat) : Int).toNat) (fun i σ H' => ∃ v, σ = [some (.ref a1), some (.ref a2), v] ∧ Same H1 H') ⟨none, rfl, Same.refl _⟩ ?_ ?_
        · rintro i σ H' hi ⟨v, rfl, sH⟩
          have hi' : i < ds.length := by simpa using hi
          obtain ⟨x1, e1, d1⟩ := dpAll_at t1 (List.getElem?_eq_getElem hi')
          obtain ⟨x2, e2, d2⟩ := dpAll_at t2 (List.getElem?_eq_getElem hi')
          have s3 := s0.trans sH
          have ei : ((0 : Int) + (i : Int)) = (i : Int) := by omega
          refine ⟨_, rfl, _, rfl, .inr (.inl ⟨a1, xs1, _, x1, rfl, rfl, seqT sH p1, by rw [ei]; exact atI_nat e1, ?_⟩)⟩
          refine ⟨_, rfl, _, rfl, .inr (.inl ⟨a2, xs2, _, x2, rfl, rfl, seqT sH p2, by rw [ei]; exact atI_nat e2, ?_⟩)⟩
          refine ⟨x1, x2, ds[i], rfl, dp_keep s3 d1, dp_keep s3 d2, hd.2 _ (List.getElem_mem hi'), fun H2 s2 => ⟨true, rfl, ?_⟩⟩
          refine iteF ?_
          exact ⟨_, rfl, sH.trans s2⟩
        · rintro σ H' ⟨v, rfl, sH⟩
          exact k _ (s0.trans sH)
end
theorem PoolL.keep {H H' : Hp} {p l : Addr} (h : PoolL H p l) (s : Same H H') : PoolL H' p l := by
  obtain ⟨ns, a, b, c, d, h1, h2, h3⟩ := h
  exact ⟨ns, a, b, c, d, s _ _ h1, s _ _ h2, h3⟩
theorem PoolL.ne {H : Hp} {p l q : Addr} (h : PoolL H p l) (hq : H q = none) : q ≠ p := by
  obtain ⟨ns, a, b, c, d, h1, _⟩ := h
  exact fun z => by rw [z, h1] at hq; cases hq
theorem PoolL.nel {H : Hp} {p l q : Addr} (h : PoolL H p l) (hq : H q = none) : q ≠ l := by
  obtain ⟨ns, a, b, c, d, _, h2, _⟩ := h
  exact fun z => by rw [z, h2] at hq; cases hq
theorem PoolL.new {H : Hp} {p l q : Addr} {o : HO} (h : PoolL H p l) (hq : H q = none) : PoolL (upd H q o) p l := h.keep (same_upd (Same.refl _) hq)
theorem PoolL.put {H : Hp} {p l q : Addr} {o : HO} (h : PoolL H p l) (n1 : q ≠ p) (n2 : q ≠ l) : PoolL (upd H q o) p l := by
  obtain ⟨ns, a, b, c, d, h1, h2, h3⟩ := h
  exact ⟨ns, a, b, c, d, by rw [upd_ne n1.symm]; exact h1, by rw [upd_ne n2.symm]; exact h2, h3⟩
theorem okD_flat {n : Nat} {ds : List PyData} (hl : ds.length ≤ 1000000) (h : ∀ e ∈ ds, okD (n + 1) e) : okD (n + 2) (.list ds) ∧ okD (n + 2) (.tuple ds) := ⟨⟨hl, h⟩, ⟨hl, h⟩⟩
theorem okD_two {n : Nat} {a b : PyData} (ha : okD (n + 1) a) (hb : okD (n + 1) b) : okD (n + 2) (.tuple [a, b]) := ⟨by simp, fun e he => by
  rcases List.mem_cons.mp he with rfl | he
  · exact ha
  · rw [List.mem_singleton.mp he]; exact hb⟩
/-- what the top holds -/
structure Nms (K : PySem.W.Frag) (mg : Str → Option Value) where
  T : Blt mg
  a_is_name : Addr
  d_is_name : FuncData
  b_is_name : Binds K d_is_name ["word"] []
  k_is_name : PySem.W.keepIn K (.ref a_is_name) = true
  F_is_name : Fun K "is_name" "is_name" s_is_name a_is_name d_is_name
  g_is_name : mg "is_name" = some (.ref a_is_name)
  a_is_number : Addr
  d_is_number : FuncData
  b_is_number : Binds K d_is_number ["value", "least", "most"] []
  k_is_number : PySem.W.keepIn K (.ref a_is_number) = true
  F_is_number : ∃ dvs, FunD K "is_number" "is_number" (defArgs s_is_number) (defBody s_is_number) (defScope s_is_number) dvs [] a_is_number d_is_number
  g_is_number : mg "is_number" = some (.ref a_is_number)
  a_is_amount : Addr
  d_is_amount : FuncData
  b_is_amount : Binds K d_is_amount ["value"] []
  k_is_amount : PySem.W.keepIn K (.ref a_is_amount) = true
  F_is_amount : Fun K "is_amount" "is_amount" s_is_amount a_is_amount d_is_amount
  g_is_amount : mg "is_amount" = some (.ref a_is_amount)
  a_checked_rate : Addr
  d_checked_rate : FuncData
  b_checked_rate : Binds K d_checked_rate ["rate"] []
  k_checked_rate : PySem.W.keepIn K (.ref a_checked_rate) = true
  F_checked_rate : Fun K "checked_rate" "checked_rate" s_checked_rate a_checked_rate d_checked_rate
  g_checked_rate : mg "checked_rate" = some (.ref a_checked_rate)
  a_changed : Addr
  d_changed : FuncData
  b_changed : Binds K d_changed ["amount", "rate"] []
  k_changed : PySem.W.keepIn K (.ref a_changed) = true
  F_changed : Fun K "changed" "changed" s_changed a_changed d_changed
  g_changed : mg "changed" = some (.ref a_changed)
  a_rest_of : Addr
  d_rest_of : FuncData
  b_rest_of : Binds K d_rest_of ["amount", "rate"] []
  k_rest_of : PySem.W.keepIn K (.ref a_rest_of) = true
  F_rest_of : Fun K "rest_of" "rest_of" s_rest_of a_rest_of d_rest_of
  g_rest_of : mg "rest_of" = some (.ref a_rest_of)
  a_checked_weights : Addr
  d_checked_weights : FuncData
  b_checked_weights : Binds K d_checked_weights ["weights"] []
  k_checked_weights : PySem.W.keepIn K (.ref a_checked_weights) = true
  F_checked_weights : Fun K "checked_weights" "checked_weights" s_checked_weights a_checked_weights d_checked_weights
  g_checked_weights : mg "checked_weights" = some (.ref a_checked_weights)
  a_shared : Addr
  d_shared : FuncData
  b_shared : Binds K d_shared ["amount", "weights"] []
  k_shared : PySem.W.keepIn K (.ref a_shared) = true
  F_shared : Fun K "shared" "shared" s_shared a_shared d_shared
  g_shared : mg "shared" = some (.ref a_shared)
  a_judge_shared : Addr
  d_judge_shared : FuncData
  b_judge_shared : Binds K d_judge_shared ["amount", "weights", "told"] []
  k_judge_shared : PySem.W.keepIn K (.ref a_judge_shared) = true
  F_judge_shared : Fun K "judge_shared" "judge_shared" s_judge_shared a_judge_shared d_judge_shared
  g_judge_shared : mg "judge_shared" = some (.ref a_judge_shared)
  a_Rates___init__ : Addr
  d_Rates___init__ : FuncData
  b_Rates___init__ : Binds K d_Rates___init__ ["self"] []
  k_Rates___init__ : PySem.W.keepIn K (.ref a_Rates___init__) = true
  F_Rates___init__ : Fun K "__init__" "Rates.__init__" s_Rates___init__ a_Rates___init__ d_Rates___init__
  a_Rates_tell : Addr
  d_Rates_tell : FuncData
  b_Rates_tell : Binds K d_Rates_tell ["self", "day", "one", "other", "rate"] []
  k_Rates_tell : PySem.W.keepIn K (.ref a_Rates_tell) = true
  F_Rates_tell : Fun K "tell" "Rates.tell" s_Rates_tell a_Rates_tell d_Rates_tell
  a_Rates_rate : Addr
  d_Rates_rate : FuncData
  b_Rates_rate : Binds K d_Rates_rate ["self", "one", "other", "day"] []
  k_Rates_rate : PySem.W.keepIn K (.ref a_Rates_rate) = true
  F_Rates_rate : Fun K "rate" "Rates.rate" s_Rates_rate a_Rates_rate d_Rates_rate
  a_Rates_rows : Addr
  d_Rates_rows : FuncData
  b_Rates_rows : Binds K d_Rates_rows ["self"] []
  k_Rates_rows : PySem.W.keepIn K (.ref a_Rates_rows) = true
  F_Rates_rows : Fun K "rows" "Rates.rows" s_Rates_rows a_Rates_rows d_Rates_rows
  a_Rates_copy : Addr
  d_Rates_copy : FuncData
  b_Rates_copy : Binds K d_Rates_copy ["self"] []
  k_Rates_copy : PySem.W.keepIn K (.ref a_Rates_copy) = true
  F_Rates_copy : Fun K "copy" "Rates.copy" s_Rates_copy a_Rates_copy d_Rates_copy
  a__law_same : Addr
  d__law_same : FuncData
  b__law_same : Binds K d__law_same ["actual", "due"] []
  k__law_same : PySem.W.keepIn K (.ref a__law_same) = true
  F__law_same : Fun K "_law_same" "_law_same" s__law_same a__law_same d__law_same
  g__law_same : mg "_law_same" = some (.ref a__law_same)
  a__law_pool : Addr
  d__law_pool : FuncData
  b__law_pool : Binds K d__law_pool ["script"] []
  k__law_pool : PySem.W.keepIn K (.ref a__law_pool) = true
  F__law_pool : Fun K "_law_pool" "_law_pool" s__law_pool a__law_pool d__law_pool
  g__law_pool : mg "_law_pool" = some (.ref a__law_pool)
  a__law_draw : Addr
  d__law_draw : FuncData
  b__law_draw : Binds K d__law_draw ["pool", "many"] []
  k__law_draw : PySem.W.keepIn K (.ref a__law_draw) = true
  F__law_draw : Fun K "_law_draw" "_law_draw" s__law_draw a__law_draw d__law_draw
  g__law_draw : mg "_law_draw" = some (.ref a__law_draw)
  a__law_pick : Addr
  d__law_pick : FuncData
  b__law_pick : Binds K d__law_pick ["pool", "rows"] []
  k__law_pick : PySem.W.keepIn K (.ref a__law_pick) = true
  F__law_pick : Fun K "_law_pick" "_law_pick" s__law_pick a__law_pick d__law_pick
  g__law_pick : mg "_law_pick" = some (.ref a__law_pick)
  a__law_refusal : Addr
  d__law_refusal : FuncData
  b__law_refusal : Binds K d__law_refusal ["problem"] []
  k__law_refusal : PySem.W.keepIn K (.ref a__law_refusal) = true
  F__law_refusal : Fun K "_law_refusal" "_law_refusal" s__law_refusal a__law_refusal d__law_refusal
  g__law_refusal : mg "_law_refusal" = some (.ref a__law_refusal)
  a__law_good : Addr
  d__law_good : FuncData
  b__law_good : Binds K d__law_good ["amount", "weights", "told"] []
  k__law_good : PySem.W.keepIn K (.ref a__law_good) = true
  F__law_good : Fun K "_law_good" "_law_good" s__law_good a__law_good d__law_good
  g__law_good : mg "_law_good" = some (.ref a__law_good)
  a__law_refused : Addr
  d__law_refused : FuncData
  b__law_refused : Binds K d__law_refused ["choice", "one", "two", "three"] []
  k__law_refused : PySem.W.keepIn K (.ref a__law_refused) = true
  F__law_refused : Fun K "_law_refused" "_law_refused" s__law_refused a__law_refused d__law_refused
  g__law_refused : mg "_law_refused" = some (.ref a__law_refused)
  a__law_rates_right : Addr
  d__law_rates_right : FuncData
  b__law_rates_right : Binds K d__law_rates_right ["pool"] []
  k__law_rates_right : PySem.W.keepIn K (.ref a__law_rates_right) = true
  F__law_rates_right : Fun K "_law_rates_right" "_law_rates_right" s__law_rates_right a__law_rates_right d__law_rates_right
  g__law_rates_right : mg "_law_rates_right" = some (.ref a__law_rates_right)
  a_law : Addr
  d_law : FuncData
  b_law : Binds K d_law ["script"] []
  k_law : PySem.W.keepIn K (.ref a_law) = true
  F_law : Fun K "law" "law" s_law a_law d_law
  g_law : mg "law" = some (.ref a_law)
  CR : Addr
  gR : mg "Rates" = some (.ref CR)
  clR : Cls K CR
  nR_rows : NoAttr K CR "_rows"
  mkR : Mk K CR a_Rates___init__
  m_Rates_tell : Meth K CR "tell" a_Rates_tell
  m_Rates_rate : Meth K CR "rate" a_Rates_rate
  m_Rates_rows : Meth K CR "rows" a_Rates_rows
  m_Rates_copy : Meth K CR "copy" a_Rates_copy
  CE : Addr
  CP : Addr
  CN : Addr
  XP : ErrT K mg "InvalidPaper" CP
  XN : ErrT K mg "InvalidNumber" CN
  YP : CatchT K mg CE CP
  YN : CatchT K mg CE CN
  notNP : PySem.W.kitOne K (.ref CP) (.ref CN) = some false
  notPN : PySem.W.kitOne K (.ref CN) (.ref CP) = some false
  cLET : ∃ t, mg "LETTERS" = some (.str (Str.ofString "abcdefghijklmnopqrstuvwxyz") t)
  cLON : ∃ t, mg "LONGEST" = some (.int 12 t)
  cAM : ∃ t, mg "AMOUNT" = some (.int 1000000000 t)
  cMO : ∃ t, mg "MOST" = some (.int 1000000 t)
/-! ### sorted and max of lists of alike data (KE.SortData, KE.DataMinMax) -/
section sortd
variable {X : Cx}
open PySem.W (EachIs AllAlike Sortable dataLe AlikeAll maxD)
def rSortedDt (K : PySem.W.Frag) : List V → Hp → VK → Prop := fun vs H Q => ∃ (a : Addr) (bs : List (V × PyData)), vs = [V.ref a] ∧ SqL K H a (bs.map (·.1)) ∧ (∀ b ∈ bs, Dp K H b.1 b.2 ∧ b.2.depth ≤ 40) ∧ AllAlike (bs.map (·.2)) ∧ Sortable (bs.map (·.2)) ∧ bs.length ≤ sizeLine ∧
  ∀ p, H p = none → Q (.ref p) (upd H p (.lst ((bs.mergeSort (dataLe false fun b => b.2)).map (·.1))))
theorem each_vals : ∀ {bs : List (V × PyData)} {its : List Value}, Vals (bs.map (·.1)) its → EachIs (fun v b => RelV b.1 v) its bs
  | [], _, .nil => .nil
  | _ :: _, _, .cons r t => .cons r (each_vals t)
theorem vals_each : ∀ {bs : List (V × PyData)} {its : List Value}, EachIs (fun v b => RelV b.1 v) its bs → Vals (bs.map (·.1)) its
  | _, _, .nil => .nil
  | _, _, .cons r t => .cons r (vals_each t)
theorem each_reads {K : PySem.W.Frag} {H : Hp} {h : Heap} (hr : ∀ (d : PyData) (x : V) (v : Value), Dp K H x d → RelV x v → ∃ as, Reads h v d as) : ∀ {bs : List (V × PyData)} {its : List Value}, EachIs (fun v b => RelV b.1 v) its bs → (∀ b ∈ bs, Dp K H b.1 b.2 ∧ b.2.depth ≤ 40) → EachIs (fun v b => ∃ as, Reads h v b.2 as) its bs
  | _, _, .nil, _ => .nil
  | _, _, .cons r t, q => .cons (hr _ _ _ (q _ (List.mem_cons_self ..)).1 r) (each_reads hr t fun b m => q b (List.mem_cons_of_mem _ m))
theorem cr_sortedDt (hu : X.A.units + 64 < cLine) : CallR X (.builtin "sorted") (rSortedDt X.K) := by
  intro pins s σ H vs us Q I r h
  obtain ⟨a, bs, rfl, hs, hd, hal, hk, hL, q⟩ := h
  obtain ⟨its, rv, hl, _⟩ := I.list hs
  rw [Vals.ref1 r]
  refine PySem.W.sorted_data (enc := fun b : V × PyData => b.2) (R := fun v b => RelV b.1 v) hl.isList (each_vals rv) (each_reads (fun d x v p r => Dp.reads I d x v p r) (each_vals rv) hd) hal hk hL (fun b m => by have := (hd b m).2; omega) fun out h1 h2 => ?_
  obtain ⟨ep, he'⟩ := PyProof.Rows.sortedAll_at s.heap its out.toArray
  have hv := vals_each h2
  have hlen : ((bs.mergeSort (dataLe false fun b => b.2)).map (·.1)).length ≤ sizeLine := by rw [List.length_map, (List.mergeSort_perm bs _).length_eq]; exact hL
  exact ⟨.ref _, upd H (s.heap.objs.size + 1) (.lst ((bs.mergeSort (dataLe false fun b => b.2)).map (·.1))), I.laid (t' := s.toks) (fun _ _ => PyProof.Rows.sortedAll_old) (Nat.le_succ _) ⟨hlen, out, ep, hv, he'⟩, rfl, q _ (I.hok.fresh (Nat.le_succ _))⟩
def rMaxDt (K : PySem.W.Frag) : List V → Hp → VK → Prop := fun vs H Q => ∃ (a : Addr) (x : V × PyData) (xs : List (V × PyData)), vs = [V.ref a] ∧ SqL K H a ((x :: xs).map (·.1)) ∧ (∀ b ∈ x :: xs, Dp K H b.1 b.2 ∧ b.2.depth ≤ 40) ∧ AlikeAll ((x :: xs).map (·.2)) ∧
  ∀ b, b ∈ x :: xs → b.2 = maxD x.2 (xs.map (·.2)) → Q b.1 H
theorem depthAll_le : ∀ {l : List PyData}, (∀ d ∈ l, d.depth ≤ 40) → PyData.depthAll l ≤ 40
  | [], _ => Nat.zero_le _
  | d :: l, h => by
    show max d.depth (PyData.depthAll l) ≤ 40
    have h1 := h d (List.mem_cons_self ..)
    have h2 := depthAll_le (l := l) fun x m => h x (List.mem_cons_of_mem _ m)
    omega
theorem each_at {α β : Type} {R : α → β → Prop} : ∀ {as : List α} {bs : List β}, EachIs R as bs → ∀ (i : Nat) (a : α), as[i]? = some a → ∃ b, b ∈ bs ∧ R a b
  | _, _, .nil, i, a, h => by simp at h
  | _, _, .cons r t, 0, a, h => ⟨_, List.mem_cons_self .., by cases (Option.some.inj h); exact r⟩
  | _, _, .cons r t, i + 1, a, h => by
    obtain ⟨b, m, q⟩ := each_at t i a h
    exact ⟨b, List.mem_cons_of_mem _ m, q⟩
theorem each_and {α β : Type} {R S : α → β → Prop} : ∀ {as : List α} {bs : List β}, EachIs R as bs → EachIs S as bs → EachIs (fun a b => R a b ∧ S a b) as bs
  | _, _, .nil, .nil => .nil
  | _, _, .cons r t, .cons r' t' => .cons ⟨r, r'⟩ (each_and t t')
theorem readsAll_of {h : Heap} : ∀ {bs : List (V × PyData)} {its : List Value}, EachIs (fun v b => ∃ as, Reads h v b.2 as) its bs → ∃ as, ReadsAll h its (bs.map (·.2)) as
  | _, _, .nil => ⟨_, .nil⟩
  | _, _, .cons ⟨_, r⟩ t => by
    obtain ⟨as, q⟩ := readsAll_of t
    exact ⟨_, .cons r q⟩
theorem maxD_mem (x : PyData) : ∀ xs : List PyData, maxD x xs ∈ x :: xs := by
  intro xs
  unfold maxD
  induction xs generalizing x with
  | nil => simp
  | cons y ys ih =>
    rw [List.foldl_cons]
    have := ih (if PySem.W.dataLt x y = true then y else x)
    rcases List.mem_cons.mp this with e | m
    · rw [e]
      split
      · simp
      · simp
    · exact List.mem_cons_of_mem _ (List.mem_cons_of_mem _ m)
theorem cr_maxDt (hc : X.calm = true) (hu : X.A.units + 64 < cLine) : CallR X (.builtin "max") (rMaxDt X.K) := by
  intro pins s σ H vs us Q I r h
  obtain ⟨a, x, xs, rfl, hs, hd, hal, q⟩ := h
  obtain ⟨its, rv, hl, _⟩ := I.list hs
  rw [Vals.ref1 r]
  have ev := each_vals rv
  have er := each_reads (fun d x v p r => Dp.reads I d x v p r) ev hd
  obtain ⟨as, hra⟩ := readsAll_of er
  refine PySem.W.max_list_data (I.ok.hd hc) hl.isList (x := x.2) (xs := xs.map (·.2)) (by simpa using hra) (show AlikeAll (x.2 :: xs.map fun b => b.2) from hal) (by
    have := depthAll_le (l := (x :: xs).map (·.2)) fun d m => by
      obtain ⟨b, mb, rfl⟩ := List.mem_map.mp m
      exact (hd b mb).2
    simp only [List.map_cons] at this
    omega) fun i v h' tk bs hv hr hk => ?_
  obtain ⟨b, mb, rb, as2, r2⟩ := each_at (each_and ev er) i v (by simpa using hv)
  have r3 := PyProof.Rows.Reads.keeps hk r2
  have m1 : maxD x.2 (xs.map (·.2)) ∈ (x :: xs).map (·.2) := maxD_mem _ _
  have m2 : b.2 ∈ (x :: xs).map (·.2) := List.mem_map.mpr ⟨b, mb, rfl⟩
  have e := PySem.W.alike_unique _ _ _ _ _ (hal.1 _ m2 _ m1) r3 hr
  exact ⟨b.1, H, I.kept hk, rb, q b mb e⟩
end sortd
/-! ### list(reversed(xs)) -/
namespace LRev
open PySem PySem.Spec PyProof.Rows
section
variable {prog : Program} {w : World} {A : Around} {E : Value → Shared → Prop} {s : Shared} {R : Result → Shared → Prop}
theorem put_all {it l S : Addr} {items : Array Value} {res : Value} {c0 : Nat} (hh : A.handled = none) (hit : s.heap.IsRevIter it l ((items.size : Int) - 1)) (hl : s.heap.IsList l items) (hne : l ≠ it) (hn : items.size ≤ sizeLine) (hSi : S ≠ it) (hSl : S ≠ l)
    (hS : s.heap.get? S = some { cls := .type "list", data := .seq #[] c0 })
    (hR : ∀ s' acc' c', Moved [S, it] (fun a b => b = a) s s' → s'.heap.get? S = some { cls := .type "list", dict := none, data := .seq acc' c', slots := #[] } → ItemsOf (fun i v => items[items.size - 1 - i]? = some v) acc' items.size → R (.ok (.ret res)) s') :
    wpAny (model prog w) A.in1 (Builtin.List.listExtendWith (.ref S) (.ref it) res)
      (fun fin s' => match fin with | .done f => R (.ok f) s' | .again c' => c'.quiet = true ∧ codeAny (model prog w) A c' R s') (fun e s' => R (.error e) s') s := by
  have walk := (Walks.listRev (prog := prog) (w := w) (A := A.in1) hh it l hne items).toS
  have notIn : S ∉ [it, l] := by simp only [List.mem_cons, List.not_mem_nil, or_false, not_or]; exact ⟨hSi, hSl⟩
  have ty : s.TypeIs (.ref it) "list_reverseiterator" := Heap.IsRevIter.typeIs hit
  have other : Builtin.List.listSameRef (.ref S) (.ref it) = false := by simp [Builtin.List.listSameRef, hSi]
  unfold Builtin.List.listExtendWith
  refine wpAny_bind (wpAny_typeOf ty ?_)
  rw [if_neg (by rw [other]; decide)]
  refine wpAny_bind (wpAny_pyIter_revIter hit ?_)
  refine wpAny_bind (wpAny_holding ?_)
  unfold Builtin.List.listLengthHint
  refine wpAny_bind (wpAny_specialOf ty RT.nolen_lri ?_)
  show wpAny _ A.in1 (specialOf (Value.ref it) (Str.ofString "__length_hint__") >>= _) _ _ _
  refine wpAny_bind (wpAny_specialOf ty RT.hint_lri ?_)
  generalize hid : ("list_reverseiterator.__length_hint__" : String) = name0
  wp_delta
  rw [show splitId name0 = some ("list_reverseiterator", "__length_hint__") from by subst hid; decide +kernel]
  subst hid
  refine wpAny_bind (wpAny_isInstance (b := true) ty (by rw [isSubtype_type]; kernel_rfl) ?_)
  refine wpAny_pure ?_
  rw [if_neg (by decide)]
  have z : ((items.size : Nat) : Int) - 1 - ((0 : Nat) : Int) = (items.size : Int) - 1 := by omega
  refine wpAny_pure ⟨plainId_quiet F.plain_extend_loop _, codeAny_extend_loopS walk hn _ notIn _ items.size 0 _ _ _ rfl (Nat.zero_le _) ⟨Nat.zero_le _, by rw [z]; exact hit, hl⟩ hS (ItemsOf.nil _) fun s' acc' c' hm hS' hacc => ?_⟩
  exact hR s' acc' c' hm hS' hacc
theorem init_all {it l S : Addr} {items : Array Value} (hh : A.handled = none) (hit : s.heap.IsRevIter it l ((items.size : Int) - 1)) (hl : s.heap.IsList l items) (hne : l ≠ it) (hn : items.size ≤ sizeLine) (hSi : S ≠ it) (hSl : S ≠ l)
    (hS : s.heap.get? S = some { cls := .type "list", data := .seq #[] })
    (hR : ∀ s' acc' c', (∀ b o, b ≠ S → b ≠ it → s.heap.get? b = some o → s'.heap.get? b = some o) → (∃ h' tk, s' = { s with heap := h', toks := tk }) → s'.heap.get? S = some { cls := .type "list", dict := none, data := .seq acc' c', slots := #[] } → ItemsOf (fun i v => items[items.size - 1 - i]? = some v) acc' items.size → R (.ok (.ret .none)) s') :
    wpAny (model prog w) A.in1 (Builtin.«list.__init__» ⟨[.ref S, .ref it], []⟩)
      (fun fin s' => match fin with | .done f => R (.ok f) s' | .again c' => c'.quiet = true ∧ codeAny (model prog w) A c' R s') (fun e s' => R (.error e) s') s := by
  show wpAny _ A.in1 (do let old ← Builtin.List.listItems (.ref S); Builtin.List.listUpdate (.ref S) (fun _ => #[]); letGo old.toList.reverse; Builtin.List.listExtendWith (.ref S) (.ref it) .none) _ _ s
  refine wpAny_bind ?_
  unfold Builtin.List.listItems
  refine wpAny_bind (wpAny_seqItems hS rfl (wpAny_pure ?_))
  show wpAny _ A.in1 (updateSeq S (fun _ => #[]) >>= fun _ => letGo (#[] : Array Value).toList.reverse >>= fun _ => Builtin.List.listExtendWith (.ref S) (.ref it) .none) _ _ s
  refine wpAny_bind (wpAny_updateSeq hS rfl ?_)
  have emptied := Heap.get?_update_self (Obj.mapSeq (fun _ => (#[] : Array Value))) hS rfl
  have rest : ∀ b o, b ≠ S → s.heap.get? b = some o → (s.heap.update S (Obj.mapSeq (fun _ => (#[] : Array Value)))).get? b = some o := fun b o hb e => (Heap.get?_update_other _ _ (Ne.symm hb)).trans e
  refine wpAny_bind (wpAny_letGo ?_)
  refine put_all hh (hit.at fun o e => rest it o (Ne.symm hSi) e) (by
    obtain ⟨o, e, r⟩ := hl
    exact ⟨o, rest l o (Ne.symm hSl) e, r⟩) hne hn hSi hSl emptied fun s' acc' c' hm hS' hacc => ?_
  refine hR s' acc' c' (fun b o h1 h2 e => hm.heap b o (by simp [h1, h2]) (rest b o h1 e)) ⟨s'.heap, s'.toks, (Moved.eq_with hm).trans rfl⟩ hS' hacc
theorem call_all {it l : Addr} {items : Array Value} {Q : Value → Shared → Prop} (hh : A.handled = none) (hit : s.heap.IsRevIter it l ((items.size : Int) - 1)) (hl : s.heap.IsList l items) (hne : l ≠ it) (hn : items.size ≤ sizeLine)
    (hQ : ∀ (h' : Heap) (tk : Nat) (acc : Array Value) (c : Nat), (∀ b o, b ≠ it → s.heap.get? b = some o → h'.get? b = some o) → h'.get? s.heap.objs.size = some { cls := .type "list", dict := none, data := .seq acc c, slots := #[] } → ItemsOf (fun i v => items[items.size - 1 - i]? = some v) acc items.size → Q (.ref s.heap.objs.size) { s with heap := h', toks := tk }) :
    wpAny (model prog w) A (call (.type "list") [.ref it]) Q E s := by
  obtain ⟨oi, hoi, _⟩ := id hit
  obtain ⟨ol, hol, _⟩ := id hl
  have ni : s.heap.objs.size ≠ it := Nat.ne_of_gt (Heap.lt_size hoi)
  have nl : s.heap.objs.size ≠ l := Nat.ne_of_gt (Heap.lt_size hol)
  refine callType_codes (Q₁ := fun obj s₁ => obj = .ref s.heap.objs.size ∧ s₁ = { s with heap := s.heap.push { cls := .type "list", data := .seq #[] } }) F.called_list (F.typeCall_list_1 _) F.entry_list_init
    (code_list_new _ ⟨rfl, rfl⟩) fun obj s₁ h₁ => ?_
  obtain ⟨rfl, rfl⟩ := h₁
  have made : (s.heap.push { cls := .type "list", data := .seq #[] }).get? s.heap.objs.size = some { cls := .type "list", data := .seq #[] } := Heap.get?_push_size _ rfl
  refine ⟨⟨_, made, rfl⟩, F.args_list_init_2 _ _, init_all (s := { s with heap := s.heap.push { cls := .type "list", data := .seq #[] } }) hh (hit.at fun o e => Heap.get?_push_of_some _ e) (hl.push _) hne hn ni nl made fun s' acc' c' hk he hS' hacc => ?_⟩
  obtain ⟨h', tk, rfl⟩ := he
  exact ⟨rfl, hQ h' tk acc' c' (fun b o hb e => hk b o (Nat.ne_of_lt (Heap.lt_size e)) hb (Heap.get?_push_of_some _ e)) hS' hacc⟩
end
end LRev
section
variable {X : Cx}
def tListRev (K : PySem.W.Frag) (te : TE) : TE := fun σ H Q => te σ H fun v H1 => ∃ (a : Addr) (xs : List V), v = .ref a ∧ SqL K H1 a xs ∧ ∀ p, H1 p = none → Q (.ref p) (upd H1 p (.lst xs.reverse))
theorem w_listRev {K : PySem.W.Frag} {te : TE} {σ : L2.St} {H : Hp} {Q : VK} (h : te σ H fun v H1 => ∃ (a : Addr) (xs : List V), v = .ref a ∧ SqL K H1 a xs ∧ ∀ p, H1 p = none → Q (.ref p) (upd H1 p (.lst xs.reverse))) : tListRev K te σ H Q := h
theorem pe_listRev {e : Expr} {te : TE} {p p2 pos pos2 : Pos} (hc : X.calm = true) (hg : Gl X "list") (hm : X.mg "list" = none) (hg2 : Gl X "reversed") (hm2 : X.mg "reversed" = none) (he : PE X e te)
    (hs : starEach [e] X.env = (false, eval e X.env) :: starEach [] X.env := by rfl)
    (hs2 : starEach [.Call (.Name "reversed" p2) [e] [] pos2] X.env = (false, eval (.Call (.Name "reversed" p2) [e] [] pos2) X.env) :: starEach [] X.env := by rfl) :
    PE X (.Call (.Name "list" p) [.Call (.Name "reversed" p2) [e] [] pos2] [] pos) (tListRev X.K te) := by
  refine ⟨fun pins s σ H Q I h => ?_⟩
  refine Call_ (ld_blt I hg hm boot_list (PyProof.Rows.callWith_type1 (args_cons (Call_ (ld_blt I hg2 hm2 PyProof.Rows.boot_reversed (PyProof.Rows.callWith_type1 (args_cons (thn (he.run pins s σ H _ I h) fun u s1 ⟨v, H1, I1, r1, q1⟩ => args_nil ?_) hs) hs rfl))) hs2) hs2 rfl))
  obtain ⟨a, xs, ev, hq, q⟩ := q1
  subst ev
  obtain rfl : u = Value.ref a := r1
  obtain ⟨its, rv, p', hz⟩ := I1.list hq
  refine call_reversed_list p'.isList (args_nil ?_)
  have kept : ∀ b o, s1.heap.get? b = some o → (s1.heap.push (revObj a ((its.toArray.size : Int) - 1))).get? b = some o := fun b o e => Heap.get?_push_of_some _ e
  have I2 : Inv X pins σ H1 { s1 with heap := s1.heap.push (revObj a ((its.toArray.size : Int) - 1)) } := I1.kept (t' := s1.toks) kept
  obtain ⟨f0, f1, f2, f3, f4, f5⟩ := I1.fpOk (H' := H1) (b := s1.heap.objs.size) (Nat.le_refl _) (I1.hok.fresh (Nat.le_refl _))
  have hl := p'.isList
  obtain ⟨ol, hol, _⟩ := id hl
  have hne : a ≠ s1.heap.objs.size := Nat.ne_of_lt (Heap.lt_size hol)
  have hn : its.toArray.size ≤ sizeLine := by rw [List.size_toArray, ← rv.length]; exact hz
  refine LRev.call_all (s := { s1 with heap := s1.heap.push (revObj a ((its.toArray.size : Int) - 1)) }) (I1.ok.hd hc) ⟨_, Heap.get?_push_size _ rfl, rfl, rfl⟩ (hl.push _) hne hn fun h' tk acc c hk hm hi => ?_
  have fresh : H1 (s1.heap.push (revObj a ((its.toArray.size : Int) - 1))).objs.size = none := I2.hok.fresh (Nat.le_refl _)
  exact ⟨.ref _, upd H1 (s1.heap.push (revObj a ((its.toArray.size : Int) - 1))).objs.size (.lst xs.reverse), I1.laid (t' := tk) (fun b o e => hk b o (Nat.ne_of_lt (Heap.lt_size e)) (kept b o e)) (by rw [Heap.size_push]; exact Nat.le_succ _)
    (show ObjOk X.prog X.w _ _ _ (.lst xs.reverse) from ⟨by rw [List.length_reverse]; exact hz, acc.toList, c, RT.vals_rev rv hi, by rw [Array.toArray_toList]; exact hm⟩), rfl, q _ fresh⟩
end
end K78

namespace K78
open PySem PySem.Spec PyProof.Rows L2
/-! ### methods and makings that may raise; text times a number; X(e) -/
theorem ok_low {P : Program} {w : World} {K : PySem.W.Frag} {mg : Str → Option Value} {base : Heap} {k : Nat} {f : Addr} {fd : FuncData} {ps : List Str} {sp sp' : Sp} (F : FnOk P w K mg base (L2N.CX P w) k f fd ps sp)
    (h : ∀ vs H Q E, sp' vs H Q E → sp vs H Q fun _ _ _ => False) : FnOk P w K mg base CX0 k f fd ps sp' :=
  ⟨fun vs H Q E z => F.len _ _ _ _ (h _ _ _ _ z), fun A outer s H args us vs Q E hr e0 b r z => codeAny_mono (F.run A outer s H args us vs Q _ hr e0 b r (h _ _ _ _ z)) fun res s' q => by
    match res, q with
    | .ok (.ret _), q => exact q
    | .ok .next, q => exact q.elim
    | .ok .brk, q => exact q.elim
    | .ok .cont, q => exact q.elim
    | .error _, ⟨_, _, _, _, _, _, _, _, _, _, _, _, z⟩ => exact z.elim⟩
def tMethS (C : Addr) (m : Str) (sp : Sp) (E : L2.St → XK) (ta : TE) (t : TA) : TE := fun σ H Q => ta σ H fun x H1 => ∃ a dx fs, x = .ref a ∧ H1 a = some (.ins C dx fs) ∧ fs.lookup m = none ∧ t σ H1 fun vs H2 => sp (x :: vs) H2 Q (E σ)
def tMakeS (C : Addr) (sp : Sp) (E : L2.St → XK) (t : TA) : TE := fun σ H Q => t σ H fun vs H1 => ∀ x dx, H1 x = none → H1 dx = none → dx ≠ x →
  sp (.ref x :: vs) (upd (upd H1 dx (.own x)) x (.ins C dx [])) (fun v H2 => v = .non ∧ Q (.ref x) H2) (E σ)
section
variable {X : Cx} {CX : CXT} {k : Nat} {f C : Addr} {fd : FuncData} {ps : List Str} {sp : Sp} {E : L2.St → XK} {x m : Str} {p pos apos : Pos} {e o : Expr} {es : List Expr} {ta : TE} {t : TA}
theorem pe_methS1 {pl : Sem Bool} (he : PE X o ta) (c : Cls X.K C) (hm : Meth X.K C m f) (F : FnOk X.prog X.w X.K X.mg X.base CX k f fd ps sp) (hr : Room k X.A) (hb : Binds X.K fd ps []) (hx : ∀ σ, PassesAt CX X σ (E σ)) (ha : PA X (e :: es) t)
    (hst : starEach (e :: es) X.env = (false, eval e X.env) :: starEach es X.env := by rfl) (hpl : (backTo pos (starEach es X.env)).any (·.1) = false := by rfl)
    (ht : eval (.Call (.Attribute o m apos) (e :: es) [] pos) X.env = (do
      let ov ← eval o X.env
      standAt apos.atName
      let (f, first) ← holding [ov] (getMethod ov m pl)
      callWith pos f first (backTo pos (starEach (e :: es) X.env)) (backToKw pos (keywordEach [] X.env))) := by rfl) :
    PE X (.Call (.Attribute o m apos) (e :: es) [] pos) (tMethS C m sp E ta t) := by
  refine ⟨fun pins s σ H Q I h => ?_⟩
  refine PySem.W.methodCall_KW (pl := pl) (thn (he.run pins s σ H _ I h) fun u s1 ⟨x, H1, I1, rx, a, dx, fs, ex, ea, l, q⟩ => ?_) ht
  subst ex
  obtain rfl : u = Value.ref a := rx
  refine getmeth_ok I1 ea c hm l ?_
  refine PySem.W.callWith_K (first := [.ref a]) (h₀ := X.base) I.ok.mod.kin hm.kp (thn (ha.run pos pins s1 σ H1 _ I1 q) fun us s2 ⟨vs, H2, I2, r, q2⟩ => ⟨I2.kIn, ?_⟩) hst hpl
  exact run_fnS (us := .ref a :: us) (vs := .ref a :: vs) F hr hb (hx σ) I2 (.cons rfl r) q2
theorem pe_methS0 {pl : Sem Bool} (he : PE X o ta) (c : Cls X.K C) (hm : Meth X.K C m f) (F : FnOk X.prog X.w X.K X.mg X.base CX k f fd ps sp) (hr : Room k X.A) (hb : Binds X.K fd ps []) (hx : ∀ σ, PassesAt CX X σ (E σ))
    (ht : eval (.Call (.Attribute o m apos) [] [] pos) X.env = (do
      let ov ← eval o X.env
      standAt apos.atName
      let (f, first) ← holding [ov] (getMethod ov m pl)
      callWith pos f first (backTo pos (starEach [] X.env)) (backToKw pos (keywordEach [] X.env))) := by rfl) :
    PE X (.Call (.Attribute o m apos) [] [] pos) (tMethS C m sp E ta tNil) := by
  refine ⟨fun pins s σ H Q I h => ?_⟩
  refine PySem.W.methodCall_KW (pl := pl) (thn (he.run pins s σ H _ I h) fun u s1 ⟨x, H1, I1, rx, a, dx, fs, ex, ea, l, q⟩ => ?_) ht
  subst ex
  obtain rfl : u = Value.ref a := rx
  refine getmeth_ok I1 ea c hm l ?_
  exact PySem.W.callWith_K0 (first := [.ref a]) I1.kIn hm.kp (run_fnS (us := [.ref a]) (vs := [.ref a]) F hr hb (hx σ) I1 (.cons rfl .nil) q)
theorem run_makeS {pins : List (Addr × Obj)} {σ : L2.St} {H : Hp} {s : Shared} {Q : VK} {us : List Value} {vs : List V} (M : Mk X.K C f) (F : FnOk X.prog X.w X.K X.mg X.base CX k f fd ps sp) (hr : Room (k + 1) X.A) (hb : Binds X.K fd ps [])
    (hx : PassesAt CX X σ (E σ)) (I : Inv X pins σ H s) (r : Vals vs us)
    (h : ∀ x dx, H x = none → H dx = none → dx ≠ x → sp (.ref x :: vs) (upd (upd H dx (.own x)) x (.ins C dx [])) (fun v H2 => v = .non ∧ Q (.ref x) H2) (E σ)) :
    wpAny (model X.prog X.w) X.A (call (.ref C) us) (EP X pins σ Q) X.xe s := by
  have hq := h (s.heap.objs.size + 1) s.heap.objs.size (I.hok.fresh (Nat.le_succ _)) (I.hok.fresh (Nat.le_refl _)) (Nat.ne_of_lt (Nat.lt_succ_self _))
  have I2 := Inv.made (C := C) I
  have r2 : Vals (V.ref (s.heap.objs.size + 1) :: vs) (Value.ref (s.heap.objs.size + 1) :: us) := .cons rfl r
  have hl : (Value.ref (s.heap.objs.size + 1) :: us ++ []).length = ps.length := by
    have e := r2.length
    rw [F.len _ _ _ _ hq] at e
    rw [List.append_nil]
    exact e.symm
  have b := hb _ (Value.ref (s.heap.objs.size + 1) :: us) I2.kIn hl
  rw [List.append_nil] at b
  refine wpAny_call (make_map (f := f) I.kIn M.makes M.init (beq_iff_eq.mp M.fn) (codeAny_mono (F.run _ X.stack _ _ ⟨Value.ref (s.heap.objs.size + 1) :: us, []⟩ (Value.ref (s.heap.objs.size + 1) :: us) _ _ (E σ) (hr.make C us [])
    (I2.env0.make C us []) b r2 hq) fun r s' hq' => ?_))
  cases r with
  | error e => exact hx pins _ _ e s' I2 hq'
  | ok fl =>
    cases fl with
    | ret u =>
      obtain ⟨v, H', I3, rv, ev, q3⟩ := I2.after hq'
      subst ev
      exact ⟨rv, ⟨V.ref (s.heap.objs.size + 1), H', I3, rfl, q3⟩⟩
    | next => exact False.elim hq'
    | brk => exact False.elim hq'
    | cont => exact False.elim hq'
theorem pe_makeS1 (M : Mk X.K C f) (F : FnOk X.prog X.w X.K X.mg X.base CX k f fd ps sp) (hr : Room (k + 1) X.A) (hg : Gl X x) (hm : X.mg x = some (.ref C)) (hb : Binds X.K fd ps []) (hx : ∀ σ, PassesAt CX X σ (E σ))
    (ha : PA X (e :: es) t) (hdb : (x == ("__debug__" : Str)) = false := by decide) (he : starEach (e :: es) X.env = (false, eval e X.env) :: starEach es X.env := by rfl) (hpl : (backTo pos (starEach es X.env)).any (·.1) = false := by rfl) :
    PE X (.Call (.Name x p) (e :: es) [] pos) (tMakeS C sp E t) := by
  refine ⟨fun pins s σ H Q I h => ?_⟩
  refine wpAny_Call_Name_kw (ld_glob I hg hm ?_ hdb)
  refine PySem.W.callWith_K (h₀ := X.base) I.ok.mod.kin M.kp (thn (ha.run pos pins s σ H _ I h) fun us s1 ⟨vs, H1, I1, r, q⟩ => ⟨I1.kIn, ?_⟩) he hpl
  exact run_makeS M F hr hb (hx σ) I1 r q
/-- X(e), where what is made keeps no context -/
theorem pmk_own1N {bmB : List Value} {B newId initId : String} (F : ExcBaseFacts B newId initId bmB) (q : PySem.W.excIn X.K C bmB newId = true) (gC : X.mg x = some (.ref C)) (kC : PySem.W.keepIn X.K (.ref C) = true) (r : Raises X (.ref C)) (hg : Gl X x)
    (he : PE X e ta) (hs : starEach [e] X.env = (false, eval e X.env) :: starEach [] X.env := by rfl) (hdb : (x == ("__debug__" : Str)) = false := by decide) :
    L2N.PMk X (.Call (.Name x p) [e] [] pos) (fun σ H Q => ta σ H fun _ H1 => Q (.ref C) none H1) := by
  intro pins s σ H Q I h
  refine wpAny_Call_Name_kw (ld_glob I hg gC ?_ hdb)
  refine PySem.W.callWith_K (h₀ := X.base) I.ok.mod.kin kC ?_ hs (by rfl)
  rw [hs]
  show wpAny _ _ (spliced ((false, eval e X.env) :: backTo pos (starEach [] X.env))) _ _ s
  refine Calls.spliced_cons (thn (he.run pins s σ H _ I h) fun u s1 ⟨v, H1, I1, r1, q1⟩ => ?_)
  refine Calls.spliced_nil ⟨I1.kIn, ?_⟩
  show wpAny _ _ (call (.ref C) [u]) _ _ _
  obtain ⟨bm, N, nm, qn, bs, hdct, sn, sub, ab, col, dd, k0, k1, k2, k3, k5, mN, hC, hN, hni, T⟩ := exc_obj I1.kIn q
  refine wpAny_call_exc_subT F T hC hN hni (fun h' e hm => ?_) (by show 1 ≤ sizeLine; rw [sizeLine_eq]; omega)
  exact L2N.mk_of I1 hm r q1 (I1.hok.gone hm.new)
theorem op_mul_str : OpR X (binaryOp .Mult) (fun x y H Q => ∃ (z : Str) (n : Int), x = .str z ∧ y = .int n ∧ MulOk z n ∧ Q (.str (Txt.mul z n)) H) := by
  intro pins s σ H x y v u Q I rx ry h
  obtain ⟨z, n, rfl, rfl, ok, q⟩ := h
  obtain ⟨t, rfl⟩ := rx
  obtain ⟨t', rfl⟩ := ry
  exact PySem.SB.mul ok fun t2 k => ⟨.str _, H, I.kept (t' := k) fun _ _ e => e, ⟨_, rfl⟩, q⟩
end
section steps
variable {σ : L2.St} {H : Hp} {D : Ends}
theorem w_methS {C : Addr} {m : Str} {sp : Sp} {E : L2.St → XK} {ta : TE} {t : TA} {Q : VK} (h : ta σ H fun x H1 => ∃ a dx fs, x = .ref a ∧ H1 a = some (.ins C dx fs) ∧ fs.lookup m = none ∧ t σ H1 fun vs H2 => sp (x :: vs) H2 Q (E σ)) : tMethS C m sp E ta t σ H Q := h
theorem w_makeS {C : Addr} {sp : Sp} {E : L2.St → XK} {t : TA} {Q : VK} (h : t σ H fun vs H1 => ∀ x dx, H1 x = none → H1 dx = none → dx ≠ x → sp (.ref x :: vs) (upd (upd H1 dx (.own x)) x (.ins C dx [])) (fun v H2 => v = .non ∧ Q (.ref x) H2) (E σ)) : tMakeS C sp E t σ H Q := h
theorem w_dictD {a : Addr} {kvs : List (Key × V)} {R : List (Key × V) → Addr → Prop} (h : H a = some (.dK kvs)) (k : ∀ p, H p = none → R kvs p) : ∃ (b : Addr) (ks : List (Key × V)), [V.ref a] = [.ref b] ∧ Rd H b (.dK ks) ∧ ∀ p, H p = none → R ks p := ⟨a, kvs, rfl, Rd.of h, k⟩
theorem w_isD {a : Addr} {kvs : List (Key × V)} {P : Addr → Prop} (h : H a = some (.dK kvs)) (k : P a) : ∃ b, V.ref a = .ref b ∧ IsD H b ∧ P b := ⟨a, rfl, .inl ⟨kvs, Rd.of h⟩, k⟩
theorem w_dpop {td ty : TE} {Q : VK} (h : td σ H fun x H1 => ∃ a, x = .ref a ∧ IsD H1 a ∧ ty σ H1 fun y H2 => ∃ kvs k v, H2 a = some (.dK kvs) ∧ y = kV k ∧ valV kvs k = some v ∧ Q v (upd H2 a (.dK (dropK kvs k)))) : tDPop1 td ty σ H Q := h
theorem w_dpopS {a : Addr} {kvs : List (Key × V)} {x : Str} {v : V} {R : List (Key × V) → Key → V → Prop} (h : H a = some (.dK kvs)) (e : valV kvs (Sum.inr x : Key) = some v) (k : R kvs (Sum.inr x) v) :
    ∃ kvs k v, H a = some (.dK kvs) ∧ V.str x = kV k ∧ valV kvs k = some v ∧ R kvs k v := ⟨kvs, Sum.inr x, v, h, rfl, e, k⟩
end steps
theorem _root_.L2.Fun.okN {P : Program} {w : World} {K : PySem.W.Frag} {mg : Str → Option Value} {base : Heap} {x qual : Str} {st : Stmt} {f : Addr} {fd : FuncData} {N ps : List Str} {k : Nat} {sp : Sp} (F : Fun K x qual st f fd) (S : FnScope N ps (defScope st)) (len : ∀ vs H Q E, sp vs H Q E → vs.length = ps.length)
    (hbody : ∀ (cdv : Value) (A : Around) (outer : List Env) (s : Shared) (H : Hp) (vs : List V) (Q : VK) (E : XK), Room k (A.deeper (envOfC qual (defScope st) s.heap.objs.size f cdv)) → sp vs H Q E →
      ∃ t, PSs (cxOf (L2N.CX P w) P w K mg base N qual (defScope st) f cdv A outer s H E) (defBody st) t ∧ t { nx := fun _ H' => Q .non H', rt := Q } (start N vs) H) : FnOk P w K mg base (L2N.CX P w) (k + 1) f fd ps sp := by
  obtain ⟨oc, od, kV, doc, pm, an, cdv, ct, osl, rfl, lk, hcd⟩ := F.ex
  exact fn_of lk hcd S len fun A outer s H vs Q E hr hsp => hbody cdv A outer s H vs Q E hr hsp
theorem w_notT {K : PySem.W.Frag} {ta : TE} {σ : L2.St} {H : Hp} {Q : VK} (h : ta σ H fun x H1 => ∃ k, TruV K x H1 k ∧ Q (.bl (!k)) H1) : tNotT K ta σ H Q := h
section steps
variable {H : Hp} {K : PySem.W.Frag}
theorem w_isiI {i : Int} {n : String} {b : Bool} {Q : VK} (k : kitB "int" n = some b) (q : Q (.bl b) H) : rIsi K [.int i, .ty n] H Q := ⟨_, _, .type "int", .type n, b, rfl, .ty n, .base (.int _), kit_ty k, q⟩
theorem w_isiB {i : Bool} {n : String} {b : Bool} {Q : VK} (k : kitB "bool" n = some b) (q : Q (.bl b) H) : rIsi K [.bl i, .ty n] H Q := ⟨_, _, .type "bool", .type n, b, rfl, .ty n, .base (.bl _), kit_ty k, q⟩
theorem w_isiS {i : Str} {n : String} {b : Bool} {Q : VK} (k : kitB "str" n = some b) (q : Q (.bl b) H) : rIsi K [.str i, .ty n] H Q := ⟨_, _, .type "str", .type n, b, rfl, .ty n, .base (.str _), kit_ty k, q⟩
theorem w_isiN {n : String} {b : Bool} {Q : VK} (k : kitB "NoneType" n = some b) (q : Q (.bl b) H) : rIsi K [.non, .ty n] H Q := ⟨_, _, .type "NoneType", .type n, b, rfl, .ty n, .base .non, kit_ty k, q⟩
theorem w_isiL {a : Addr} {xs : List V} {n : String} {b : Bool} {Q : VK} (h : H a = some (.lst xs)) (k : kitB "list" n = some b) (q : Q (.bl b) H) : rIsi K [.ref a, .ty n] H Q := ⟨_, _, .type "list", .type n, b, rfl, .ty n, .base (.lst h), kit_ty k, q⟩
theorem w_isiT {a : Addr} {xs : List V} {n : String} {b : Bool} {Q : VK} (h : H a = some (.tup xs)) (k : kitB "tuple" n = some b) (q : Q (.bl b) H) : rIsi K [.ref a, .ty n] H Q := ⟨_, _, .type "tuple", .type n, b, rfl, .ty n, tyT (SqT.of h), kit_ty k, q⟩
theorem w_trL {a : Addr} {xs : List V} {P : Bool → Prop} (h : H a = some (.lst xs)) (k : P (!xs.isEmpty)) : ∃ c, TruV K (.ref a) H c ∧ P c := ⟨_, .inl ⟨_, SqL.of h, rfl⟩, k⟩
end steps
theorem w_chain {r r' : R2} {ta tb tc : TE} {σ : L2.St} {H : Hp} {Q : VK} (h : ta σ H fun x H1 => tb σ H1 fun y H2 => r x y H2 fun z H3 => ∃ k, z = .bl k ∧ (if k = true then tc σ H3 fun w' H4 => r' y w' H4 Q else Q (.bl false) H3)) : tChain r r' ta tb tc σ H Q := h
theorem mkS_app (a b : List Nat) : mkS a ++ mkS b = mkS (a ++ b) := TL.ext_tl (by rw [TL.tl_append])
section steps
variable {σ : L2.St} {H : Hp} {K : PySem.W.Frag}
theorem w_gTup {n : Nat} {g : TGs} {a : Addr} {xs : List V} {Q : L2.St → Hp → Prop} (h : H a = some (.tup xs)) (l : xs.length = n) (k : g xs σ H Q) : gTup K n g (.ref a) σ H Q := ⟨a, xs, rfl, SqT.of h, l, k⟩
theorem w_gLst {n : Nat} {g : TGs} {a : Addr} {xs : List V} {Q : L2.St → Hp → Prop} (h : H a = some (.lst xs)) (l : xs.length = n) (k : g xs σ H Q) : gLst K n g (.ref a) σ H Q := ⟨a, xs, rfl, SqL.of h, l, k⟩
theorem w_gCons {t : TG} {u : TGs} {v : V} {r : List V} {Q : L2.St → Hp → Prop} (h : t v σ H fun σ' H' => u r σ' H' Q) : gCons t u (v :: r) σ H Q := ⟨v, r, rfl, h⟩
theorem w_gNil {Q : L2.St → Hp → Prop} (h : Q σ H) : gNil [] σ H Q := ⟨rfl, h⟩
end steps
/-! ### dicts by index, dicts of texts -/
def kvI (l : List V) : List (Key × V) := l.zipIdx.map fun p => ((Sum.inl (p.2 : Int) : Key), p.1)
def kvIn (n : Nat) (l : List V) : List (Key × V) := (l.zipIdx n).map fun p => ((Sum.inl (p.2 : Int) : Key), p.1)
theorem kvIn_cons (n : Nat) (a : V) (r : List V) : kvIn n (a :: r) = ((Sum.inl (n : Int) : Key), a) :: kvIn (n + 1) r := rfl
theorem kvIn_val : ∀ (l : List V) (n i : Nat), valV (kvIn n l) (Sum.inl ((n + i : Nat) : Int)) = l[i]?
  | [], _, _ => rfl
  | a :: r, n, 0 => valV_pos rfl
  | a :: r, n, i + 1 => by
    rw [kvIn_cons, valV_neg (by intro z; have := Sum.inl.inj z; omega), show n + (i + 1) = (n + 1) + i by omega, kvIn_val r (n + 1) i]
    rfl
theorem kvI_val (l : List V) (i : Nat) : valV (kvI l) (Sum.inl (i : Int)) = l[i]? := by
  have := kvIn_val l 0 i
  rw [Nat.zero_add] at this
  exact this
theorem kvI_get {l : List V} {i : Nat} {v : V} (h : l[i]? = some v) : valV (kvI l) (Sum.inl (i : Int)) = some v := by rw [kvI_val]; exact h
theorem kvI_len (l : List V) : (kvI l).length = l.length := by unfold kvI; rw [List.length_map, List.length_zipIdx]
theorem kvIn_any : ∀ (l : List V) (n i : Nat), ((kvIn n l).any fun kv => decide (kv.1 = (Sum.inl ((n + i : Nat) : Int) : Key))) = decide (i < l.length)
  | [], _, _ => rfl
  | a :: r, n, 0 => by rw [kvIn_cons, List.any_cons]; simp
  | a :: r, n, i + 1 => by
    rw [kvIn_cons, List.any_cons, show n + (i + 1) = (n + 1) + i by omega, kvIn_any r (n + 1) i, List.length_cons]
    have : decide ((Sum.inl (n : Int) : Key) = Sum.inl ((n + 1 + i : Nat) : Int)) = false := decide_eq_false fun z => by have := Sum.inl.inj z; omega
    rw [this, Bool.false_or]
    rw [Bool.eq_iff_iff, decide_eq_true_eq, decide_eq_true_eq]
    omega
theorem kvIn_map : ∀ (l : List V) (n i : Nat) (v : V), (kvIn n l).map (fun kv => if kv.1 = (Sum.inl ((n + i : Nat) : Int) : Key) then (kv.1, v) else kv) = kvIn n (l.set i v)
  | [], _, _, _ => rfl
  | a :: r, n, 0, v => by
    rw [kvIn_cons, List.map_cons, List.set_cons_zero, kvIn_cons, if_pos (show (Sum.inl (n : Int) : Key) = Sum.inl ((n + 0 : Nat) : Int) from rfl)]
    congr 1
    have : ∀ (r : List V) (m : Nat), n + 0 < m → (kvIn m r).map (fun kv => if kv.1 = (Sum.inl ((n + 0 : Nat) : Int) : Key) then (kv.1, v) else kv) = kvIn m r := by
      intro r
      induction r with
      | nil => intro m _; rfl
      | cons b s ih =>
        intro m hm
        rw [kvIn_cons, List.map_cons, if_neg (by intro z; have := Sum.inl.inj z; omega), ih (m + 1) (by omega)]
    exact this r (n + 1) (by omega)
  | a :: r, n, i + 1, v => by
    rw [kvIn_cons, List.map_cons, List.set_cons_succ, kvIn_cons, if_neg (by intro z; have := Sum.inl.inj z; omega), show n + (i + 1) = (n + 1) + i by omega, kvIn_map r (n + 1) i v]
theorem kvI_put {l : List V} {i : Nat} {v : V} (h : i < l.length) : putK (kvI l) (Sum.inl (i : Int)) v = kvI (l.set i v) := by
  have e1 := kvIn_any l 0 i
  have e2 := kvIn_map l 0 i v
  rw [Nat.zero_add] at e1 e2
  unfold putK
  show (if ((kvIn 0 l).any fun kv => decide (kv.1 = (Sum.inl ((i : Nat) : Int) : Key))) = true then (kvIn 0 l).map (fun kv => if kv.1 = (Sum.inl ((i : Nat) : Int) : Key) then (kv.1, v) else kv) else _) = kvIn 0 (l.set i v)
  rw [e1, if_pos (decide_eq_true h), e2]
theorem kvI_end {l : List V} {v : V} : putK (kvI l) (Sum.inl (l.length : Int)) v = kvI (l ++ [v]) := by
  have e1 := kvIn_any l 0 l.length
  rw [Nat.zero_add] at e1
  unfold putK
  show (if ((kvIn 0 l).any fun kv => decide (kv.1 = (Sum.inl ((l.length : Nat) : Int) : Key))) = true then _ else kvIn 0 l ++ [(Sum.inl ((l.length : Nat) : Int), v)]) = kvIn 0 (l ++ [v])
  rw [e1, if_neg (by simp)]
  unfold kvIn
  rw [List.zipIdx_append, List.map_append]
  simp
def kvN (l : List (List Nat × Nat)) : List (Key × V) := l.map fun p => ((Sum.inr (mkS p.1) : Key), V.int p.2)
theorem mkS_inj {a b : List Nat} (h : mkS a = mkS b) : a = b := by
  have := congrArg tl h
  exact this
theorem kvN_val : ∀ (l : List (List Nat × Nat)) (x : List Nat), valV (kvN l) (Sum.inr (mkS x)) = (l.lookup x).map fun n => V.int n
  | [], _ => rfl
  | (y, n) :: r, x => by
    show valV (((Sum.inr (mkS y) : Key), V.int n) :: kvN r) _ = _
    by_cases e : y = x
    · subst e
      rw [valV_pos rfl, List.lookup_cons, show (y == y) = true by simp]
      rfl
    · rw [valV_neg (by intro z; exact e (mkS_inj (Sum.inr.inj z))), kvN_val r x, List.lookup_cons, show (x == y) = false by simpa using fun z : x = y => e z.symm]
theorem kvN_len (l : List (List Nat × Nat)) : (kvN l).length = l.length := by unfold kvN; rw [List.length_map]
theorem kvN_put {l : List (List Nat × Nat)} {x : List Nat} {n : Nat} (h : l.lookup x = none) : putK (kvN l) (Sum.inr (mkS x)) (.int n) = kvN (l ++ [(x, n)]) := by
  unfold putK
  rw [valV_any, kvN_val, h, if_neg (by simp)]
  unfold kvN
  rw [List.map_append]; rfl
theorem kvN_drop (l : List (List Nat × Nat)) (x : List Nat) : dropK (kvN l) (Sum.inr (mkS x)) = kvN (l.filter fun p => decide (p.1 ≠ x)) := by
  unfold dropK kvN
  rw [List.filter_map]
  congr 1
  apply List.filter_congr
  intro p _
  show decide ((Sum.inr (mkS p.1) : Key) ≠ Sum.inr (mkS x)) = decide (p.1 ≠ x)
  rw [Bool.eq_iff_iff, decide_eq_true_eq, decide_eq_true_eq]
  exact ⟨fun z y => z (by rw [y]), fun z y => z (mkS_inj (Sum.inr.inj y))⟩
theorem kvN_keys (l : List (List Nat × Nat)) : (kvN l).map (·.1) = (l.map fun p => mkS p.1).map Sum.inr := by
  unfold kvN
  rw [List.map_map, List.map_map]
  rfl
end K78

namespace K78
open PySem PySem.Spec PyProof.Rows L2
local macro_rules | `(tactic| array_mem_dec) => `(tactic| first | with_reducible assumption | with_reducible exact upd_same | ((with_reducible apply same_at); (with_reducible assumption); array_mem_dec) | ((with_reducible apply upd_atN); (with_reducible assumption); array_mem_dec) | ((with_reducible apply upd_at); (first | with_reducible assumption | (apply Ne.symm; with_reducible assumption)); array_mem_dec))
local macro_rules | `(tactic| array_get_dec) => `(tactic| first | (with_reducible refine w_seq ?_) | (with_reducible refine w_asg ?_) | (with_reducible refine w_drop ?_) | (with_reducible refine w_ret ?_) | (with_reducible refine w_retN ?_) | (with_reducible refine w_next ?_) | (with_reducible refine w_break ?_) | (with_reducible refine w_cont ?_) | (with_reducible refine w_ifS ?_) | (with_reducible refine w_sub ?_) | (with_reducible refine w_c ?_) | (with_reducible refine w_op ?_) | (with_reducible refine w_un ?_) | (with_reducible refine w_test ?_) | (with_reducible refine w_B ?_) | (with_reducible refine w_yes ?_) | (with_reducible refine w_not ?_) | (with_reducible refine w_and ?_) | (with_reducible refine w_or ?_) | (with_reducible refine w_andV ?_) | (with_reducible refine w_orV ?_) | (with_reducible refine w_notV ?_) | (with_reducible refine w_ifE ?_) | (with_reducible refine w_nil ?_) | (with_reducible refine w_cons ?_) | (with_reducible refine w_call ?_) | (with_reducible refine w_callS ?_) | (with_reducible refine w_cB ?_) | (with_reducible refine w_lst ?_) | (with_reducible refine w_tup ?_) | (with_reducible refine w_sl ?_) | (with_reducible refine w_noPart ?_) | (with_reducible refine w_part ?_) | (with_reducible refine w_bm ?_) | (with_reducible refine w_bm0 ?_) | (with_reducible refine w_strTy ?_) | (with_reducible refine w_bl ?_) | (with_reducible refine w_int1 ?_) | (with_reducible refine w_str1 ?_) | (with_reducible refine w_rI0 ?_) | (with_reducible refine w_rU ?_) | (with_reducible refine w_eqI ?_) | (with_reducible refine w_eqS ?_) | (with_reducible refine w_neI ?_) | (with_reducible refine w_neS ?_) | (with_reducible refine w_bl2 ?_) | (with_reducible refine w_isN ?_) | (with_reducible refine w_for ?_) | (with_reducible refine w_iRng1 ?_) | (with_reducible refine w_iRng2 ?_) | (with_reducible refine w_iList ?_) | (with_reducible refine w_iTup ?_) | (with_reducible refine w_iStr ?_) | (with_reducible refine w_lc ?_) | (with_reducible refine w_M1 ?_) | (with_reducible refine w_M0 ?_) | (with_reducible refine w_isS ?_) | ((with_reducible apply w_name); (simp only [wipe, List.map_cons, List.map_nil, List.foldl_cons, List.foldl_nil, List.set_cons_zero, List.set_cons_succ]; exact rfl)) | ((with_reducible apply w_var); exact rfl) | ((with_reducible apply w_lstTy); array_mem_dec) | ((with_reducible apply w_lenL); array_mem_dec) | ((with_reducible apply w_lenT); array_mem_dec) | ((with_reducible apply w_listOf); array_mem_dec) | ((with_reducible apply w_lenS); (first | (with_reducible assumption) | omega | (rw [sizeLine_eq]; omega))) | ((with_reducible apply w_slS); (first | (with_reducible assumption) | omega | (rw [sizeLine_eq]; omega))) | ((with_reducible apply w_wipe); exact rfl) | ((with_reducible apply w_acc); array_mem_dec; (try (first | (with_reducible assumption) | omega | (rw [sizeLine_eq]; omega)))) | ((with_reducible apply w_itl); array_mem_dec) | ((with_reducible apply w_itt); array_mem_dec) | ((with_reducible apply w_append); array_mem_dec; (try (first | (with_reducible assumption) | omega | (rw [sizeLine_eq]; omega)))) | ((with_reducible apply w_rng1); (first | (with_reducible assumption) | omega); (first | (with_reducible assumption) | omega)) | ((with_reducible apply w_ixL); array_mem_dec; (first | (with_reducible assumption) | exact rfl | (apply atI_nat; (with_reducible assumption)) | exact atI_last _ _)) | ((with_reducible apply w_ixT); array_mem_dec; (first | (with_reducible assumption) | exact rfl | (apply atI_nat; (with_reducible assumption)) | exact atI_last _ _)) | ((with_reducible apply w_iT); first | exact rfl | (with_reducible assumption)) | ((with_reducible apply w_iF); first | exact rfl | (with_reducible assumption)) | ((with_reducible apply w_isiI (b := true)); decide +kernel) | ((with_reducible apply w_isiI (b := false)); decide +kernel) | ((with_reducible apply w_isiB (b := true)); decide +kernel) | ((with_reducible apply w_isiB (b := false)); decide +kernel) | ((with_reducible apply w_isiS (b := true)); decide +kernel) | ((with_reducible apply w_isiS (b := false)); decide +kernel) | ((with_reducible apply w_isiN (b := true)); decide +kernel) | ((with_reducible apply w_isiN (b := false)); decide +kernel) | ((with_reducible apply w_isiL (b := true)); array_mem_dec; decide +kernel) | ((with_reducible apply w_isiL (b := false)); array_mem_dec; decide +kernel) | ((with_reducible apply w_isiT (b := true)); array_mem_dec; decide +kernel) | ((with_reducible apply w_isiT (b := false)); array_mem_dec; decide +kernel) | (with_reducible refine w_notT ?_) | (with_reducible refine w_chain ?_) | ((with_reducible apply w_trL); array_mem_dec) | ((with_reducible apply w_gTup); array_mem_dec; exact rfl) | ((with_reducible apply w_gLst); array_mem_dec; exact rfl) | (with_reducible refine w_gCons ?_) | (with_reducible refine w_gNil ?_) | (with_reducible refine w_Fld ?_) | (with_reducible refine w_sFld ?_) | (with_reducible refine w_dget ?_) | (with_reducible refine w_dIn ?_) | (with_reducible refine w_dNotIn ?_) | (with_reducible refine w_sDPut ?_) | (with_reducible refine w_dnewK ?_) | (with_reducible refine w_meth ?_) | (with_reducible refine w_make ?_) | (with_reducible refine w_methS ?_) | (with_reducible refine w_makeS ?_) | (with_reducible refine w_dpop ?_) | ((with_reducible apply w_fld1); array_mem_dec; (with_reducible assumption); (with_reducible assumption); exact rfl) | ((with_reducible apply w_sfld1); array_mem_dec; (with_reducible assumption); (with_reducible assumption); exact Nat.le_of_ble_eq_true rfl) | ((with_reducible apply w_meth1); array_mem_dec; exact rfl) | ((with_reducible apply w_dgetS); array_mem_dec; (with_reducible assumption)) | ((with_reducible apply w_dgetI); array_mem_dec; (with_reducible assumption)) | ((with_reducible apply w_dinS); array_mem_dec) | ((with_reducible apply w_dputI); array_mem_dec; (try (first | (with_reducible assumption) | omega | (rw [sizeLine_eq]; omega)))) | ((with_reducible apply w_dputS); array_mem_dec; (try (first | (with_reducible assumption) | omega | (rw [sizeLine_eq]; omega)))) | ((with_reducible apply w_isD); array_mem_dec) | ((with_reducible apply w_dictD); array_mem_dec) | ((with_reducible apply w_dpopS); array_mem_dec; (with_reducible assumption)))
/-! ### numbers, names, rates -/
def numV (v : V) : Prop := (∃ i : Int, v = .int i) ∨ ∃ b, v = .bl b
def okN (lo hi : Int) : V → Bool
  | .int i => decide (lo ≤ i) && decide (i ≤ hi)
  | _ => false
def spIsNum : Sp := fun vs H Q _ => ∃ (v : V) (lo hi : Int), vs = [v, .int lo, .int hi] ∧ numV v ∧ Q (.bl (okN lo hi v)) H
def spIsAm : Sp := fun vs H Q _ => ∃ v : V, vs = [v] ∧ numV v ∧ Q (.bl (okN (-1000000000) 1000000000 v)) H
def nameC (c : Nat) (b : Bool) : Prop := ((c = 117 ∨ c = 118 ∨ c = 119) ∧ b = true) ∨ (c = 85 ∧ b = false)
def spIsName : Sp := fun vs H Q _ => ∃ (c : Nat) (b : Bool), vs = [.str (mkS [c])] ∧ nameC c b ∧ Q (.bl b) H
section
variable {P : Program} {w : World} {K : PySem.W.Frag} {mg : Str → Option Value} {base : Heap}
theorem ok_is_number (M : Nms K mg) : FnOk P w K mg base CX0 1 M.a_is_number M.d_is_number ["value", "least", "most"] spIsNum := by
  obtain ⟨dvs, F⟩ := M.F_is_number
  refine F.ok sc_is_number (fun vs H Q E h => ?_) (fun cdv A outer s H vs Q E hr h => ?_)
  · obtain ⟨v, lo, hi, rfl, _⟩ := h
    rfl
  · refine ⟨_, (pss_cons (ps_if (PW.pt (pw_or (pt_val (pe_callB call_isi (by rfl) M.T.b_isinstance (by decide +kernel) (pa_cons (pv 0) (pa_cons (pe_bltn (v := .ty "bool") (u := .type "bool") (by rfl) M.T.b_bool (by decide +kernel) rfl) pa_nil)))) (pw_or1 (pt_not (pt_val (pe_callB call_isi (by rfl) M.T.b_isinstance (by decide +kernel) (pa_cons (pv 0) (pa_cons (pe_bltn (v := .ty "int") (u := .type "int") (by rfl) M.T.b_int (by decide +kernel) rfl) pa_nil)))))))) (pss_one (ps_ret pe_bl)) pss_nil)
    (pss_one (ps_ret (pe_chain op_le op_le (pv 1) (pv 0) (pv 2))))), ?_⟩
    try dsimp only [cxOf, Cx.nox]
    obtain ⟨v, lo, hi, rfl, ⟨i, rfl⟩ | ⟨b, rfl⟩, q⟩ := h
    · refine w_start (σ' := [some (.int i), some (.int lo), some (.int hi)]) rfl ?_
      (repeat array_get_dec)
      have q' : Q (.bl (decide (lo ≤ i) && decide (i ≤ hi))) H := q
      refine ite2 (fun h1 => ?_) (fun h1 => ?_)
      · (repeat array_get_dec)
        rw [h1, Bool.true_and] at q'
        exact q'
      · have h1' : decide (lo ≤ i) = false := by simpa using h1
        rw [h1', Bool.false_and] at q'
        exact q'
    · refine w_start (σ' := [some (.bl b), some (.int lo), some (.int hi)]) rfl ?_
      (repeat array_get_dec)
      exact q
theorem ok_is_amount (M : Nms K mg) : FnOk P w K mg base CX0 2 M.a_is_amount M.d_is_amount ["value"] spIsAm := by
  obtain ⟨tA, GAM⟩ := M.cAM
  refine M.F_is_amount.ok sc_is_amount (fun vs H Q E h => ?_) (fun cdv A outer s H vs Q E hr h => ?_)
  · obtain ⟨v, rfl, _⟩ := h
    rfl
  · refine ⟨_, (pss_one (ps_ret (pe_call (ok_is_number M) (hr.mono (by decide)) rfl M.g_is_number M.k_is_number M.b_is_number .nil pass0 (pa_cons (pv 0) (pa_cons (pe_un un_neg (pe_glob (v := .int 1000000000) rfl GAM ⟨_, rfl⟩)) (pa_cons (pe_glob (v := .int 1000000000) rfl GAM ⟨_, rfl⟩) pa_nil)))))), ?_⟩
    try dsimp only [cxOf, Cx.nox]
    obtain ⟨v, rfl, hv, q⟩ := h
    refine w_start (σ' := [some v]) rfl ?_
    (repeat array_get_dec)
    exact ⟨v, -1000000000, 1000000000, rfl, hv, q⟩
theorem ok_is_name (M : Nms K mg) : FnOk P w K mg base CX0 1 M.a_is_name M.d_is_name ["word"] spIsName := by
  obtain ⟨tL, GLET⟩ := M.cLET
  obtain ⟨tO, GLON⟩ := M.cLON
  refine M.F_is_name.ok sc_is_name (fun vs H Q E h => ?_) (fun cdv A outer s H vs Q E hr h => ?_)
  · obtain ⟨c, b, rfl, _⟩ := h
    rfl
  · refine ⟨_, (pss_cons (ps_if (PW.pt (pw_or (pt_not (pt_val (pe_callB call_isi (by rfl) M.T.b_isinstance (by decide +kernel) (pa_cons (pv 0) (pa_cons (pe_bltn (v := .ty "str") (u := .type "str") (by rfl) M.T.b_str (by decide +kernel) rfl) pa_nil))))) (pw_or1 (pt_not (pt_chain op_le op_le pe_int (pe_callB call_len (by rfl) M.T.b_len (by decide +kernel) (pa_cons (pv 0) pa_nil)) (pe_glob (v := .int 12) rfl GLON ⟨_, rfl⟩)))))) (pss_one (ps_ret pe_bl)) pss_nil)
    (pss_cons (ps_for PassesOwn.never rfl (pi_str (pv 0)) (pg_name (i := 1) sc_is_name.nd rfl (Or.inl rfl)) (pss_one (ps_if (pt_cmpR op_notIn_sign (pv 1) (pe_glob (v := .str (Str.ofString "abcdefghijklmnopqrstuvwxyz")) rfl GLET ⟨_, rfl⟩) rfl) (pss_one (ps_ret pe_bl)) pss_nil)))
    (pss_one (ps_ret pe_bl)))), ?_⟩
    try dsimp only [cxOf, Cx.nox]
    obtain ⟨c, b, rfl, hc, q⟩ := h
    refine w_start (σ' := [some (.str (mkS [c])), none]) rfl ?_
    have l1 : (mkS [c]).length = 1 := rfl
    have lz : (mkS [c]).length ≤ sizeLine := by rw [l1, sizeLine_eq]; omega
    (repeat array_get_dec)
    refine for_str (x := mkS [c]) (fun i σ H' => (i = 1 → b = true) ∧ ∃ v : Option V, σ = [some (.str (mkS [c])), v] ∧ H' = H) ⟨(fun z => by cases z), _, rfl, rfl⟩ ?_ ?_
    · rintro i c2 σ H' h2 ⟨hi, v, rfl, rfl⟩
      have i0 : i = 0 ∧ c2 = c := by
        match i, h2 with
        | 0, h2 => exact ⟨rfl, (Option.some.inj h2).symm⟩
        | i + 1, h2 => simp [tl] at h2
      obtain ⟨rfl, rfl⟩ := i0
      (repeat array_get_dec)
      rcases hc with ⟨hc, rfl⟩ | ⟨rfl, rfl⟩
      · refine ⟨c2, _, rfl, rfl, ?_⟩
        refine ⟨false, by rcases hc with rfl | rfl | rfl <;> rfl, ?_⟩
        (repeat array_get_dec)
        exact ⟨fun _ => rfl, _, rfl, rfl⟩
      · refine ⟨85, _, rfl, rfl, ?_⟩
        refine ⟨true, rfl, ?_⟩
        (repeat array_get_dec)
        exact q
    · rintro σ H' ⟨hi, v, rfl, rfl⟩
      (repeat array_get_dec)
      rw [hi rfl] at q
      exact q
def goodR (a b : Int) : Prop := (1 ≤ a ∧ a ≤ 1000000) ∧ 1 ≤ b ∧ b ≤ 1000000
def badR (H : Hp) (v : V) : Prop := (∃ i, v = .int i) ∨ (∃ t xs, v = .ref t ∧ H t = some (.lst xs)) ∨ ∃ t xs, v = .ref t ∧ H t = some (.tup xs) ∧ xs.length ≤ 100 ∧ (∀ x ∈ xs, numV x) ∧ (xs.length = 2 → ∃ x ∈ xs, okN 1 1000000 x = false)
def spCRate (CP : Addr) : Sp := fun vs H Q E => ∃ v : V, vs = [v] ∧ ((∃ t a b, v = .ref t ∧ H t = some (.tup [.int a, .int b]) ∧ goodR a b ∧ ∀ H', Same H H' → Q (.ref t) H') ∨ (badR H v ∧ ∀ H', Same H H' → E (.ref CP) none H'))
theorem ok_checked_rate (M : Nms K mg) : FnOk P w K mg base (L2N.CX P w) 2 M.a_checked_rate M.d_checked_rate ["rate"] (spCRate M.CP) := by
  obtain ⟨tM, GMO⟩ := M.cMO
  refine M.F_checked_rate.okN sc_checked_rate (fun vs H Q E h => ?_) (fun cdv A outer s H vs Q E hr h => ?_)
  · obtain ⟨v, rfl, _⟩ := h
    rfl
  · refine ⟨_, (pss_cons (ps_if (PW.pt (pw_or (pt_not (pt_val (pe_callB call_isi (by rfl) M.T.b_isinstance (by decide +kernel) (pa_cons (pv 0) (pa_cons (pe_bltn (v := .ty "tuple") (u := .type "tuple") (by rfl) M.T.b_tuple (by decide +kernel) rfl) pa_nil))))) (pw_or (pt_cmpR op_ne (pe_callB call_len (by rfl) M.T.b_len (by decide +kernel) (pa_cons (pv 0) pa_nil)) pe_int (nomark _)) (pw_or1 (pt_truth (pe_lc (own := [("one", 1)]) rfl sc_checked_rate.nd (pi_tup (pv 0)) (blkOk_by (N := ["rate", "one"]) (sc := defScope s_checked_rate) (own := [("one", 1)]) (by decide +kernel)) (fun _ _ _ _ _ => (pg_name (i := 1) sc_checked_rate.nd rfl (Or.inl rfl))) (fun _ _ _ _ _ => pts_one (pt_not (pt_val (pe_call (ok_is_number M) (hr.mono (by decide)) rfl M.g_is_number M.k_is_number M.b_is_number .nil pass0 (pa_cons (pv 1) (pa_cons pe_int (pa_cons (pe_glob (v := .int 1000000) rfl GMO ⟨_, rfl⟩) pa_nil))))))) (fun _ _ _ _ _ => (pv 1))) (by intro _; rfl)))))) (pss_one (L2N.ps_raise rfl (L2N.takes_of rfl rfl rfl rfl) (L2N.pmk_own PySem.F.excBase_ValueError M.XP.xP M.XP.gP M.XP.kP (raises_own M.XP.bP M.XP.tP) rfl))) pss_nil)
    (pss_one (ps_ret (pv 0)))), ?_⟩
    try dsimp only [cxOf, Cx.nox]
    obtain ⟨v, rfl, ⟨t, a, b, rfl, ht, ⟨⟨a1, a2⟩, b1, b2⟩, q⟩ | ⟨hb, e⟩⟩ := h
    · refine w_start (σ' := [some (.ref t), none]) rfl ?_
      (repeat array_get_dec)
      intro A hA
      have nums : ∀ x ∈ ([V.int a, V.int b] : List V), numV x := (fun x hx => by simp at hx; rcases hx with rfl | rfl; exact .inl ⟨_, rfl⟩; exact .inl ⟨_, rfl⟩)
      have few : ([V.int a, V.int b] : List V).length ≤ 200 := (by simp)
      refine lc_tup (K := K) (a := t) (xs := [V.int a, V.int b]) (fun i H' => H' A = some (.lst ((([V.int a, V.int b] : List V).take i).filter fun x => !okN 1 1000000 x)) ∧ ∀ b o, b ≠ A → H b = some o → H' b = some o) ⟨upd_same, fun b o nb e => by rw [upd_ne nb]; exact e⟩ ?_ ?_ ?_
      · rintro i H' _ ⟨h1, h2⟩
        exact SqT.of (h2 _ _ (ne_of_none ht hA) ht)
      · rintro i y H' hy ⟨h1, h2⟩
        (repeat array_get_dec)
        refine ⟨y, 1, 1000000, rfl, nums y (List.mem_of_getElem? hy), ?_⟩
        (repeat array_get_dec)
        have lz : ((([V.int a, V.int b] : List V).take i).filter fun x => !okN 1 1000000 x).length < sizeLine := Nat.lt_of_le_of_lt (Nat.le_trans (List.length_filter_le _ _) (by rw [List.length_take]; exact Nat.min_le_right _ _)) (by rw [sizeLine_eq]; omega)
        refine ite2 (fun z => ?_) (fun z => ?_)
        · (repeat array_get_dec)
          refine ⟨by rw [upd_same, take_snoc hy, List.filter_append, show [y].filter (fun x => !okN 1 1000000 x) = [y] from by simp only [List.filter_cons, List.filter_nil]; rw [if_pos z]], fun b o nb e => by rw [upd_ne nb]; exact h2 b o nb e⟩
        · refine ⟨by rw [h1, take_snoc hy, List.filter_append, show [y].filter (fun x => !okN 1 1000000 x) = [] from by simp only [List.filter_cons, List.filter_nil]; rw [if_neg z], List.append_nil], h2⟩
      · rintro H' ⟨h1, h2⟩
        have e0 : (([V.int a, V.int b].take 2).filter fun x => !okN 1 1000000 x) = [] := by
          have e1 : okN 1 1000000 (.int a) = true := by show (decide _ && decide _) = true; rw [decide_eq_true a1, decide_eq_true a2]; rfl
          have e2 : okN 1 1000000 (.int b) = true := by show (decide _ && decide _) = true; rw [decide_eq_true b1, decide_eq_true b2]; rfl
          simp [e1, e2]
        have h1' : H' A = some (.lst []) := h1.trans (by rw [show [V.int a, V.int b].length = 2 from rfl, e0])
        (repeat array_get_dec)
        exact q _ fun b o e => h2 b o (ne_of_none e hA) e
    · rcases hb with ⟨i, rfl⟩ | ⟨t, xs, rfl, ht⟩ | ⟨t, xs, rfl, ht, hl, hn, hx⟩
      · refine w_start (σ' := [some (.int i), none]) rfl ?_
        (repeat array_get_dec)
        exact e _ (Same.refl _)
      · refine w_start (σ' := [some (.ref t), none]) rfl ?_
        (repeat array_get_dec)
        exact e _ (Same.refl _)
      · refine w_start (σ' := [some (.ref t), none]) rfl ?_
        (repeat array_get_dec)
        refine ite2 (fun c1 => ?_) (fun c1 => ?_)
        · refine iteT ?_
          exact e _ (Same.refl _)
        · have l2 : xs.length = 2 := by
            by_cases z : xs.length = 2
            · exact z
            · exact absurd (by rw [decide_eq_false fun w => z (by have := V.int.inj w; omega)]; rfl) c1
          (repeat array_get_dec)
          intro A hA
          have nums : ∀ x ∈ (xs : List V), numV x := hn
          have few : (xs : List V).length ≤ 200 := by omega
          refine lc_tup (K := K) (a := t) (xs := xs) (fun i H' => H' A = some (.lst (((xs : List V).take i).filter fun x => !okN 1 1000000 x)) ∧ ∀ b o, b ≠ A → H b = some o → H' b = some o) ⟨upd_same, fun b o nb e => by rw [upd_ne nb]; exact e⟩ ?_ ?_ ?_
          · rintro i H' _ ⟨h1, h2⟩
            exact SqT.of (h2 _ _ (ne_of_none ht hA) ht)
          · rintro i y H' hy ⟨h1, h2⟩
            (repeat array_get_dec)
            refine ⟨y, 1, 1000000, rfl, nums y (List.mem_of_getElem? hy), ?_⟩
            (repeat array_get_dec)
            have lz : (((xs : List V).take i).filter fun x => !okN 1 1000000 x).length < sizeLine := Nat.lt_of_le_of_lt (Nat.le_trans (List.length_filter_le _ _) (by rw [List.length_take]; exact Nat.min_le_right _ _)) (by rw [sizeLine_eq]; omega)
            refine ite2 (fun z => ?_) (fun z => ?_)
            · (repeat array_get_dec)
              refine ⟨by rw [upd_same, take_snoc hy, List.filter_append, show [y].filter (fun x => !okN 1 1000000 x) = [y] from by simp only [List.filter_cons, List.filter_nil]; rw [if_pos z]], fun b o nb e => by rw [upd_ne nb]; exact h2 b o nb e⟩
            · refine ⟨by rw [h1, take_snoc hy, List.filter_append, show [y].filter (fun x => !okN 1 1000000 x) = [] from by simp only [List.filter_cons, List.filter_nil]; rw [if_neg z], List.append_nil], h2⟩
          · rintro H' ⟨h1, h2⟩
            have h1' : H' A = some (.lst (xs.filter fun x => !okN 1 1000000 x)) := h1.trans (by rw [List.take_length])
            have ne : (xs.filter fun x => !okN 1 1000000 x).isEmpty = false := by
              obtain ⟨x, mx, ex⟩ := hx l2
              cases z : xs.filter fun x => !okN 1 1000000 x with
              | nil => exact absurd ((List.filter_eq_nil_iff.mp z) x mx) (by rw [ex]; simp)
              | cons _ _ => rfl
            (repeat array_get_dec)
            rw [ne]
            refine iteT ?_
            exact e _ fun b o e => h2 b o (ne_of_none e hA) e
end
end K78

namespace K78
open PySem PySem.Spec PyProof.Rows L2
local macro_rules | `(tactic| array_mem_dec) => `(tactic| first | with_reducible assumption | with_reducible exact upd_same | ((with_reducible apply same_at); (with_reducible assumption); array_mem_dec) | ((with_reducible apply upd_atN); (with_reducible assumption); array_mem_dec) | ((with_reducible apply upd_at); (first | with_reducible assumption | (apply Ne.symm; with_reducible assumption)); array_mem_dec))
local macro_rules | `(tactic| array_get_dec) => `(tactic| first | (with_reducible refine w_seq ?_) | (with_reducible refine w_asg ?_) | (with_reducible refine w_drop ?_) | (with_reducible refine w_ret ?_) | (with_reducible refine w_retN ?_) | (with_reducible refine w_next ?_) | (with_reducible refine w_break ?_) | (with_reducible refine w_cont ?_) | (with_reducible refine w_ifS ?_) | (with_reducible refine w_sub ?_) | (with_reducible refine w_c ?_) | (with_reducible refine w_op ?_) | (with_reducible refine w_un ?_) | (with_reducible refine w_test ?_) | (with_reducible refine w_B ?_) | (with_reducible refine w_yes ?_) | (with_reducible refine w_not ?_) | (with_reducible refine w_and ?_) | (with_reducible refine w_or ?_) | (with_reducible refine w_andV ?_) | (with_reducible refine w_orV ?_) | (with_reducible refine w_notV ?_) | (with_reducible refine w_ifE ?_) | (with_reducible refine w_nil ?_) | (with_reducible refine w_cons ?_) | (with_reducible refine w_call ?_) | (with_reducible refine w_callS ?_) | (with_reducible refine w_cB ?_) | (with_reducible refine w_lst ?_) | (with_reducible refine w_tup ?_) | (with_reducible refine w_sl ?_) | (with_reducible refine w_noPart ?_) | (with_reducible refine w_part ?_) | (with_reducible refine w_bm ?_) | (with_reducible refine w_bm0 ?_) | (with_reducible refine w_strTy ?_) | (with_reducible refine w_bl ?_) | (with_reducible refine w_int1 ?_) | (with_reducible refine w_str1 ?_) | (with_reducible refine w_rI0 ?_) | (with_reducible refine w_rU ?_) | (with_reducible refine w_eqI ?_) | (with_reducible refine w_eqS ?_) | (with_reducible refine w_neI ?_) | (with_reducible refine w_neS ?_) | (with_reducible refine w_bl2 ?_) | (with_reducible refine w_isN ?_) | (with_reducible refine w_for ?_) | (with_reducible refine w_iRng1 ?_) | (with_reducible refine w_iRng2 ?_) | (with_reducible refine w_iList ?_) | (with_reducible refine w_iTup ?_) | (with_reducible refine w_iStr ?_) | (with_reducible refine w_lc ?_) | (with_reducible refine w_M1 ?_) | (with_reducible refine w_M0 ?_) | (with_reducible refine w_isS ?_) | ((with_reducible apply w_name); (simp only [wipe, List.map_cons, List.map_nil, List.foldl_cons, List.foldl_nil, List.set_cons_zero, List.set_cons_succ]; exact rfl)) | ((with_reducible apply w_var); exact rfl) | ((with_reducible apply w_lstTy); array_mem_dec) | ((with_reducible apply w_lenL); array_mem_dec) | ((with_reducible apply w_lenT); array_mem_dec) | ((with_reducible apply w_listOf); array_mem_dec) | ((with_reducible apply w_lenS); (first | (with_reducible assumption) | omega | (rw [sizeLine_eq]; omega))) | ((with_reducible apply w_slS); (first | (with_reducible assumption) | omega | (rw [sizeLine_eq]; omega))) | ((with_reducible apply w_wipe); exact rfl) | ((with_reducible apply w_acc); array_mem_dec; (try (first | (with_reducible assumption) | omega | (rw [sizeLine_eq]; omega)))) | ((with_reducible apply w_itl); array_mem_dec) | ((with_reducible apply w_itt); array_mem_dec) | ((with_reducible apply w_append); array_mem_dec; (try (first | (with_reducible assumption) | omega | (rw [sizeLine_eq]; omega)))) | ((with_reducible apply w_rng1); (first | (with_reducible assumption) | omega); (first | (with_reducible assumption) | omega)) | ((with_reducible apply w_ixL); array_mem_dec; (first | (with_reducible assumption) | exact rfl | (apply atI_nat; (with_reducible assumption)) | exact atI_last _ _)) | ((with_reducible apply w_ixT); array_mem_dec; (first | (with_reducible assumption) | exact rfl | (apply atI_nat; (with_reducible assumption)) | exact atI_last _ _)) | ((with_reducible apply w_iT); first | exact rfl | (with_reducible assumption)) | ((with_reducible apply w_iF); first | exact rfl | (with_reducible assumption)) | ((with_reducible apply w_isiI (b := true)); decide +kernel) | ((with_reducible apply w_isiI (b := false)); decide +kernel) | ((with_reducible apply w_isiB (b := true)); decide +kernel) | ((with_reducible apply w_isiB (b := false)); decide +kernel) | ((with_reducible apply w_isiS (b := true)); decide +kernel) | ((with_reducible apply w_isiS (b := false)); decide +kernel) | ((with_reducible apply w_isiN (b := true)); decide +kernel) | ((with_reducible apply w_isiN (b := false)); decide +kernel) | ((with_reducible apply w_isiL (b := true)); array_mem_dec; decide +kernel) | ((with_reducible apply w_isiL (b := false)); array_mem_dec; decide +kernel) | ((with_reducible apply w_isiT (b := true)); array_mem_dec; decide +kernel) | ((with_reducible apply w_isiT (b := false)); array_mem_dec; decide +kernel) | (with_reducible refine w_notT ?_) | (with_reducible refine w_chain ?_) | ((with_reducible apply w_trL); array_mem_dec) | ((with_reducible apply w_gTup); array_mem_dec; exact rfl) | ((with_reducible apply w_gLst); array_mem_dec; exact rfl) | (with_reducible refine w_gCons ?_) | (with_reducible refine w_gNil ?_) | (with_reducible refine w_Fld ?_) | (with_reducible refine w_sFld ?_) | (with_reducible refine w_dget ?_) | (with_reducible refine w_dIn ?_) | (with_reducible refine w_dNotIn ?_) | (with_reducible refine w_sDPut ?_) | (with_reducible refine w_dnewK ?_) | (with_reducible refine w_meth ?_) | (with_reducible refine w_make ?_) | (with_reducible refine w_methS ?_) | (with_reducible refine w_makeS ?_) | (with_reducible refine w_dpop ?_) | ((with_reducible apply w_fld1); array_mem_dec; (with_reducible assumption); (with_reducible assumption); exact rfl) | ((with_reducible apply w_sfld1); array_mem_dec; (with_reducible assumption); (with_reducible assumption); exact Nat.le_of_ble_eq_true rfl) | ((with_reducible apply w_meth1); array_mem_dec; exact rfl) | ((with_reducible apply w_dgetS); array_mem_dec; (with_reducible assumption)) | ((with_reducible apply w_dgetI); array_mem_dec; (with_reducible assumption)) | ((with_reducible apply w_dinS); array_mem_dec) | ((with_reducible apply w_dputI); array_mem_dec; (try (first | (with_reducible assumption) | omega | (rw [sizeLine_eq]; omega)))) | ((with_reducible apply w_dputS); array_mem_dec; (try (first | (with_reducible assumption) | omega | (rw [sizeLine_eq]; omega)))) | ((with_reducible apply w_isD); array_mem_dec) | ((with_reducible apply w_dictD); array_mem_dec) | ((with_reducible apply w_dpopS); array_mem_dec; (with_reducible assumption)))
/-! ### an amount by a rate; weights -/
def absI (x : Int) : Int := if x < 0 then -x else x
def chg (x a b : Int) : Int := absI x * a / b
def spChanged (CN CP : Addr) : Sp := fun vs H Q E => ∃ v r : V, vs = [v, r] ∧
  ((∃ (x : Int) (t : Addr) (a b : Int), v = .int x ∧ okN (-1000000000) 1000000000 v = true ∧ r = .ref t ∧ H t = some (.tup [.int a, .int b]) ∧ goodR a b ∧ (chg x a b ≤ 1000000000 → ∀ H', Same H H' → Q (.int (if 0 ≤ x then chg x a b else -chg x a b)) H') ∧ (¬ chg x a b ≤ 1000000000 → ∀ H', Same H H' → E (.ref CN) none H')) ∨
   (numV v ∧ okN (-1000000000) 1000000000 v = false ∧ ∀ H', Same H H' → E (.ref CN) none H') ∨
   (numV v ∧ okN (-1000000000) 1000000000 v = true ∧ badR H r ∧ ∀ H', Same H H' → E (.ref CP) none H'))
section
variable {P : Program} {w : World} {K : PySem.W.Frag} {mg : Str → Option Value} {base : Heap}
theorem ok_changed (M : Nms K mg) : FnOk P w K mg base (L2N.CX P w) 3 M.a_changed M.d_changed ["amount", "rate"] (spChanged M.CN M.CP) := by
  obtain ⟨tM, GMO⟩ := M.cMO
  obtain ⟨tA, GAM⟩ := M.cAM
  refine M.F_changed.okN sc_changed (fun vs H Q E h => ?_) (fun cdv A outer s H vs Q E hr h => ?_)
  · obtain ⟨v, r, rfl, _⟩ := h
    rfl
  · refine ⟨_, (pss_cons (ps_if (pt_not (pt_val (pe_call (ok_is_amount M) (hr.mono (by decide)) rfl M.g_is_amount M.k_is_amount M.b_is_amount .nil pass0 (pa_cons (pv 0) pa_nil)))) (pss_one (L2N.ps_raise rfl (L2N.takes_of rfl rfl rfl rfl) (L2N.pmk_own PySem.F.excBase_ValueError M.XN.xP M.XN.gP M.XN.kP (raises_own M.XN.bP M.XN.tP) rfl))) pss_nil)
    (pss_cons (ps_asg (pe_callS (ok_checked_rate M) (hr.mono (by decide)) rfl M.g_checked_rate M.k_checked_rate M.b_checked_rate (fun σ => L2N.passAt (L2N.takes_of rfl rfl rfl rfl) σ) (pa_cons (pv 1) pa_nil)) (pg_tup rfl (pgs_cons (pg_name (i := 2) sc_changed.nd rfl (Or.inl rfl)) (pgs_cons (pg_name (i := 3) sc_changed.nd rfl (Or.inl rfl)) pgs_nil))))
    (pss_cons (ps_set (i := 4) sc_changed.nd rfl (Or.inl rfl) (pe_op op_fdivW (pe_op op_mul (pe_callB call_abs (by rfl) M.T.b_abs (by decide +kernel) (pa_cons (pv 0) pa_nil)) (pv 2)) (pv 3)))
    (pss_cons (ps_if (pt_cmpR op_gt (pv 4) (pe_glob (v := .int 1000000000) rfl GAM ⟨_, rfl⟩) (nomark _)) (pss_one (L2N.ps_raise rfl (L2N.takes_of rfl rfl rfl rfl) (L2N.pmk_own PySem.F.excBase_ValueError M.XN.xP M.XN.gP M.XN.kP (raises_own M.XN.bP M.XN.tP) rfl))) pss_nil)
    (pss_one (ps_ret (pe_ifExp (pt_cmpR op_ge (pv 0) pe_int (nomark _)) (pv 4) (pe_un un_neg (pv 4))))))))), ?_⟩
    try dsimp only [cxOf, Cx.nox]
    obtain ⟨v, r, rfl, ⟨x, t, a, b, rfl, hx, rfl, ht, hg, q1, q2⟩ | ⟨hv, hx, e⟩ | ⟨hv, hx, hb, e⟩⟩ := h
    · refine w_start (σ' := [some (.int x), some (.ref t), none, none, none]) rfl ?_
      (repeat array_get_dec)
      refine ⟨_, rfl, .inl ⟨x, rfl⟩, ?_⟩
      rw [hx]
      (repeat array_get_dec)
      refine ⟨.ref t, rfl, .inl ⟨t, a, b, rfl, ht, hg, fun H1 s1 => ?_⟩⟩
      have ht1 := s1 _ _ ht
      (repeat array_get_dec)
      refine ⟨_, rfl, ?_⟩
      (repeat array_get_dec)
      obtain ⟨⟨a1, a2⟩, b1, b2⟩ := id hg
      refine w_rI (.inr ⟨by omega, by omega⟩) ?_
      (repeat array_get_dec)
      refine w_rI (wide_div (b := 20) (by omega) (show b.natAbs < 1048576 by omega) (by decide) (by decide)) ?_
      rw [show (if x < 0 then -x else x) * a / b = chg x a b from rfl]
      (repeat array_get_dec)
      refine ite2 (fun c1 => ?_) (fun c1 => ?_)
      · have c1' : ¬ chg x a b ≤ 1000000000 := by have := of_decide_eq_true c1; omega
        exact q2 c1' _ s1
      · have c1' : chg x a b ≤ 1000000000 := by
          have : ¬ (1000000000 : Int) < chg x a b := fun z => c1 (decide_eq_true z)
          omega
        have q' := q1 c1' _ s1
        (repeat array_get_dec)
        refine ite2 (fun c2 => ?_) (fun c2 => ?_)
        · rw [if_pos (of_decide_eq_true c2)] at q'
          (repeat array_get_dec)
          exact q'
        · rw [if_neg (fun z => c2 (decide_eq_true z))] at q'
          (repeat array_get_dec)
          exact q'
    · refine w_start (σ' := [some v, some r, none, none, none]) rfl ?_
      (repeat array_get_dec)
      refine ⟨_, rfl, hv, ?_⟩
      rw [hx]
      (repeat array_get_dec)
      exact e _ (Same.refl _)
    · refine w_start (σ' := [some v, some r, none, none, none]) rfl ?_
      (repeat array_get_dec)
      refine ⟨_, rfl, hv, ?_⟩
      rw [hx]
      (repeat array_get_dec)
      exact ⟨r, rfl, .inr ⟨hb, e⟩⟩
/-- the same where it must go well -/
def spChangedG : Sp := fun vs H Q _ => ∃ (x : Int) (t : Addr) (a b : Int), vs = [.int x, .ref t] ∧ -1000000000 ≤ x ∧ x ≤ 1000000000 ∧ H t = some (.tup [.int a, .int b]) ∧ goodR a b ∧ chg x a b ≤ 1000000000 ∧ ∀ H', Same H H' → Q (.int (if 0 ≤ x then chg x a b else -chg x a b)) H'
theorem okL_changed (M : Nms K mg) : FnOk P w K mg base CX0 3 M.a_changed M.d_changed ["amount", "rate"] spChangedG := ok_low (ok_changed M) fun vs H Q E ⟨x, t, a, b, e, x1, x2, ht, hg, hl, q⟩ =>
  ⟨_, _, e, .inl ⟨x, t, a, b, rfl, by show (decide _ && decide _) = true; rw [decide_eq_true x1, decide_eq_true x2]; rfl, rfl, ht, hg, fun _ => q, fun z => absurd hl z⟩⟩
def spRest : Sp := fun vs H Q _ => ∃ (x : Int) (t : Addr) (a b : Int), vs = [.int x, .ref t] ∧ 0 ≤ x ∧ x ≤ 1000000000 ∧ H t = some (.tup [.int a, .int b]) ∧ goodR a b ∧ x * a / b ≤ 1000000000 ∧ ∀ H' p, Same H H' → H' p = some (.tup [.int (x * a - x * a / b * b), .int b]) → Q (.ref p) H'
theorem ok_rest_of (M : Nms K mg) : FnOk P w K mg base CX0 4 M.a_rest_of M.d_rest_of ["amount", "rate"] spRest := by
  refine M.F_rest_of.ok sc_rest_of (fun vs H Q E h => ?_) (fun cdv A outer s H vs Q E hr h => ?_)
  · obtain ⟨x, t, a, b, rfl, _⟩ := h
    rfl
  · refine ⟨_, (pss_cons (ps_set (i := 2) sc_rest_of.nd rfl (Or.inl rfl) (pe_callB call_abs (by rfl) M.T.b_abs (by decide +kernel) (pa_cons (pe_call (okL_changed M) (hr.mono (by decide)) rfl M.g_changed M.k_changed M.b_changed .nil pass0 (pa_cons (pv 0) (pa_cons (pv 1) pa_nil))) pa_nil)))
    (pss_one (ps_ret (pe_tup (pa_cons (pe_op op_sub (pe_op op_mul (pe_callB call_abs (by rfl) M.T.b_abs (by decide +kernel) (pa_cons (pv 0) pa_nil)) (pe_ix (r := rIxT K) ix_tup (pv 1) pe_int (fun _ _ => rfl))) (pe_op op_mul (pv 2) (pe_ix (r := rIxT K) ix_tup (pv 1) pe_int (fun _ _ => rfl)))) (pa_cons (pe_ix (r := rIxT K) ix_tup (pv 1) pe_int (fun _ _ => rfl)) pa_nil)))))), ?_⟩
    try dsimp only [cxOf, Cx.nox]
    obtain ⟨x, t, a, b, rfl, x1, x2, ht, hg, hl, q⟩ := h
    obtain ⟨⟨a1, a2⟩, b1, b2⟩ := id hg
    have ec : chg x a b = x * a / b := by unfold chg absI; rw [if_neg (by omega)]
    have h0 : 0 ≤ x * a / b := Int.ediv_nonneg (Int.mul_nonneg x1 (by omega)) (by omega)
    refine w_start (σ' := [some (.int x), some (.ref t), none]) rfl ?_
    (repeat array_get_dec)
    refine ⟨x, t, a, b, rfl, by omega, x2, ht, hg, by rw [ec]; exact hl, fun H1 s1 => ?_⟩
    rw [if_pos x1, ec]
    have ht1 := s1 _ _ ht
    (repeat array_get_dec)
    refine ⟨_, rfl, ?_⟩
    rw [if_neg (by omega)]
    (repeat array_get_dec)
    refine ⟨_, rfl, ?_⟩
    rw [if_neg (by omega)]
    (repeat array_get_dec)
    refine w_rI (.inr ⟨by omega, by omega⟩) ?_
    (repeat array_get_dec)
    refine w_rI (.inr ⟨by omega, by omega⟩) ?_
    (repeat array_get_dec)
    refine ⟨by show 2 ≤ sizeLine; decide, fun p hp => ?_⟩
    exact q _ p (same_new s1 hp) upd_same
/-- weights: numbers, as they may come -/
def goodW (ws : List Int) : Prop := 1 ≤ ws.length ∧ ws.length ≤ 100 ∧ (∀ w ∈ ws, 0 ≤ w ∧ w ≤ 1000000) ∧ ws.sum ≠ 0
def badW (xs : List V) : Prop := xs.length ≤ 200 ∧ (∀ x ∈ xs, numV x) ∧ (1 ≤ xs.length → xs.length ≤ 100 → (∃ x ∈ xs, okN 0 1000000 x = false) ∨ ∃ ws : List Int, xs = ws.map V.int ∧ (∀ w ∈ ws, 0 ≤ w ∧ w ≤ 1000000) ∧ ws.sum = 0)
def spCW (CP : Addr) : Sp := fun vs H Q E => ∃ t : Addr, vs = [.ref t] ∧ ((∃ ws : List Int, H t = some (.lst (ws.map V.int)) ∧ goodW ws ∧ ∀ H' p, Same H H' → H p = none → H' p = some (.lst (ws.map V.int)) → Q (.ref p) H') ∨
  (∃ xs, H t = some (.lst xs) ∧ badW xs ∧ ∀ H', Same H H' → E (.ref CP) none H'))
theorem okN_good {ws : List Int} (h : ∀ w ∈ ws, 0 ≤ w ∧ w ≤ 1000000) : ((ws.map V.int).filter fun x => !okN 0 1000000 x) = [] := by
  rw [List.filter_eq_nil_iff]
  intro x hx
  obtain ⟨w, mw, rfl⟩ := List.mem_map.mp hx
  have := h w mw
  show ¬ (!(decide _ && decide _)) = true
  rw [decide_eq_true this.1, decide_eq_true this.2]
  decide
theorem ok_checked_weights (M : Nms K mg) : FnOk P w K mg base (L2N.CX P w) 2 M.a_checked_weights M.d_checked_weights ["weights"] (spCW M.CP) := by
  obtain ⟨tM, GMO⟩ := M.cMO
  refine M.F_checked_weights.okN sc_checked_weights (fun vs H Q E h => ?_) (fun cdv A outer s H vs Q E hr h => ?_)
  · obtain ⟨t, rfl, _⟩ := h
    rfl
  · refine ⟨_, (pss_cons (ps_if (PW.pt (pw_or (pt_not (pt_chain op_le op_le pe_int (pe_callB call_len (by rfl) M.T.b_len (by decide +kernel) (pa_cons (pv 0) pa_nil)) pe_int)) (pw_or (pt_truth (pe_lc (own := [("one", 1)]) rfl sc_checked_weights.nd (pi_list (pv 0)) (blkOk_by (N := ["weights", "one"]) (sc := defScope s_checked_weights) (own := [("one", 1)]) (by decide +kernel)) (fun _ _ _ _ _ => (pg_name (i := 1) sc_checked_weights.nd rfl (Or.inl rfl))) (fun _ _ _ _ _ => pts_one (pt_not (pt_val (pe_call (ok_is_number M) (hr.mono (by decide)) rfl M.g_is_number M.k_is_number M.b_is_number .nil pass0 (pa_cons (pv 1) (pa_cons pe_int (pa_cons (pe_glob (v := .int 1000000) rfl GMO ⟨_, rfl⟩) pa_nil))))))) (fun _ _ _ _ _ => (pv 1))) (by intro _; rfl)) (pw_or1 (pt_cmpR op_eq (pe_callB (cr_sum rfl) (by rfl) M.T.b_sum (by decide +kernel) (pa_cons (pv 0) pa_nil)) pe_int (nomark _)))))) (pss_one (L2N.ps_raise rfl (L2N.takes_of rfl rfl rfl rfl) (L2N.pmk_own PySem.F.excBase_ValueError M.XP.xP M.XP.gP M.XP.kP (raises_own M.XP.bP M.XP.tP) rfl))) pss_nil)
    (pss_one (ps_ret (pe_callTy call_list_of (by rfl) M.T.b_list (by decide +kernel) (pa_cons (pv 0) pa_nil))))), ?_⟩
    try dsimp only [cxOf, Cx.nox]
    obtain ⟨t, rfl, ⟨ws, ht, ⟨g1, g2, g3, g4⟩, q⟩ | ⟨xs, ht, ⟨hl, hn, hx⟩, e⟩⟩ := h
    · refine w_start (σ' := [some (.ref t), none]) rfl ?_
      have ll : (ws.map V.int).length = ws.length := List.length_map _
      (repeat array_get_dec)
      have ht' := ht
      refine iteT' (decide_eq_true (by rw [ll]; omega)) ?_
      (repeat array_get_dec)
      rw [ll]
      refine iteF' (by rw [decide_eq_true (show ((ws.length : Nat) : Int) ≤ 100 by omega)]; rfl) ?_
      (repeat array_get_dec)
      intro A hA
      have hl : (ws.map V.int).length ≤ 100 := by omega
      have hn : ∀ x ∈ ws.map V.int, numV x := fun x hx => by
        obtain ⟨w, _, rfl⟩ := List.mem_map.mp hx
        exact .inl ⟨_, rfl⟩
      have nums : ∀ x ∈ ((ws.map V.int) : List V), numV x := hn
      have few : ((ws.map V.int) : List V).length ≤ 200 := by omega
      refine lc_list (K := K) (a := t) (xs := (ws.map V.int)) (fun i H' => H' A = some (.lst ((((ws.map V.int) : List V).take i).filter fun x => !okN 0 1000000 x)) ∧ ∀ b o, b ≠ A → H b = some o → H' b = some o) ⟨upd_same, fun b o nb e => by rw [upd_ne nb]; exact e⟩ ?_ ?_ ?_
      · rintro i H' _ ⟨h1, h2⟩
        exact SqL.of (h2 _ _ (ne_of_none ht hA) ht)
      · rintro i y H' hy ⟨h1, h2⟩
        (repeat array_get_dec)
        refine ⟨y, 0, 1000000, rfl, nums y (List.mem_of_getElem? hy), ?_⟩
        (repeat array_get_dec)
        have lz : ((((ws.map V.int) : List V).take i).filter fun x => !okN 0 1000000 x).length < sizeLine := Nat.lt_of_le_of_lt (Nat.le_trans (List.length_filter_le _ _) (by rw [List.length_take]; exact Nat.min_le_right _ _)) (by rw [sizeLine_eq]; omega)
        refine ite2 (fun z => ?_) (fun z => ?_)
        · (repeat array_get_dec)
          refine ⟨by rw [upd_same, take_snoc hy, List.filter_append, show [y].filter (fun x => !okN 0 1000000 x) = [y] from by simp only [List.filter_cons, List.filter_nil]; rw [if_pos z]], fun b o nb e => by rw [upd_ne nb]; exact h2 b o nb e⟩
        · refine ⟨by rw [h1, take_snoc hy, List.filter_append, show [y].filter (fun x => !okN 0 1000000 x) = [] from by simp only [List.filter_cons, List.filter_nil]; rw [if_neg z], List.append_nil], h2⟩
      · rintro H' ⟨h1, h2⟩
        rw [List.take_length, okN_good g3] at h1
        have ht2 := h2 _ _ (ne_of_none ht hA) ht
        (repeat array_get_dec)
        refine ⟨t, ws, rfl, SqL.of ht2, ?_⟩
        (repeat array_get_dec)
        refine iteF' (decide_eq_false fun z => g4 (V.int.inj z)) ?_
        (repeat array_get_dec)
        refine fun p hp => q _ p (same_new (fun b o e => h2 b o (ne_of_none e hA) e) hp) ?_ upd_same
        cases z : H p with
        | none => rfl
        | some o => rw [h2 p o (ne_of_none z hA) z] at hp; cases hp
    · refine w_start (σ' := [some (.ref t), none]) rfl ?_
      (repeat array_get_dec)
      refine ite2 (fun c1 => ?_) (fun c1 => ?_)
      · have c1' : 1 ≤ xs.length := by have := of_decide_eq_true c1; omega
        (repeat array_get_dec)
        refine ite2 (fun c2 => ?_) (fun c2 => ?_)
        · (repeat array_get_dec)
          exact e _ (Same.refl _)
        · have c2' : xs.length ≤ 100 := by
            by_cases z : xs.length ≤ 100
            · exact z
            · exact absurd (by rw [decide_eq_false (by omega)]; rfl) c2
          (repeat array_get_dec)
          intro A hA
          have nums : ∀ x ∈ (xs : List V), numV x := hn
          have few : (xs : List V).length ≤ 200 := by omega
          refine lc_list (K := K) (a := t) (xs := xs) (fun i H' => H' A = some (.lst (((xs : List V).take i).filter fun x => !okN 0 1000000 x)) ∧ ∀ b o, b ≠ A → H b = some o → H' b = some o) ⟨upd_same, fun b o nb e => by rw [upd_ne nb]; exact e⟩ ?_ ?_ ?_
          · rintro i H' _ ⟨h1, h2⟩
            exact SqL.of (h2 _ _ (ne_of_none ht hA) ht)
          · rintro i y H' hy ⟨h1, h2⟩
            (repeat array_get_dec)
            refine ⟨y, 0, 1000000, rfl, nums y (List.mem_of_getElem? hy), ?_⟩
            (repeat array_get_dec)
            have lz : (((xs : List V).take i).filter fun x => !okN 0 1000000 x).length < sizeLine := Nat.lt_of_le_of_lt (Nat.le_trans (List.length_filter_le _ _) (by rw [List.length_take]; exact Nat.min_le_right _ _)) (by rw [sizeLine_eq]; omega)
            refine ite2 (fun z => ?_) (fun z => ?_)
            · (repeat array_get_dec)
              refine ⟨by rw [upd_same, take_snoc hy, List.filter_append, show [y].filter (fun x => !okN 0 1000000 x) = [y] from by simp only [List.filter_cons, List.filter_nil]; rw [if_pos z]], fun b o nb e => by rw [upd_ne nb]; exact h2 b o nb e⟩
            · refine ⟨by rw [h1, take_snoc hy, List.filter_append, show [y].filter (fun x => !okN 0 1000000 x) = [] from by simp only [List.filter_cons, List.filter_nil]; rw [if_neg z], List.append_nil], h2⟩
          · rintro H' ⟨h1, h2⟩
            have h1' : H' A = some (.lst (xs.filter fun x => !okN 0 1000000 x)) := h1.trans (by rw [List.take_length])
            rcases hx c1' c2' with ⟨x, mx, ex⟩ | ⟨ws, rfl, g3, g4⟩
            · have ne : (xs.filter fun x => !okN 0 1000000 x).isEmpty = false := by
                cases z : xs.filter fun x => !okN 0 1000000 x with
                | nil => exact absurd ((List.filter_eq_nil_iff.mp z) x mx) (by rw [ex]; simp)
                | cons _ _ => rfl
              (repeat array_get_dec)
              rw [ne]
              (repeat array_get_dec)
              exact e _ fun b o e => h2 b o (ne_of_none e hA) e
            · rw [okN_good g3] at h1'
              have ht2 := h2 _ _ (ne_of_none ht hA) ht
              (repeat array_get_dec)
              refine ⟨t, ws, rfl, SqL.of ht2, ?_⟩
              (repeat array_get_dec)
              refine iteT' (decide_eq_true (by rw [g4])) ?_
              exact e _ fun b o e => h2 b o (ne_of_none e hA) e
      · (repeat array_get_dec)
        exact e _ (Same.refl _)
def spCWG : Sp := fun vs H Q _ => ∃ (t : Addr) (ws : List Int), vs = [.ref t] ∧ H t = some (.lst (ws.map V.int)) ∧ goodW ws ∧ ∀ H' p, Same H H' → H p = none → H' p = some (.lst (ws.map V.int)) → Q (.ref p) H'
theorem okL_checked_weights (M : Nms K mg) : FnOk P w K mg base CX0 2 M.a_checked_weights M.d_checked_weights ["weights"] spCWG := ok_low (ok_checked_weights M) fun vs H Q E ⟨t, ws, e, ht, hg, q⟩ => ⟨t, e, .inl ⟨ws, ht, hg, q⟩⟩
end
end K78

namespace K78
open PySem PySem.Spec PyProof.Rows L2
/-! ### shares, plainly -/
def encP (p : Int × Int) : PyData := .tuple [.int p.1, .int p.2]
def leP : Int × Int → Int × Int → Bool := PySem.W.dataLe false encP
def flo (x : Int) (ws : List Int) : List Int := ws.map fun w => x * w / ws.sum
def rem (x : Int) (ws : List Int) (w : Int) : Int := x * w % ws.sum
def prs (x : Int) (ws : List Int) : List (Int × Int) := (List.range ws.length).map fun i => (-(rem x ws (ws.getD i 0)), (i : Int))
def ordr (x : Int) (ws : List Int) : List (Int × Int) := (prs x ws).mergeSort leP
def cnt (x : Int) (ws : List Int) : Int := x - (flo x ws).sum
def inc (l : List Int) (p : Int × Int) : List Int := l.set p.2.toNat (l.getD p.2.toNat 0 + 1)
def shr (x : Int) (ws : List Int) : List Int := ((ordr x ws).take (cnt x ws).toNat).foldl inc (flo x ws)
def offs (x : Int) (ws told : List Int) : List Int := (List.range ws.length).map fun i => told.getD i 0 * ws.sum - x * ws.getD i 0
def closeB (x : Int) (ws told : List Int) : Bool := (offs x ws told).all fun a => (offs x ws told).all fun b => decide (a - b ≤ ws.sum)
def judB (x : Int) (ws told : List Int) : Bool := decide (told.length = ws.length) && ((told.all fun t => decide (-1000000000 ≤ t) && decide (t ≤ 1000000000)) && decide (told.sum = x)) && ((offs x ws told).all fun a => decide (-ws.sum < a) && decide (a < ws.sum)) && closeB x ws told
def gooB (x : Int) (ws told : List Int) : Bool := decide (told.length = ws.length) && decide (told.sum = x) && (((offs x ws told).all fun a => decide (a < ws.sum)) && ((offs x ws told).all fun a => decide (-ws.sum < a))) && closeB x ws told
theorem leP_iff (p q : Int × Int) : leP p q = decide (p.1 < q.1 ∨ (p.1 = q.1 ∧ p.2 ≤ q.2)) := congrFun (congrFun (PySem.W.dataLe_ii (fun p : Int × Int => p.1) (fun p : Int × Int => p.2)) p) q
theorem offs_get {x : Int} {ws told : List Int} {a : Int} (h : a ∈ offs x ws told) : ∃ i, i < ws.length ∧ a = told.getD i 0 * ws.sum - x * ws.getD i 0 := by
  obtain ⟨i, hi, e⟩ := List.mem_map.mp h
  exact ⟨i, List.mem_range.mp hi, e.symm⟩
theorem sum_ge {ws : List Int} (h : ∀ w ∈ ws, 0 ≤ w) : 0 ≤ ws.sum ∧ ∀ w ∈ ws, w ≤ ws.sum := by
  induction ws with
  | nil => exact ⟨by simp, fun w hw => by simp at hw⟩
  | cons a r ih =>
    obtain ⟨h1, h2⟩ := ih fun w m => h w (List.mem_cons_of_mem _ m)
    have ha := h a (List.mem_cons_self ..)
    rw [List.sum_cons]
    refine ⟨by omega, fun w m => ?_⟩
    rcases List.mem_cons.mp m with rfl | m
    · omega
    · have := h2 w m
      omega
theorem getD_mem' {l : List Int} {i : Nat} (h : i < l.length) : l.getD i 0 ∈ l := by
  rw [List.getD_eq_getElem?_getD, List.getElem?_eq_getElem h]
  exact List.getElem_mem h
/-- the two judgements are one -/
theorem jud_goo {x : Int} {ws told : List Int} (x0 : 0 ≤ x) (x1 : x ≤ 1000000000) (hw : ∀ w ∈ ws, 0 ≤ w) (hs : 0 < ws.sum) : judB x ws told = gooB x ws told := by
  have key : ((offs x ws told).all fun a => decide (-ws.sum < a) && decide (a < ws.sum)) = (((offs x ws told).all fun a => decide (a < ws.sum)) && ((offs x ws told).all fun a => decide (-ws.sum < a))) := by
    rw [Bool.eq_iff_iff, Bool.and_eq_true, List.all_eq_true, List.all_eq_true, List.all_eq_true]
    constructor
    · exact fun h => ⟨fun a m => (Bool.and_eq_true_iff.mp (h a m)).2, fun a m => (Bool.and_eq_true_iff.mp (h a m)).1⟩
    · exact fun h a m => Bool.and_eq_true_iff.mpr ⟨h.2 a m, h.1 a m⟩
  unfold judB gooB
  rw [key]
  by_cases hl : told.length = ws.length
  · by_cases hb : (((offs x ws told).all fun a => decide (a < ws.sum)) && ((offs x ws told).all fun a => decide (-ws.sum < a))) = true
    · have am : (told.all fun t => decide (-1000000000 ≤ t) && decide (t ≤ 1000000000)) = true := by
        rw [List.all_eq_true]
        intro t mt
        obtain ⟨i, hi, e⟩ := List.getElem_of_mem mt
        have hi' : i < ws.length := by omega
        have mo : t * ws.sum - x * ws.getD i 0 ∈ offs x ws told := List.mem_map.mpr ⟨i, List.mem_range.mpr hi', by rw [List.getD_eq_getElem?_getD, List.getElem?_eq_getElem hi]; simp [e]⟩
        rw [Bool.and_eq_true, List.all_eq_true, List.all_eq_true] at hb
        have h1 := of_decide_eq_true (hb.1 _ mo)
        have h2 := of_decide_eq_true (hb.2 _ mo)
        have hw1 := (sum_ge hw).2 _ (getD_mem' hi')
        have hw0 := hw _ (getD_mem' hi')
        generalize ws.getD i 0 = w at *
        have t1 : t * ws.sum < (x + 1) * ws.sum := by
          have : x * w ≤ x * ws.sum := Int.mul_le_mul_of_nonneg_left hw1 x0
          rw [Int.add_mul]; omega
        have t2 : (-1) * ws.sum < t * ws.sum := by
          have : 0 ≤ x * w := Int.mul_nonneg x0 hw0
          omega
        have t1' := Int.lt_of_mul_lt_mul_right t1 (Int.le_of_lt hs)
        have t2' := Int.lt_of_mul_lt_mul_right t2 (Int.le_of_lt hs)
        rw [Bool.and_eq_true, decide_eq_true_eq, decide_eq_true_eq]
        omega
      rw [am, Bool.true_and]
    · have hb' : (((offs x ws told).all fun a => decide (a < ws.sum)) && ((offs x ws told).all fun a => decide (-ws.sum < a))) = false := by simpa using hb
      rw [hb', Bool.and_false, Bool.and_false]
  · rw [decide_eq_false hl]
    rfl
end K78

namespace K78
open PySem PySem.Spec PyProof.Rows L2
/-! ### what is shared is judged right -/
theorem inc_len (l : List Int) (p : Int × Int) : (inc l p).length = l.length := List.length_set
theorem incs_len : ∀ (O : List (Int × Int)) (l : List Int), (O.foldl inc l).length = l.length
  | [], _ => rfl
  | p :: O, l => by rw [List.foldl_cons, incs_len O, inc_len]
theorem set_sum : ∀ (l : List Int) (i : Nat), i < l.length → (l.set i (l.getD i 0 + 1)).sum = l.sum + 1
  | [], i, h => by simp at h
  | a :: r, 0, _ => by
    rw [List.set_cons_zero, List.sum_cons, List.sum_cons]
    show a + 1 + r.sum = _
    omega
  | a :: r, i + 1, h => by
    rw [List.set_cons_succ, List.sum_cons, List.sum_cons]
    have := set_sum r i (by simpa using h)
    rw [show (a :: r).getD (i + 1) 0 = r.getD i 0 from rfl, this]
    omega
theorem incs_sum : ∀ (O : List (Int × Int)) (l : List Int), (∀ p ∈ O, p.2.toNat < l.length) → (O.foldl inc l).sum = l.sum + O.length
  | [], l, _ => by simp
  | p :: O, l, h => by
    rw [List.foldl_cons, incs_sum O (inc l p) fun q m => by rw [inc_len]; exact h q (List.mem_cons_of_mem _ m)]
    have := set_sum l p.2.toNat (h p (List.mem_cons_self ..))
    unfold inc
    rw [this, List.length_cons]
    omega
theorem inc_get (l : List Int) (p : Int × Int) (i : Nat) (h : i < l.length) : (inc l p).getD i 0 = l.getD i 0 + (if p.2.toNat = i then 1 else 0) := by
  unfold inc
  rw [List.getD_eq_getElem?_getD, List.getD_eq_getElem?_getD]
  by_cases e : p.2.toNat = i
  · rw [e, List.getElem?_set_self h, if_pos rfl, List.getD_eq_getElem?_getD]
    rfl
  · rw [List.getElem?_set_ne e, if_neg e]
    simp [List.getD_eq_getElem?_getD]
theorem incs_get : ∀ (O : List (Int × Int)) (l : List Int) (i : Nat), i < l.length → (O.foldl inc l).getD i 0 = l.getD i 0 + ((O.map fun p => p.2.toNat).count i : Nat)
  | [], l, i, _ => by simp
  | p :: O, l, i, h => by
    rw [List.foldl_cons, incs_get O (inc l p) i (by rw [inc_len]; exact h), inc_get l p i h, List.map_cons, List.count_cons]
    by_cases e : p.2.toNat = i
    · rw [if_pos e, if_pos (by simpa using e)]
      omega
    · rw [if_neg e, if_neg (by simpa using e)]
      omega
section
variable {x : Int} {ws : List Int} (x0 : 0 ≤ x) (hw : ∀ w ∈ ws, 0 ≤ w) (hs : 0 < ws.sum)
include hs in
theorem rem_lt (w : Int) : 0 ≤ rem x ws w ∧ rem x ws w < ws.sum := ⟨Int.emod_nonneg _ (by omega), Int.emod_lt_of_pos _ hs⟩
theorem ordr_perm : (ordr x ws).Perm (prs x ws) := List.mergeSort_perm _ _
theorem prs_ix : (prs x ws).map (fun p => p.2.toNat) = List.range ws.length := by
  unfold prs
  rw [List.map_map]
  exact (List.map_congr_left fun i _ => by simp).trans (List.map_id _)
theorem prs_mem {p : Int × Int} (h : p ∈ prs x ws) : p.2.toNat < ws.length ∧ p.1 = -(rem x ws (ws.getD p.2.toNat 0)) := by
  obtain ⟨i, hi, rfl⟩ := List.mem_map.mp h
  exact ⟨by simpa using hi, by simp⟩
theorem ordr_srt : (ordr x ws).Pairwise fun p q => leP p q = true := by
  unfold ordr leP PySem.W.dataLe
  exact PySem.W.sort_pairwise (PySem.W.sortLe_total _ _ _) _
theorem sum_mul (x : Int) : ∀ l : List Int, (l.map fun w => x * w).sum = x * l.sum
  | [] => by simp
  | a :: r => by rw [List.map_cons, List.sum_cons, List.sum_cons, sum_mul x r, Int.mul_add]
theorem flo_rem (x S : Int) : ∀ l : List Int, (l.map fun w => x * w / S).sum * S + (l.map fun w => x * w % S).sum = x * l.sum
  | [] => by simp
  | a :: r => by
    have ih := flo_rem x S r
    have e := Int.emod_def (x * a) S
    rw [List.map_cons, List.map_cons, List.sum_cons, List.sum_cons, List.sum_cons, Int.add_mul, Int.mul_add]
    have : x * a / S * S = S * (x * a / S) := Int.mul_comm _ _
    omega
theorem perm_sum {l m : List Int} (h : l.Perm m) : l.sum = m.sum := by
  induction h with
  | nil => rfl
  | cons a _ ih => rw [List.sum_cons, List.sum_cons, ih]
  | swap a b l => rw [List.sum_cons, List.sum_cons, List.sum_cons, List.sum_cons]; omega
  | trans _ _ h1 h2 => rw [h1, h2]
theorem rems_list : ((List.range ws.length).map fun i => rem x ws (ws.getD i 0)) = ws.map fun w => x * w % ws.sum := by
  refine List.ext_getElem (by simp) fun i h1 h2 => ?_
  have hi : i < ws.length := by simpa using h1
  simp only [List.getElem_map, List.getElem_range]
  unfold rem
  rw [List.getD_eq_getElem?_getD, List.getElem?_eq_getElem hi]
  rfl
/-- the rests come to as many times the whole as are lacking -/
theorem rems_sum : ((ordr x ws).map fun p => -p.1).sum = cnt x ws * ws.sum := by
  have e1 : ((ordr x ws).map fun p => -p.1).sum = ((prs x ws).map fun p => -p.1).sum := perm_sum (ordr_perm.map _)
  have e2 : ((prs x ws).map fun p => -p.1) = ws.map fun w => x * w % ws.sum := by
    rw [← rems_list]
    unfold prs
    rw [List.map_map]
    exact List.map_congr_left fun i _ => by simp
  rw [e1, e2]
  have := flo_rem x ws.sum ws
  unfold cnt flo
  rw [Int.sub_mul]
  omega
theorem sumI_le {l : List Int} {b : Int} (h : ∀ a ∈ l, a ≤ b) : l.sum ≤ (l.length : Int) * b := by
  induction l with
  | nil => simp
  | cons a r ih =>
    have h1 := ih fun c m => h c (List.mem_cons_of_mem _ m)
    have h2 := h a (List.mem_cons_self ..)
    rw [List.sum_cons, List.length_cons, Int.natCast_add, Int.add_mul]
    omega
theorem sumI_lt {l : List Int} {b : Int} (h : ∀ a ∈ l, a ≤ b) (z : ∃ a ∈ l, a ≤ 0) (hb : 0 ≤ b) : l.sum ≤ ((l.length : Int) - 1) * b := by
  induction l with
  | nil =>
    obtain ⟨a, m, _⟩ := z
    simp at m
  | cons a r ih =>
    rw [List.sum_cons, List.length_cons, Int.natCast_add]
    have h2 := h a (List.mem_cons_self ..)
    obtain ⟨c, m, hc⟩ := z
    rcases List.mem_cons.mp m with rfl | m
    · have h1 := sumI_le (l := r) (b := b) fun d m => h d (List.mem_cons_of_mem _ m)
      have : ((r.length : Int) + (1 : Nat) - 1) * b = (r.length : Int) * b := by congr 1; omega
      rw [this]; omega
    · have h1 := ih (fun d m => h d (List.mem_cons_of_mem _ m)) ⟨c, m, hc⟩
      have : ((r.length : Int) + (1 : Nat) - 1) * b = ((r.length : Int) - 1) * b + b := by
        rw [show (r.length : Int) + (1 : Nat) - 1 = ((r.length : Int) - 1) + 1 by omega, Int.add_mul]; omega
      rw [this]; omega
include hs in
theorem cnt_nn : 0 ≤ cnt x ws := by
  have e := rems_sum (x := x) (ws := ws)
  have h : 0 ≤ ((ordr x ws).map fun p => -p.1).sum := (sum_ge fun a m => by
    obtain ⟨p, mp, rfl⟩ := List.mem_map.mp m
    have := (prs_mem (ordr_perm.mem_iff.mp mp)).2
    have := (rem_lt (x := x) hs (ws.getD p.2.toNat 0)).1
    omega).1
  rw [e] at h
  by_cases z : 0 ≤ cnt x ws
  · exact z
  · have : cnt x ws * ws.sum < 0 := Int.mul_neg_of_neg_of_pos (by omega) hs
    omega
include hs in
theorem cnt_lt : (cnt x ws).toNat ≤ ws.length := by
  have e := rems_sum (x := x) (ws := ws)
  have h : ((ordr x ws).map fun p => -p.1).sum ≤ (((ordr x ws).map fun p => -p.1).length : Int) * ws.sum := sumI_le fun a m => by
    obtain ⟨p, mp, rfl⟩ := List.mem_map.mp m
    have := (prs_mem (ordr_perm.mem_iff.mp mp)).2
    have := (rem_lt (x := x) hs (ws.getD p.2.toNat 0)).2
    omega
  have l : ((ordr x ws).map fun p => -p.1).length = ws.length := by
    rw [List.length_map, (ordr_perm (x := x) (ws := ws)).length_eq]; unfold prs; simp
  rw [e, l] at h
  have := Int.le_of_mul_le_mul_right h hs
  omega
/-- how many get one more -/
def few (x : Int) (ws : List Int) : List (Int × Int) := (ordr x ws).take (cnt x ws).toNat
def rst (x : Int) (ws : List Int) : List (Int × Int) := (ordr x ws).drop (cnt x ws).toNat
theorem few_rst : few x ws ++ rst x ws = ordr x ws := List.take_append_drop _ _
theorem ordr_len : (ordr x ws).length = ws.length := by
  rw [(ordr_perm (x := x) (ws := ws)).length_eq]; unfold prs; simp
include hs in
theorem few_len : (few x ws).length = (cnt x ws).toNat := by
  unfold few
  rw [List.length_take, ordr_len]
  exact Nat.min_eq_left (cnt_lt hs)
theorem ordr_at {p : Int × Int} (h : p ∈ ordr x ws) : p.2.toNat < ws.length ∧ p.1 = -(rem x ws (ws.getD p.2.toNat 0)) := prs_mem (ordr_perm.mem_iff.mp h)
include hs in
theorem few_neg {p : Int × Int} (h : p ∈ few x ws) : p.1 < 0 := by
  have hm : ∀ q, q ∈ ordr x ws → -ws.sum < q.1 ∧ q.1 ≤ 0 := fun q m => by
    have e := (ordr_at m).2
    have := rem_lt (x := x) hs (ws.getD q.2.toNat 0)
    omega
  by_cases z : p.1 < 0
  · exact z
  exfalso
  have hp : p.1 = 0 := by
    have := hm p (by rw [← few_rst]; exact List.mem_append_left _ h)
    omega
  have pw := ordr_srt (x := x) (ws := ws)
  rw [← few_rst, List.pairwise_append] at pw
  have hr : ∀ q ∈ rst x ws, -q.1 ≤ 0 := fun q m => by
    have h1 := pw.2.2 p h q m
    rw [leP_iff] at h1
    have h2 := of_decide_eq_true h1
    omega
  have e := rems_sum (x := x) (ws := ws)
  rw [← few_rst, List.map_append, List.sum_append] at e
  have b1 := sumI_lt (l := (few x ws).map fun p => -p.1) (b := ws.sum - 1) (fun a m => by
    obtain ⟨q, mq, rfl⟩ := List.mem_map.mp m
    have := hm q (by rw [← few_rst]; exact List.mem_append_left _ mq)
    omega) ⟨_, List.mem_map.mpr ⟨p, h, rfl⟩, by omega⟩ (by omega)
  have b2 := sumI_le (l := (rst x ws).map fun p => -p.1) (b := 0) (fun a m => by
    obtain ⟨q, mq, rfl⟩ := List.mem_map.mp m
    exact hr q mq)
  rw [List.length_map, few_len hs] at b1
  have c0 := cnt_nn (x := x) (ws := ws) hs
  have c1 : (1 : Int) ≤ (((cnt x ws).toNat : Nat) : Int) := by
    have : 0 < (few x ws).length := List.length_pos_of_mem h
    rw [few_len hs] at this
    omega
  have ec : (((cnt x ws).toNat : Nat) : Int) = cnt x ws := Int.toNat_of_nonneg c0
  rw [ec] at b1 c1
  have e3 : (cnt x ws - 1) * (ws.sum - 1) = cnt x ws * ws.sum - ws.sum - (cnt x ws - 1) := by
    rw [Int.sub_mul, Int.mul_sub, Int.mul_sub]; omega
  rw [e3] at b1
  simp at b2
  omega
theorem shr_len : (shr x ws).length = ws.length := by
  unfold shr flo
  rw [incs_len, List.length_map]
theorem flo_get {i : Nat} (h : i < ws.length) : (flo x ws).getD i 0 = x * ws.getD i 0 / ws.sum := by
  unfold flo
  rw [List.getD_eq_getElem?_getD, List.getD_eq_getElem?_getD, List.getElem?_map, List.getElem?_eq_getElem h]
  rfl
include hs in
theorem off_at {i : Nat} (h : i < ws.length) : ∃ p, -ws.sum < p.1 ∧ p.1 ≤ 0 ∧ ((p ∈ few x ws ∧ (shr x ws).getD i 0 * ws.sum - x * ws.getD i 0 = ws.sum + p.1) ∨ (p ∈ rst x ws ∧ (shr x ws).getD i 0 * ws.sum - x * ws.getD i 0 = p.1)) := by
  have hi : i ∈ (ordr x ws).map fun p => p.2.toNat := by
    rw [((ordr_perm (x := x) (ws := ws)).map _).mem_iff, prs_ix]
    exact List.mem_range.mpr h
  have nd : ((ordr x ws).map fun p => p.2.toNat).Nodup := by
    rw [((ordr_perm (x := x) (ws := ws)).map _).nodup_iff, prs_ix]
    exact List.nodup_range
  have eg : (shr x ws).getD i 0 = x * ws.getD i 0 / ws.sum + (((few x ws).map fun p => p.2.toNat).count i : Nat) := by
    unfold shr
    rw [incs_get _ _ _ (by unfold flo; rw [List.length_map]; exact h), flo_get h]
    rfl
  have ed := Int.emod_def (x * ws.getD i 0) ws.sum
  have em : x * ws.getD i 0 / ws.sum * ws.sum = ws.sum * (x * ws.getD i 0 / ws.sum) := Int.mul_comm _ _
  rw [← few_rst, List.map_append] at hi nd
  rw [List.nodup_append] at nd
  rcases List.mem_append.mp hi with hi | hi
  · obtain ⟨p, mp, rfl⟩ := List.mem_map.mp hi
    have e := (ordr_at (x := x) (ws := ws) (p := p) (by rw [← few_rst]; exact List.mem_append_left _ mp)).2
    have := rem_lt (x := x) hs (ws.getD p.2.toNat 0)
    refine ⟨p, by omega, by omega, .inl ⟨mp, ?_⟩⟩
    rw [eg, nd.1.count, if_pos hi, e, Int.add_mul]
    unfold rem
    omega
  · obtain ⟨p, mp, rfl⟩ := List.mem_map.mp hi
    have e := (ordr_at (x := x) (ws := ws) (p := p) (by rw [← few_rst]; exact List.mem_append_right _ mp)).2
    have := rem_lt (x := x) hs (ws.getD p.2.toNat 0)
    refine ⟨p, by omega, by omega, .inr ⟨mp, ?_⟩⟩
    have c0 : ((few x ws).map fun p => p.2.toNat).count p.2.toNat = 0 := List.count_eq_zero.mpr fun z => nd.2.2 _ z _ hi rfl
    rw [eg, c0, e, Int.add_mul]
    unfold rem
    omega
include x0 hw hs in
theorem shr_good (x1 : x ≤ 1000000000) : judB x ws (shr x ws) = true := by
  rw [jud_goo x0 x1 hw hs]
  have pw := ordr_srt (x := x) (ws := ws)
  rw [← few_rst, List.pairwise_append] at pw
  have sm : (shr x ws).sum = x := by
    unfold shr
    rw [incs_sum _ _ fun p m => by
      have := (ordr_at (x := x) (ws := ws) (p := p) (List.mem_of_mem_take m)).1
      unfold flo
      rw [List.length_map]
      exact this]
    rw [show (List.take (cnt x ws).toNat (ordr x ws)).length = (cnt x ws).toNat from few_len hs, Int.toNat_of_nonneg (cnt_nn hs)]
    unfold cnt
    omega
  unfold gooB
  rw [decide_eq_true shr_len, decide_eq_true sm, Bool.true_and, Bool.true_and]
  simp only [Bool.and_eq_true, List.all_eq_true, decide_eq_true_eq]
  refine ⟨⟨fun a m => ?_, fun a m => ?_⟩, ?_⟩
  · obtain ⟨i, hi, rfl⟩ := offs_get m
    obtain ⟨p, p1, p2, ⟨mp, e⟩ | ⟨mp, e⟩⟩ := off_at (x := x) hs hi
    · have := few_neg hs mp
      omega
    · omega
  · obtain ⟨i, hi, rfl⟩ := offs_get m
    obtain ⟨p, p1, p2, ⟨mp, e⟩ | ⟨mp, e⟩⟩ := off_at (x := x) hs hi <;> omega
  · unfold closeB
    simp only [List.all_eq_true, decide_eq_true_eq]
    intro a ma b mb
    obtain ⟨i, hi, rfl⟩ := offs_get ma
    obtain ⟨j, hj, rfl⟩ := offs_get mb
    obtain ⟨p, p1, p2, ⟨mp, e⟩ | ⟨mp, e⟩⟩ := off_at (x := x) hs hi
    · obtain ⟨q, q1, q2, ⟨mq, e'⟩ | ⟨mq, e'⟩⟩ := off_at (x := x) hs hj
      · omega
      · have h1 := pw.2.2 p mp q mq
        rw [leP_iff] at h1
        have h2 := of_decide_eq_true h1
        omega
    · obtain ⟨q, q1, q2, ⟨mq, e'⟩ | ⟨mq, e'⟩⟩ := off_at (x := x) hs hj <;> omega
end
end K78

namespace K78
open PySem PySem.Spec PyProof.Rows L2
local macro_rules | `(tactic| array_mem_dec) => `(tactic| first | with_reducible assumption | with_reducible exact upd_same | ((with_reducible apply same_at); (with_reducible assumption); array_mem_dec) | ((with_reducible apply upd_atN); (with_reducible assumption); array_mem_dec) | ((with_reducible apply upd_at); (first | with_reducible assumption | (apply Ne.symm; with_reducible assumption)); array_mem_dec))
local macro_rules | `(tactic| array_get_dec) => `(tactic| first | (with_reducible refine w_seq ?_) | (with_reducible refine w_asg ?_) | (with_reducible refine w_drop ?_) | (with_reducible refine w_ret ?_) | (with_reducible refine w_retN ?_) | (with_reducible refine w_next ?_) | (with_reducible refine w_break ?_) | (with_reducible refine w_cont ?_) | (with_reducible refine w_ifS ?_) | (with_reducible refine w_sub ?_) | (with_reducible refine w_c ?_) | (with_reducible refine w_op ?_) | (with_reducible refine w_un ?_) | (with_reducible refine w_test ?_) | (with_reducible refine w_B ?_) | (with_reducible refine w_yes ?_) | (with_reducible refine w_not ?_) | (with_reducible refine w_and ?_) | (with_reducible refine w_or ?_) | (with_reducible refine w_andV ?_) | (with_reducible refine w_orV ?_) | (with_reducible refine w_notV ?_) | (with_reducible refine w_ifE ?_) | (with_reducible refine w_nil ?_) | (with_reducible refine w_cons ?_) | (with_reducible refine w_call ?_) | (with_reducible refine w_callS ?_) | (with_reducible refine w_cB ?_) | (with_reducible refine w_lst ?_) | (with_reducible refine w_tup ?_) | (with_reducible refine w_sl ?_) | (with_reducible refine w_noPart ?_) | (with_reducible refine w_part ?_) | (with_reducible refine w_bm ?_) | (with_reducible refine w_bm0 ?_) | (with_reducible refine w_strTy ?_) | (with_reducible refine w_bl ?_) | (with_reducible refine w_int1 ?_) | (with_reducible refine w_str1 ?_) | (with_reducible refine w_rI0 ?_) | (with_reducible refine w_rU ?_) | (with_reducible refine w_eqI ?_) | (with_reducible refine w_eqS ?_) | (with_reducible refine w_neI ?_) | (with_reducible refine w_neS ?_) | (with_reducible refine w_bl2 ?_) | (with_reducible refine w_isN ?_) | (with_reducible refine w_for ?_) | (with_reducible refine w_iRng1 ?_) | (with_reducible refine w_iRng2 ?_) | (with_reducible refine w_iList ?_) | (with_reducible refine w_iTup ?_) | (with_reducible refine w_iStr ?_) | (with_reducible refine w_lc ?_) | (with_reducible refine w_M1 ?_) | (with_reducible refine w_M0 ?_) | (with_reducible refine w_isS ?_) | ((with_reducible apply w_name); (simp only [wipe, List.map_cons, List.map_nil, List.foldl_cons, List.foldl_nil, List.set_cons_zero, List.set_cons_succ]; exact rfl)) | ((with_reducible apply w_var); exact rfl) | ((with_reducible apply w_lstTy); array_mem_dec) | ((with_reducible apply w_lenL); array_mem_dec) | ((with_reducible apply w_lenT); array_mem_dec) | ((with_reducible apply w_listOf); array_mem_dec) | ((with_reducible apply w_lenS); (first | (with_reducible assumption) | omega | (rw [sizeLine_eq]; omega))) | ((with_reducible apply w_slS); (first | (with_reducible assumption) | omega | (rw [sizeLine_eq]; omega))) | ((with_reducible apply w_wipe); exact rfl) | ((with_reducible apply w_acc); array_mem_dec; (try (first | (with_reducible assumption) | omega | (rw [sizeLine_eq]; omega)))) | ((with_reducible apply w_itl); array_mem_dec) | ((with_reducible apply w_itt); array_mem_dec) | ((with_reducible apply w_append); array_mem_dec; (try (first | (with_reducible assumption) | omega | (rw [sizeLine_eq]; omega)))) | ((with_reducible apply w_rng1); (first | (with_reducible assumption) | omega); (first | (with_reducible assumption) | omega)) | ((with_reducible apply w_ixL); array_mem_dec; (first | (with_reducible assumption) | exact rfl | (apply atI_nat; (with_reducible assumption)) | exact atI_last _ _)) | ((with_reducible apply w_ixT); array_mem_dec; (first | (with_reducible assumption) | exact rfl | (apply atI_nat; (with_reducible assumption)) | exact atI_last _ _)) | ((with_reducible apply w_iT); first | exact rfl | (with_reducible assumption)) | ((with_reducible apply w_iF); first | exact rfl | (with_reducible assumption)) | ((with_reducible apply w_isiI (b := true)); decide +kernel) | ((with_reducible apply w_isiI (b := false)); decide +kernel) | ((with_reducible apply w_isiB (b := true)); decide +kernel) | ((with_reducible apply w_isiB (b := false)); decide +kernel) | ((with_reducible apply w_isiS (b := true)); decide +kernel) | ((with_reducible apply w_isiS (b := false)); decide +kernel) | ((with_reducible apply w_isiN (b := true)); decide +kernel) | ((with_reducible apply w_isiN (b := false)); decide +kernel) | ((with_reducible apply w_isiL (b := true)); array_mem_dec; decide +kernel) | ((with_reducible apply w_isiL (b := false)); array_mem_dec; decide +kernel) | ((with_reducible apply w_isiT (b := true)); array_mem_dec; decide +kernel) | ((with_reducible apply w_isiT (b := false)); array_mem_dec; decide +kernel) | (with_reducible refine w_notT ?_) | (with_reducible refine w_chain ?_) | ((with_reducible apply w_trL); array_mem_dec) | ((with_reducible apply w_gTup); array_mem_dec; exact rfl) | ((with_reducible apply w_gLst); array_mem_dec; exact rfl) | (with_reducible refine w_gCons ?_) | (with_reducible refine w_gNil ?_) | (with_reducible refine w_Fld ?_) | (with_reducible refine w_sFld ?_) | (with_reducible refine w_dget ?_) | (with_reducible refine w_dIn ?_) | (with_reducible refine w_dNotIn ?_) | (with_reducible refine w_sDPut ?_) | (with_reducible refine w_dnewK ?_) | (with_reducible refine w_meth ?_) | (with_reducible refine w_make ?_) | (with_reducible refine w_methS ?_) | (with_reducible refine w_makeS ?_) | (with_reducible refine w_dpop ?_) | ((with_reducible apply w_fld1); array_mem_dec; (with_reducible assumption); (with_reducible assumption); exact rfl) | ((with_reducible apply w_sfld1); array_mem_dec; (with_reducible assumption); (with_reducible assumption); exact Nat.le_of_ble_eq_true rfl) | ((with_reducible apply w_meth1); array_mem_dec; exact rfl) | ((with_reducible apply w_dgetS); array_mem_dec; (with_reducible assumption)) | ((with_reducible apply w_dgetI); array_mem_dec; (with_reducible assumption)) | ((with_reducible apply w_dinS); array_mem_dec) | ((with_reducible apply w_dputI); array_mem_dec; (try (first | (with_reducible assumption) | omega | (rw [sizeLine_eq]; omega)))) | ((with_reducible apply w_dputS); array_mem_dec; (try (first | (with_reducible assumption) | omega | (rw [sizeLine_eq]; omega)))) | ((with_reducible apply w_isD); array_mem_dec) | ((with_reducible apply w_dictD); array_mem_dec) | ((with_reducible apply w_dpopS); array_mem_dec; (with_reducible assumption)))
/-! ### the walks of shares -/
def iL (l : List Int) : List V := l.map V.int
def spShared (CN CP : Addr) : Sp := fun vs H Q E => ∃ (v : V) (t : Addr), vs = [v, .ref t] ∧
  ((∃ (x : Int) (ws : List Int), v = .int x ∧ 0 ≤ x ∧ x ≤ 1000000000 ∧ H t = some (.lst (iL ws)) ∧ goodW ws ∧ ∀ H' p, Same H H' → H p = none → H' p = some (.lst (iL (shr x ws))) → Q (.ref p) H') ∨
   (∃ xs, H t = some (.lst xs) ∧ badW xs ∧ ∀ H', Same H H' → E (.ref CP) none H') ∨
   (∃ ws : List Int, H t = some (.lst (iL ws)) ∧ goodW ws ∧ numV v ∧ okN 0 1000000000 v = false ∧ ∀ H', Same H H' → E (.ref CN) none H'))
theorem cut_take (xs : List V) (k : Int) (h : 0 ≤ k) : cutV xs none (some k) = xs.take k.toNat := by
  unfold cutV
  have e1 : HT.sIx xs.length 0 none = 0 := rfl
  have e2 : HT.sIx xs.length xs.length (some k) = min k.toNat xs.length := by
    show (if k < 0 then (k + (xs.length : Int)).toNat else min k.toNat xs.length) = _
    rw [if_neg (by omega)]
  rw [e1, e2, List.drop_zero, Nat.sub_zero]
  by_cases hk : k.toNat ≤ xs.length
  · rw [Nat.min_eq_left hk]
  · rw [Nat.min_eq_right (by omega), List.take_of_length_le (Nat.le_refl _), List.take_of_length_le (by omega)]
section
variable {P : Program} {w : World} {K : PySem.W.Frag} {mg : Str → Option Value} {base : Heap}
theorem ok_shared (M : Nms K mg) : FnOk P w K mg base (L2N.CX P w) 3 M.a_shared M.d_shared ["amount", "weights"] (spShared M.CN M.CP) := by
  refine M.F_shared.okN sc_shared (fun vs H Q E h => ?_) (fun cdv A outer s H vs Q E hr h => ?_)
  · obtain ⟨v, t, rfl, _⟩ := h
    rfl
  · refine ⟨_, (pss_cons (ps_set (i := 2) sc_shared.nd rfl (Or.inr rfl) (pe_callS (ok_checked_weights M) (hr.mono (by decide)) rfl M.g_checked_weights M.k_checked_weights M.b_checked_weights (fun σ => L2N.passAt (L2N.takes_of rfl rfl rfl rfl) σ) (pa_cons (pv 1) pa_nil)))
    (pss_cons (ps_if (PW.pt (pw_or (pt_not (pt_val (pe_call (ok_is_amount M) (hr.mono (by decide)) rfl M.g_is_amount M.k_is_amount M.b_is_amount .nil pass0 (pa_cons (pv 0) pa_nil)))) (pw_or1 (pt_cmpR op_lt (pv 0) pe_int (nomark _))))) (pss_one (L2N.ps_raise rfl (L2N.takes_of rfl rfl rfl rfl) (L2N.pmk_own PySem.F.excBase_ValueError M.XN.xP M.XN.gP M.XN.kP (raises_own M.XN.bP M.XN.tP) rfl))) pss_nil)
    (pss_cons (ps_set (i := 3) sc_shared.nd rfl (Or.inr rfl) (pe_callB (cr_sum rfl) (by rfl) M.T.b_sum (by decide +kernel) (pa_cons (pv 2) pa_nil)))
    (pss_cons (ps_setLc (i := 4) (own := [("one", 5)]) rfl sc_shared.nd rfl rfl (sw_true rfl rfl rfl (by decide +kernel)) (pi_list (pv 2)) (blkOk_by (N := ["amount", "weights", "rows", "every", "found", "one", "rests", "at", "rest"]) (sc := defScope s_shared) (own := [("one", 5)]) (by decide +kernel)) (fun _ _ _ _ _ => (pg_name (i := 5) sc_shared.nd rfl (Or.inl rfl))) (fun _ _ _ _ _ => pts_nil) (fun _ _ _ _ _ => (pe_op op_fdivW (pe_op op_mul (pv 0) (pv 5)) (pv 3))))
    (pss_cons (ps_set (i := 6) sc_shared.nd rfl (Or.inl rfl) (pe_callB (cr_sortedDt hr.units) (by rfl) M.T.b_sorted (by decide +kernel) (pa_cons (pe_lc (own := [("at", 7)]) rfl sc_shared.nd (pi_range1 (by rfl) M.T.b_range (pa_cons (pe_callB call_len (by rfl) M.T.b_len (by decide +kernel) (pa_cons (pv 2) pa_nil)) pa_nil)) (blkOk_by (N := ["amount", "weights", "rows", "every", "found", "one", "rests", "at", "rest"]) (sc := defScope s_shared) (own := [("at", 7)]) (by decide +kernel)) (fun _ _ _ _ _ => (pg_name (i := 7) sc_shared.nd rfl (Or.inl rfl))) (fun _ _ _ _ _ => pts_nil) (fun _ _ _ _ _ => (pe_tup (pa_cons (pe_un un_neg (pe_op op_modN (pe_op op_mul (pv 0) (pe_ix (r := rIxL K) ix_list (pv 2) (pv 7) (fun _ _ => rfl))) (pv 3))) (pa_cons (pv 7) pa_nil))))) pa_nil)))
    (pss_cons (ps_for (passes_of rfl) rfl (pi_list (pe_slice (r := rSlL K) sl_list (pv 6) po_none (po_some (pe_op op_sub (pv 0) (pe_callB (cr_sum rfl) (by rfl) M.T.b_sum (by decide +kernel) (pa_cons (pv 4) pa_nil)))))) (pg_tup rfl (pgs_cons (pg_name (i := 8) sc_shared.nd rfl (Or.inl rfl)) (pgs_cons (pg_name (i := 7) sc_shared.nd rfl (Or.inl rfl)) pgs_nil))) (pss_one (ps_asg (pe_op op_add (pe_ix (r := rIxL K) ix_list (pv 4) (pv 7) (fun _ _ => rfl)) pe_int) (pg_sub (pv 4) (pv 7) set_list))))
    (pss_one (ps_ret (pv 4))))))))), ?_⟩
    try dsimp only [cxOf, Cx.nox]
    obtain ⟨v, t, rfl, ⟨x, ws, rfl, x0, x1, ht, hg, q⟩ | ⟨xs, ht, hb, e⟩ | ⟨ws, ht, hg, hv, hx, e⟩⟩ := h
    · refine w_start (σ' := [some (.int x), some (.ref t), none, none, none, none, none, none, none]) rfl ?_
      (repeat array_get_dec)
      refine ⟨t, rfl, .inl ⟨ws, ht, hg, fun H1 p s1 fp hp => ?_⟩⟩
      (repeat array_get_dec)
      refine ⟨_, rfl, .inl ⟨_, rfl⟩, ?_⟩
      rw [show okN (-1000000000) 1000000000 (.int x) = true from by show (decide _ && decide _) = true; rw [decide_eq_true (show -1000000000 ≤ x by omega), decide_eq_true x1]; rfl]
      (repeat array_get_dec)
      refine iteF' (decide_eq_false (by omega)) ?_
      (repeat array_get_dec)
      refine ⟨p, ws, rfl, SqL.of hp, ?_⟩
      (repeat array_get_dec)
      intro A hA
      have hs : 0 < ws.sum := by
        have := (sum_ge fun w m => (hg.2.2.1 w m).1).1
        have := hg.2.2.2
        omega
      have hsm : ws.sum ≤ 100 * 1000000 := by
        have := sumI_le (l := ws) (b := 1000000) fun w m => (hg.2.2.1 w m).2
        have := hg.2.1
        omega
      refine lc_list (K := K) (a := p) (xs := iL ws) (fun i H' => H' A = some (.lst (iL ((ws.take i).map fun w => x * w / ws.sum))) ∧ ∀ b o, b ≠ A → H1 b = some o → H' b = some o) ⟨upd_same, fun b o nb e => by rw [upd_ne nb]; exact e⟩ ?_ ?_ ?_
      · rintro i H' _ ⟨h1, h2⟩
        exact SqL.of (h2 _ _ (ne_of_none hp hA) hp)
      · rintro i y H' hy ⟨h1, h2⟩
        obtain ⟨w, hw, rfl⟩ : ∃ w, ws[i]? = some w ∧ y = .int w := by
          unfold iL at hy
          rw [List.getElem?_map] at hy
          cases z : ws[i]? with
          | none => rw [z] at hy; cases hy
          | some w => rw [z] at hy; exact ⟨w, rfl, (Option.some.inj hy).symm⟩
        have wb := hg.2.2.1 w (List.mem_of_getElem? hw)
        have lz : (iL ((ws.take i).map fun w => x * w / ws.sum)).length < sizeLine := Nat.lt_of_le_of_lt (by unfold iL; rw [List.length_map, List.length_map, List.length_take]; exact Nat.min_le_right _ _) (by rw [sizeLine_eq]; have := hg.2.1; omega)
        (repeat array_get_dec)
        refine w_rI (.inr ⟨by omega, by omega⟩) ?_
        (repeat array_get_dec)
        refine w_rI (wide_div (b := 27) hs (show ws.sum.natAbs < 134217728 by omega) (by decide) (by decide)) ?_
        (repeat array_get_dec)
        refine ⟨?_, fun b o nb e => by rw [upd_ne nb]; exact h2 b o nb e⟩
        rw [upd_same, take_snoc hw]
        unfold iL
        rw [List.map_append, List.map_append]
        rfl
      · rintro H' ⟨h1, h2⟩
        have el : (iL ws).length = ws.length := List.length_map _
        have hp2 := h2 _ _ (ne_of_none hp hA) hp
        have h1f : H' A = some (.lst (iL (flo x ws))) := by
          rw [el, List.take_length] at h1
          exact h1
        (repeat array_get_dec)
        have n100 := hg.2.1
        simp only [List.length_map]
        refine w_rng1 (by omega) (by omega) ?_
        (repeat array_get_dec)
        intro B hB
        refine lc_range (fun i H2 => ∃ zs : List (Addr × Int × Int), zs.map (fun z => z.2) = (prs x ws).take i ∧ H2 B = some (.lst (zs.map fun z => V.ref z.1)) ∧ (∀ z ∈ zs, H2 z.1 = some (.tup [.int z.2.1, .int z.2.2])) ∧ ∀ b o, b ≠ B → H' b = some o → H2 b = some o) ⟨[], rfl, upd_same, fun z m => by simp at m, fun b o nb e => by rw [upd_ne nb]; exact e⟩ ?_ ?_
        · rintro i H2 hi ⟨zs, e1, e2, e3, e4⟩
          have hi' : i < ws.length := by omega
          have wb := hg.2.2.1 ws[i] (List.getElem_mem hi')
          have hp3 := e4 _ _ (ne_of_none hp2 hB) hp2
          have atw : atI (ws.map V.int) (0 + (i : Int)) = some (V.int ws[i]) := by
            rw [Int.zero_add]
            refine atI_nat ?_
            rw [List.getElem?_map, List.getElem?_eq_getElem hi']
            rfl
          have lz : zs.length = i := by
            have := congrArg List.length e1
            rw [List.length_map, List.length_take] at this
            have h3 : (prs x ws).length = ws.length := by unfold prs; simp
            omega
          have lz2 : (zs.map fun z => V.ref z.1).length < sizeLine := by rw [List.length_map, sizeLine_eq]; omega
          (repeat array_get_dec)
          refine w_rI (.inr ⟨by omega, by omega⟩) ?_
          (repeat array_get_dec)
          refine w_rI (show ws.sum ≠ 0 by omega) ?_
          (repeat array_get_dec)
          refine ⟨by show 2 ≤ sizeLine; decide, fun u hu2 => ?_⟩
          (repeat array_get_dec)
          have nB : u ≠ B := (ne_of_none e2 hu2).symm
          refine ⟨zs ++ [(u, -(rem x ws ws[i]), (i : Int))], ?_, by rw [upd_same, List.map_append]; rfl, fun z m => ?_, fun b o nb e => ?_⟩
          · have h3 : (prs x ws)[i]? = some (-(rem x ws (ws.getD i 0)), (i : Int)) := by unfold prs; rw [List.getElem?_map, List.getElem?_range hi']; rfl
            rw [take_snoc h3, List.map_append, e1, List.getD_eq_getElem?_getD, List.getElem?_eq_getElem hi']
            rfl
          · rcases List.mem_append.mp m with m | m
            · have := e3 z m
              rw [upd_ne (fun w => by rw [w, e2] at this; cases this), upd_ne (ne_of_none this hu2)]
              exact this
            · obtain rfl := List.mem_singleton.mp m
              show upd _ B _ u = _
              rw [upd_ne nB, upd_same, Int.zero_add]
              unfold rem
              rw [← Int.fmod_eq_emod_of_nonneg _ (by omega)]
          · rw [upd_ne nb, upd_ne (ne_of_none (e4 b o nb e) hu2)]
            exact e4 b o nb e
        · rintro H2 ⟨zs, e1, e2, e3, e4⟩
          have ea : zs.map (fun z => z.2) = prs x ws := by rw [e1]; exact List.take_of_length_le (by unfold prs; simp)
          have hzl : zs.length = ws.length := by
            have := congrArg List.length ea
            rw [List.length_map] at this
            rw [this]; unfold prs; simp
          (repeat array_get_dec)
          refine ⟨B, zs.map fun z => (V.ref z.1, encP z.2), rfl, SqL.of (by rw [List.map_map]; exact e2), fun b m => ?_, ?_, ?_, by rw [List.length_map, sizeLine_eq]; omega, fun S hS => ?_⟩
          · obtain ⟨z, mz, rfl⟩ := List.mem_map.mp m
            exact ⟨.tup (SqT.of (e3 z mz)) (.cons (.int _) (.cons (.int _) .nil)), Nat.le_of_ble_eq_true rfl⟩
          · rw [List.map_map]
            exact PySem.W.AllAlike.of (enc := fun z : Addr × Int × Int => encP z.2) fun _ _ => rfl
          · rw [List.map_map]
            exact PySem.W.Sortable.tuples (enc := fun z : Addr × Int × Int => encP z.2) fun _ => ⟨_, _, rfl⟩
          have es1 : ((zs.map fun z => (V.ref z.1, encP z.2)).mergeSort (PySem.W.dataLe false fun b => b.2)) = (zs.mergeSort fun a b => leP a.2 b.2).map fun z => (V.ref z.1, encP z.2) := (PySem.W.sort_maps (r := fun a b : Addr × Int × Int => leP a.2 b.2) (s := PySem.W.dataLe false fun b : V × PyData => b.2) (fun z : Addr × Int × Int => (V.ref z.1, encP z.2)) (l := zs) fun a _ b _ => rfl).symm
          rw [es1, List.map_map, show ((fun b : V × PyData => b.1) ∘ fun z : Addr × Int × Int => (V.ref z.1, encP z.2)) = fun z => V.ref z.1 from rfl]
          have es2 : (zs.mergeSort fun a b => leP a.2 b.2).map (fun z => z.2) = ordr x ws := by
            unfold ordr
            rw [← ea]
            exact PySem.W.sort_maps (r := fun a b : Addr × Int × Int => leP a.2 b.2) (s := leP) (fun z : Addr × Int × Int => z.2) (l := zs) fun a _ b _ => rfl
          have e3s : ∀ z ∈ zs.mergeSort fun a b => leP a.2 b.2, H2 z.1 = some (.tup [.int z.2.1, .int z.2.2]) := fun z m => e3 z ((List.mergeSort_perm zs _).mem_iff.mp m)
          generalize zs.mergeSort (fun a b => leP a.2 b.2) = ys at es2 e3s
          have hA2 := e4 _ _ (ne_of_none h1f hB) h1f
          have nAS : A ≠ S := ne_of_none hA2 hS
          (repeat array_get_dec)
          refine ⟨A, flo x ws, rfl, SqL.of (upd_atN hS hA2), ?_⟩
          (repeat array_get_dec)
          refine ⟨S, _, rfl, SqL.of upd_same, fun U hU => ?_⟩
          rw [show x - (flo x ws).sum = cnt x ws from rfl, cut_take _ _ (cnt_nn hs)]
          (repeat array_get_dec)
          have fU : upd (upd H2 S (.lst (ys.map fun z => V.ref z.1))) U (.lst ((ys.map fun z => V.ref z.1).take (cnt x ws).toNat)) A = some (.lst (iL (flo x ws))) := upd_atN hU (upd_atN hS hA2)
          have nUA : U ≠ A := fun z => by rw [z, upd_atN hS hA2] at hU; cases hU
          have kn := cnt_lt (x := x) hs
          have k0 := cnt_nn (x := x) hs
          have yl : ys.length = ws.length := by
            have := congrArg List.length es2
            rw [List.length_map, ordr_len] at this
            exact this
          refine for_list (K := K) (a := U) (xs := (ys.map fun z => V.ref z.1).take (cnt x ws).toNat) (fun i σ H3 => ∃ v7 v8 : Option V, σ = [some (.int x), some (.ref t), some (.ref p), some (.int ws.sum), some (.ref A), none, some (.ref S), v7, v8] ∧ H3 A = some (.lst (iL (((ordr x ws).take i).foldl inc (flo x ws)))) ∧ ∀ b o, b ≠ A → upd (upd H2 S (.lst (ys.map fun z => V.ref z.1))) U (.lst ((ys.map fun z => V.ref z.1).take (cnt x ws).toNat)) b = some o → H3 b = some o) ⟨none, none, rfl, fU, fun b o _ e => e⟩ ?_ ?_ ?_
          · rintro i σ H3 _ ⟨v7, v8, rfl, k1, k2⟩
            exact SqL.of (k2 _ _ nUA upd_same)
          · rintro i y σ H3 hy ⟨v7, v8, rfl, k1, k2⟩
            have hik : i < (cnt x ws).toNat := by
              have := (List.getElem?_eq_some_iff.mp hy).1
              rw [List.length_take] at this
              omega
            have hiy : i < ys.length := by omega
            obtain rfl : y = V.ref ys[i].1 := by
              rw [List.getElem?_take_of_lt hik, List.getElem?_map, List.getElem?_eq_getElem hiy] at hy
              exact (Option.some.inj hy).symm
            have ho : (ordr x ws)[i]? = some ys[i].2 := by rw [← es2, List.getElem?_map, List.getElem?_eq_getElem hiy]; rfl
            have w1 := e3s _ (List.getElem_mem hiy)
            have w2 := k2 _ _ (fun z => by rw [z, hA2] at w1; cases w1) (upd_atN hU (upd_atN hS w1))
            have oa := ordr_at (x := x) (ws := ws) (List.mem_of_getElem? ho)
            have op : (0 : Int) ≤ ys[i].2.2 := by
              obtain ⟨q, mq, eq⟩ := List.mem_map.mp (ordr_perm.mem_iff.mp (List.mem_of_getElem? ho))
              rw [← eq]
              show (0 : Int) ≤ (q : Int)
              omega
            generalize ys[i].2 = pr at *
            have ll : ((((ordr x ws).take i).foldl inc (flo x ws))).length = ws.length := by rw [incs_len]; unfold flo; rw [List.length_map]
            generalize hL : ((ordr x ws).take i).foldl inc (flo x ws) = L at *
            obtain ⟨jn, hjn⟩ : ∃ jn : Nat, pr.2 = (jn : Int) := ⟨pr.2.toNat, by omega⟩
            have hjl : jn < L.length := by rw [hjn] at oa; have := oa.1; rw [Int.toNat_natCast] at this; omega
            have at1 : atI (iL L) pr.2 = some (V.int (L.getD jn 0)) := by
              rw [hjn]
              refine atI_nat ?_
              unfold iL
              rw [List.getElem?_map, List.getD_eq_getElem?_getD, List.getElem?_eq_getElem hjl]
              rfl
            (repeat array_get_dec)
            refine ⟨A, _, _, jn, rfl, rfl, k1, ?_, ?_⟩
            · rw [hjn]
              unfold iL
              rw [List.length_map]
              unfold ixN
              rw [if_pos (by omega), if_pos (by omega)]
              simp
            · refine ⟨_, _, rfl, ?_, fun b o nb e => by rw [upd_ne nb]; exact k2 b o nb e⟩
              rw [upd_same, take_snoc ho, List.foldl_append, hL]
              show _ = some (HO.lst (iL (inc L pr)))
              unfold iL inc
              rw [hjn, Int.toNat_natCast, List.map_set]
          · rintro σ H3 ⟨v7, v8, rfl, k1, k2⟩
            have ek : ((ys.map fun z => V.ref z.1).take (cnt x ws).toNat).length = (cnt x ws).toNat := by rw [List.length_take, List.length_map]; omega
            rw [ek] at k1
            (repeat array_get_dec)
            refine q _ A (fun b o e => ?_) ?_ k1
            · have b1 := s1 _ _ e
              have b2 := h2 b o (ne_of_none b1 hA) b1
              have nb : b ≠ A := ne_of_none b1 hA
              exact k2 b o nb (upd_atN hU (upd_atN hS (e4 b o (ne_of_none b2 hB) b2)))
            · cases z : H A with
              | none => rfl
              | some o => rw [s1 _ _ z] at hA; cases hA
    · refine w_start (σ' := [some v, some (.ref t), none, none, none, none, none, none, none]) rfl ?_
      (repeat array_get_dec)
      exact ⟨t, rfl, .inr ⟨xs, ht, hb, e⟩⟩
    · refine w_start (σ' := [some v, some (.ref t), none, none, none, none, none, none, none]) rfl ?_
      (repeat array_get_dec)
      refine ⟨t, rfl, .inl ⟨ws, ht, hg, fun H1 p s1 fp hp => ?_⟩⟩
      (repeat array_get_dec)
      refine ⟨_, rfl, hv, ?_⟩
      rcases hv with ⟨x, rfl⟩ | ⟨b, rfl⟩
      · cases hb1 : okN (-1000000000) 1000000000 (V.int x) with
        | false =>
          (repeat array_get_dec)
          exact e _ s1
        | true =>
          have hx1 : (decide (-1000000000 ≤ x) && decide (x ≤ 1000000000)) = true := hb1
          have hx2 : (decide (0 ≤ x) && decide (x ≤ 1000000000)) = false := hx
          rw [Bool.and_eq_true, decide_eq_true_eq, decide_eq_true_eq] at hx1
          rw [decide_eq_true hx1.2, Bool.and_true] at hx2
          have hx3 := of_decide_eq_false hx2
          (repeat array_get_dec)
          refine iteT' (decide_eq_true (by omega)) ?_
          exact e _ s1
      · rw [show okN (-1000000000) 1000000000 (V.bl b) = false from rfl]
        (repeat array_get_dec)
        exact e _ s1
def spSharedG : Sp := fun vs H Q _ => ∃ (x : Int) (t : Addr) (ws : List Int), vs = [.int x, .ref t] ∧ 0 ≤ x ∧ x ≤ 1000000000 ∧ H t = some (.lst (iL ws)) ∧ goodW ws ∧ ∀ H' p, Same H H' → H p = none → H' p = some (.lst (iL (shr x ws))) → Q (.ref p) H'
theorem okL_shared (M : Nms K mg) : FnOk P w K mg base CX0 3 M.a_shared M.d_shared ["amount", "weights"] spSharedG := ok_low (ok_shared M) fun vs H Q E ⟨x, t, ws, e, x0, x1, ht, hg, q⟩ => ⟨_, t, e, .inl ⟨x, ws, rfl, x0, x1, ht, hg, q⟩⟩
end
end K78

namespace K78
open PySem PySem.Spec PyProof.Rows L2
local macro_rules | `(tactic| array_mem_dec) => `(tactic| first | with_reducible assumption | with_reducible exact upd_same | ((with_reducible apply same_at); (with_reducible assumption); array_mem_dec) | ((with_reducible apply upd_atN); (with_reducible assumption); array_mem_dec) | ((with_reducible apply upd_at); (first | with_reducible assumption | (apply Ne.symm; with_reducible assumption)); array_mem_dec))
local macro_rules | `(tactic| array_get_dec) => `(tactic| first | (with_reducible refine w_seq ?_) | (with_reducible refine w_asg ?_) | (with_reducible refine w_drop ?_) | (with_reducible refine w_ret ?_) | (with_reducible refine w_retN ?_) | (with_reducible refine w_next ?_) | (with_reducible refine w_break ?_) | (with_reducible refine w_cont ?_) | (with_reducible refine w_ifS ?_) | (with_reducible refine w_sub ?_) | (with_reducible refine w_c ?_) | (with_reducible refine w_op ?_) | (with_reducible refine w_un ?_) | (with_reducible refine w_test ?_) | (with_reducible refine w_B ?_) | (with_reducible refine w_yes ?_) | (with_reducible refine w_not ?_) | (with_reducible refine w_and ?_) | (with_reducible refine w_or ?_) | (with_reducible refine w_andV ?_) | (with_reducible refine w_orV ?_) | (with_reducible refine w_notV ?_) | (with_reducible refine w_ifE ?_) | (with_reducible refine w_nil ?_) | (with_reducible refine w_cons ?_) | (with_reducible refine w_call ?_) | (with_reducible refine w_callS ?_) | (with_reducible refine w_cB ?_) | (with_reducible refine w_lst ?_) | (with_reducible refine w_tup ?_) | (with_reducible refine w_sl ?_) | (with_reducible refine w_noPart ?_) | (with_reducible refine w_part ?_) | (with_reducible refine w_bm ?_) | (with_reducible refine w_bm0 ?_) | (with_reducible refine w_strTy ?_) | (with_reducible refine w_bl ?_) | (with_reducible refine w_int1 ?_) | (with_reducible refine w_str1 ?_) | (with_reducible refine w_rI0 ?_) | (with_reducible refine w_rU ?_) | (with_reducible refine w_eqI ?_) | (with_reducible refine w_eqS ?_) | (with_reducible refine w_neI ?_) | (with_reducible refine w_neS ?_) | (with_reducible refine w_bl2 ?_) | (with_reducible refine w_isN ?_) | (with_reducible refine w_for ?_) | (with_reducible refine w_iRng1 ?_) | (with_reducible refine w_iRng2 ?_) | (with_reducible refine w_iList ?_) | (with_reducible refine w_iTup ?_) | (with_reducible refine w_iStr ?_) | (with_reducible refine w_lc ?_) | (with_reducible refine w_M1 ?_) | (with_reducible refine w_M0 ?_) | (with_reducible refine w_isS ?_) | ((with_reducible apply w_name); (simp only [wipe, List.map_cons, List.map_nil, List.foldl_cons, List.foldl_nil, List.set_cons_zero, List.set_cons_succ]; exact rfl)) | ((with_reducible apply w_var); exact rfl) | ((with_reducible apply w_lstTy); array_mem_dec) | ((with_reducible apply w_lenL); array_mem_dec) | ((with_reducible apply w_lenT); array_mem_dec) | ((with_reducible apply w_listOf); array_mem_dec) | ((with_reducible apply w_lenS); (first | (with_reducible assumption) | omega | (rw [sizeLine_eq]; omega))) | ((with_reducible apply w_slS); (first | (with_reducible assumption) | omega | (rw [sizeLine_eq]; omega))) | ((with_reducible apply w_wipe); exact rfl) | ((with_reducible apply w_acc); array_mem_dec; (try (first | (with_reducible assumption) | omega | (rw [sizeLine_eq]; omega)))) | ((with_reducible apply w_itl); array_mem_dec) | ((with_reducible apply w_itt); array_mem_dec) | ((with_reducible apply w_append); array_mem_dec; (try (first | (with_reducible assumption) | omega | (rw [sizeLine_eq]; omega)))) | ((with_reducible apply w_rng1); (first | (with_reducible assumption) | omega); (first | (with_reducible assumption) | omega)) | ((with_reducible apply w_ixL); array_mem_dec; (first | (with_reducible assumption) | exact rfl | (apply atI_nat; (with_reducible assumption)) | exact atI_last _ _)) | ((with_reducible apply w_ixT); array_mem_dec; (first | (with_reducible assumption) | exact rfl | (apply atI_nat; (with_reducible assumption)) | exact atI_last _ _)) | ((with_reducible apply w_iT); first | exact rfl | (with_reducible assumption)) | ((with_reducible apply w_iF); first | exact rfl | (with_reducible assumption)) | ((with_reducible apply w_isiI (b := true)); decide +kernel) | ((with_reducible apply w_isiI (b := false)); decide +kernel) | ((with_reducible apply w_isiB (b := true)); decide +kernel) | ((with_reducible apply w_isiB (b := false)); decide +kernel) | ((with_reducible apply w_isiS (b := true)); decide +kernel) | ((with_reducible apply w_isiS (b := false)); decide +kernel) | ((with_reducible apply w_isiN (b := true)); decide +kernel) | ((with_reducible apply w_isiN (b := false)); decide +kernel) | ((with_reducible apply w_isiL (b := true)); array_mem_dec; decide +kernel) | ((with_reducible apply w_isiL (b := false)); array_mem_dec; decide +kernel) | ((with_reducible apply w_isiT (b := true)); array_mem_dec; decide +kernel) | ((with_reducible apply w_isiT (b := false)); array_mem_dec; decide +kernel) | (with_reducible refine w_notT ?_) | (with_reducible refine w_chain ?_) | ((with_reducible apply w_trL); array_mem_dec) | ((with_reducible apply w_gTup); array_mem_dec; exact rfl) | ((with_reducible apply w_gLst); array_mem_dec; exact rfl) | (with_reducible refine w_gCons ?_) | (with_reducible refine w_gNil ?_) | (with_reducible refine w_Fld ?_) | (with_reducible refine w_sFld ?_) | (with_reducible refine w_dget ?_) | (with_reducible refine w_dIn ?_) | (with_reducible refine w_dNotIn ?_) | (with_reducible refine w_sDPut ?_) | (with_reducible refine w_dnewK ?_) | (with_reducible refine w_meth ?_) | (with_reducible refine w_make ?_) | (with_reducible refine w_methS ?_) | (with_reducible refine w_makeS ?_) | (with_reducible refine w_dpop ?_) | ((with_reducible apply w_fld1); array_mem_dec; (with_reducible assumption); (with_reducible assumption); exact rfl) | ((with_reducible apply w_sfld1); array_mem_dec; (with_reducible assumption); (with_reducible assumption); exact Nat.le_of_ble_eq_true rfl) | ((with_reducible apply w_meth1); array_mem_dec; exact rfl) | ((with_reducible apply w_dgetS); array_mem_dec; (with_reducible assumption)) | ((with_reducible apply w_dgetI); array_mem_dec; (with_reducible assumption)) | ((with_reducible apply w_dinS); array_mem_dec) | ((with_reducible apply w_dputI); array_mem_dec; (try (first | (with_reducible assumption) | omega | (rw [sizeLine_eq]; omega)))) | ((with_reducible apply w_dputS); array_mem_dec; (try (first | (with_reducible assumption) | omega | (rw [sizeLine_eq]; omega)))) | ((with_reducible apply w_isD); array_mem_dec) | ((with_reducible apply w_dictD); array_mem_dec) | ((with_reducible apply w_dpopS); array_mem_dec; (with_reducible assumption)))
/-! ### the two judgements -/
theorem close_max {x : Int} {ws l : List Int} {a b : Int} (ha : a ∈ offs x ws l) (ha2 : ∀ y ∈ offs x ws l, y ≤ a) (hb : b ∈ offs x ws l) (hb2 : ∀ y ∈ offs x ws l, b ≤ y) : decide (a - b ≤ ws.sum) = closeB x ws l := by
  rw [Bool.eq_iff_iff, decide_eq_true_eq]
  unfold closeB
  simp only [List.all_eq_true, decide_eq_true_eq]
  constructor
  · intro h y my z mz
    have := ha2 y my
    have := hb2 z mz
    omega
  · intro h
    exact h a ha b hb
theorem offs_len (x : Int) (ws l : List Int) : (offs x ws l).length = ws.length := by unfold offs; simp
theorem iL_at {l : List Int} {i : Nat} (h : i < l.length) : atI (iL l) ((i : Nat) : Int) = some (V.int (l.getD i 0)) := by
  refine atI_nat ?_
  unfold iL
  rw [List.getElem?_map, List.getD_eq_getElem?_getD, List.getElem?_eq_getElem h]
  rfl
theorem iL_len (l : List Int) : (iL l).length = l.length := List.length_map _
theorem iL_num (l : List Int) : ∀ x ∈ iL l, numV x := fun x hx => by
  obtain ⟨w, _, rfl⟩ := List.mem_map.mp hx
  exact .inl ⟨_, rfl⟩
theorem offs_snoc {x : Int} {ws l : List Int} {i : Nat} (h : i < ws.length) : iL ((offs x ws l).take i) ++ [V.int (l.getD i 0 * ws.sum - x * ws.getD i 0)] = iL ((offs x ws l).take (i + 1)) := by
  have e : (offs x ws l)[i]? = some (l.getD i 0 * ws.sum - x * ws.getD i 0) := by unfold offs; rw [List.getElem?_map, List.getElem?_range h]; rfl
  rw [take_snoc e]
  unfold iL
  rw [List.map_append]
  rfl
theorem am_filt (l : List Int) : ((iL l).filter fun x => !okN (-1000000000) 1000000000 x).isEmpty = l.all fun t => decide (-1000000000 ≤ t) && decide (t ≤ 1000000000) := by
  rw [Bool.eq_iff_iff, List.isEmpty_iff, List.filter_eq_nil_iff, List.all_eq_true]
  constructor
  · intro h t mt
    have := h (V.int t) (List.mem_map.mpr ⟨t, mt, rfl⟩)
    have e : okN (-1000000000) 1000000000 (V.int t) = true := by simpa using this
    exact e
  · intro h y my
    obtain ⟨t, mt, rfl⟩ := List.mem_map.mp my
    have e : okN (-1000000000) 1000000000 (V.int t) = true := h t mt
    rw [e]
    decide
def farB (S a : Int) : Bool := !(decide (-S < a) && decide (a < S))
theorem far_filt (S : Int) (L : List Int) : (iL (L.filter (farB S))).isEmpty = L.all fun a => decide (-S < a) && decide (a < S) := by
  rw [Bool.eq_iff_iff, List.isEmpty_iff, List.all_eq_true]
  unfold iL
  rw [List.map_eq_nil_iff, List.filter_eq_nil_iff]
  unfold farB
  simp
theorem iL_get {L : List Int} {i : Nat} {y : V} (h : (iL L)[i]? = some y) : ∃ a, L[i]? = some a ∧ y = .int a := by
  unfold iL at h
  rw [List.getElem?_map] at h
  cases z : L[i]? with
  | none => rw [z] at h; cases h
  | some w => rw [z] at h; exact ⟨w, rfl, (Option.some.inj h).symm⟩
theorem filt_yes {L : List Int} {f : Int → Bool} {i : Nat} {a : Int} (h : L[i]? = some a) (e : f a = true) : iL ((L.take (i + 1)).filter f) = iL ((L.take i).filter f) ++ [V.int a] := by
  rw [take_snoc h, List.filter_append, List.filter_cons, if_pos e, List.filter_nil]
  unfold iL
  rw [List.map_append]
  rfl
theorem filt_no {L : List Int} {f : Int → Bool} {i : Nat} {a : Int} (h : L[i]? = some a) (e : f a = false) : (L.take (i + 1)).filter f = (L.take i).filter f := by
  rw [take_snoc h, List.filter_append, List.filter_cons, if_neg (by rw [e]; decide), List.filter_nil, List.append_nil]
def spJudge : Sp := fun vs H Q _ => ∃ (x : Int) (t u : Addr) (ws l : List Int), vs = [.int x, .ref t, .ref u] ∧ 0 ≤ x ∧ x ≤ 1000000000 ∧ H t = some (.lst (iL ws)) ∧ goodW ws ∧ H u = some (.lst (iL l)) ∧ l.length ≤ 100 ∧ (∀ y ∈ l, -2000000000 ≤ y ∧ y ≤ 2000000000) ∧ ∀ H', Same H H' → Q (.bl (judB x ws l)) H'
def spGood : Sp := fun vs H Q _ => ∃ (x : Int) (t u : Addr) (ws l : List Int), vs = [.int x, .ref t, .ref u] ∧ 0 ≤ x ∧ x ≤ 1000000000 ∧ H t = some (.lst (iL ws)) ∧ goodW ws ∧ H u = some (.lst (iL l)) ∧ l.length ≤ 100 ∧ (∀ y ∈ l, -2000000000 ≤ y ∧ y ≤ 2000000000) ∧ ∀ H', Same H H' → Q (.bl (gooB x ws l)) H'
theorem goodW_sum {ws : List Int} (hg : goodW ws) : 0 < ws.sum ∧ ws.sum ≤ 100000000 := by
  have h1 := (sum_ge fun w m => (hg.2.2.1 w m).1).1
  have h2 := hg.2.2.2
  have h3 := sumI_le (l := ws) (b := 1000000) fun w m => (hg.2.2.1 w m).2
  have h4 := hg.2.1
  omega
theorem getD_le {l : List Int} {a b : Int} (h : ∀ y ∈ l, a ≤ y ∧ y ≤ b) (h0 : a ≤ 0 ∧ 0 ≤ b) (i : Nat) : a ≤ l.getD i 0 ∧ l.getD i 0 ≤ b := by
  by_cases hi : i < l.length
  · exact h _ (getD_mem' hi)
  · rw [List.getD_eq_getElem?_getD, List.getElem?_eq_none (by omega)]
    exact h0
section
variable {P : Program} {w : World} {K : PySem.W.Frag} {mg : Str → Option Value} {base : Heap}
theorem ok_judge_shared (M : Nms K mg) : FnOk P w K mg base CX0 3 M.a_judge_shared M.d_judge_shared ["amount", "weights", "told"] spJudge := by
  refine M.F_judge_shared.ok sc_judge_shared (fun vs H Q E h => ?_) (fun cdv A outer s H vs Q E hr h => ?_)
  · obtain ⟨x, t, u, ws, l, rfl, _⟩ := h
    rfl
  · refine ⟨_, (pss_cons (ps_set (i := 3) sc_judge_shared.nd rfl (Or.inr rfl) (pe_call (okL_checked_weights M) (hr.mono (by decide)) rfl M.g_checked_weights M.k_checked_weights M.b_checked_weights .nil pass0 (pa_cons (pv 1) pa_nil)))
    (pss_cons (ps_if (PW.pt (pw_or (pt_not (pt_val (pe_call (ok_is_amount M) (hr.mono (by decide)) rfl M.g_is_amount M.k_is_amount M.b_is_amount .nil pass0 (pa_cons (pv 0) pa_nil)))) (pw_or (pt_cmpR op_lt (pv 0) pe_int (nomark _)) (pw_or1 (pt_cmpR op_ne (pe_callB call_len (by rfl) M.T.b_len (by decide +kernel) (pa_cons (pv 2) pa_nil)) (pe_callB call_len (by rfl) M.T.b_len (by decide +kernel) (pa_cons (pv 3) pa_nil)) (nomark _)))))) (pss_one (ps_ret pe_bl)) pss_nil)
    (pss_cons (ps_if (PW.pt (pw_or (pt_truth (pe_lc (own := [("one", 4)]) rfl sc_judge_shared.nd (pi_list (pv 2)) (blkOk_by (N := ["amount", "weights", "told", "rows", "one", "every", "off", "at"]) (sc := defScope s_judge_shared) (own := [("one", 4)]) (by decide +kernel)) (fun _ _ _ _ _ => (pg_name (i := 4) sc_judge_shared.nd rfl (Or.inl rfl))) (fun _ _ _ _ _ => pts_one (pt_not (pt_val (pe_call (ok_is_amount M) (hr.mono (by decide)) rfl M.g_is_amount M.k_is_amount M.b_is_amount .nil pass0 (pa_cons (pv 4) pa_nil))))) (fun _ _ _ _ _ => (pv 4))) (by intro _; rfl)) (pw_or1 (pt_cmpR op_ne (pe_callB (cr_sum rfl) (by rfl) M.T.b_sum (by decide +kernel) (pa_cons (pv 2) pa_nil)) (pv 0) (nomark _))))) (pss_one (ps_ret pe_bl)) pss_nil)
    (pss_cons (ps_set (i := 5) sc_judge_shared.nd rfl (Or.inr rfl) (pe_callB (cr_sum rfl) (by rfl) M.T.b_sum (by decide +kernel) (pa_cons (pv 3) pa_nil)))
    (pss_cons (ps_setLc (i := 6) (own := [("at", 7)]) rfl sc_judge_shared.nd rfl rfl (sw_true rfl rfl rfl (by decide +kernel)) (pi_range1 (by rfl) M.T.b_range (pa_cons (pe_callB call_len (by rfl) M.T.b_len (by decide +kernel) (pa_cons (pv 3) pa_nil)) pa_nil)) (blkOk_by (N := ["amount", "weights", "told", "rows", "one", "every", "off", "at"]) (sc := defScope s_judge_shared) (own := [("at", 7)]) (by decide +kernel)) (fun _ _ _ _ _ => (pg_name (i := 7) sc_judge_shared.nd rfl (Or.inl rfl))) (fun _ _ _ _ _ => pts_nil) (fun _ _ _ _ _ => (pe_op op_sub (pe_op op_mul (pe_ix (r := rIxL K) ix_list (pv 2) (pv 7) (fun _ _ => rfl)) (pv 5)) (pe_op op_mul (pv 0) (pe_ix (r := rIxL K) ix_list (pv 3) (pv 7) (fun _ _ => rfl))))))
    (pss_cons (ps_if (pt_truth (pe_lc (own := [("one", 4)]) rfl sc_judge_shared.nd (pi_list (pv 6)) (blkOk_by (N := ["amount", "weights", "told", "rows", "one", "every", "off", "at"]) (sc := defScope s_judge_shared) (own := [("one", 4)]) (by decide +kernel)) (fun _ _ _ _ _ => (pg_name (i := 4) sc_judge_shared.nd rfl (Or.inl rfl))) (fun _ _ _ _ _ => pts_one (pt_not (pt_chain op_lt op_lt (pe_un un_neg (pv 5)) (pv 4) (pv 5)))) (fun _ _ _ _ _ => (pv 4))) (by intro _; rfl)) (pss_one (ps_ret pe_bl)) pss_nil)
    (pss_one (ps_ret (pe_cmpR op_le (pe_op op_sub (pe_callB (cr_max rfl) (by rfl) M.T.b_max (by decide +kernel) (pa_cons (pv 6) pa_nil)) (pe_callB (cr_min rfl) (by rfl) M.T.b_min (by decide +kernel) (pa_cons (pv 6) pa_nil))) (pv 5) (nomark _)))))))))), ?_⟩
    try dsimp only [cxOf, Cx.nox]
    obtain ⟨x, t, u, ws, l, rfl, x0, x1, ht, hg, hu, hl, hy, q⟩ := h
    refine w_start (σ' := [some (.int x), some (.ref t), some (.ref u), none, none, none, none, none]) rfl ?_
    obtain ⟨hs, hs2⟩ := goodW_sum hg
    have g2 := hg.2.1
    have g1 := hg.1
    (repeat array_get_dec)
    refine ⟨t, ws, rfl, ht, hg, fun H1 p s1 fp hp => ?_⟩
    (repeat array_get_dec)
    refine ⟨_, rfl, .inl ⟨_, rfl⟩, ?_⟩
    rw [show okN (-1000000000) 1000000000 (.int x) = true from by show (decide _ && decide _) = true; rw [decide_eq_true (show -1000000000 ≤ x by omega), decide_eq_true x1]; rfl]
    (repeat array_get_dec)
    refine iteF' (decide_eq_false (by omega)) ?_
    have hu1 := s1 _ _ hu
    (repeat array_get_dec)
    rw [iL_len, List.length_map]
    refine ite2 (fun c1 => ?_) (fun c1 => ?_)
    · have c1' : l.length ≠ ws.length := fun z => by rw [z, decide_eq_true rfl] at c1; cases c1
      (repeat array_get_dec)
      have e : judB x ws l = false := by unfold judB; rw [decide_eq_false c1']; rfl
      rw [e] at q
      exact q _ s1
    · have c1' : l.length = ws.length := by
        by_cases z : l.length = ws.length
        · exact z
        · exact absurd (by rw [decide_eq_false fun w => z (by have := V.int.inj w; omega)]; rfl) c1
      (repeat array_get_dec)
      intro A hA
      have hn := iL_num l
      have ht := hu1
      have hl0 := hl
      have hl : (iL l).length ≤ 100 := by rw [iL_len]; exact hl
      have nums : ∀ x ∈ ((iL l) : List V), numV x := hn
      have few : ((iL l) : List V).length ≤ 200 := by omega
      refine lc_list (K := K) (a := u) (xs := (iL l)) (fun i H' => H' A = some (.lst ((((iL l) : List V).take i).filter fun x => !okN (-1000000000) 1000000000 x)) ∧ ∀ b o, b ≠ A → H1 b = some o → H' b = some o) ⟨upd_same, fun b o nb e => by rw [upd_ne nb]; exact e⟩ ?_ ?_ ?_
      · rintro i H' _ ⟨h1, h2⟩
        exact SqL.of (h2 _ _ (ne_of_none ht hA) ht)
      · rintro i y H' hy ⟨h1, h2⟩
        (repeat array_get_dec)
        refine ⟨y, rfl, nums y (List.mem_of_getElem? hy), ?_⟩
        (repeat array_get_dec)
        have lz : ((((iL l) : List V).take i).filter fun x => !okN (-1000000000) 1000000000 x).length < sizeLine := Nat.lt_of_le_of_lt (Nat.le_trans (List.length_filter_le _ _) (by rw [List.length_take]; exact Nat.min_le_right _ _)) (by rw [sizeLine_eq]; omega)
        refine ite2 (fun z => ?_) (fun z => ?_)
        · (repeat array_get_dec)
          refine ⟨by rw [upd_same, take_snoc hy, List.filter_append, show [y].filter (fun x => !okN (-1000000000) 1000000000 x) = [y] from by simp only [List.filter_cons, List.filter_nil]; rw [if_pos z]], fun b o nb e => by rw [upd_ne nb]; exact h2 b o nb e⟩
        · refine ⟨by rw [h1, take_snoc hy, List.filter_append, show [y].filter (fun x => !okN (-1000000000) 1000000000 x) = [] from by simp only [List.filter_cons, List.filter_nil]; rw [if_neg z], List.append_nil], h2⟩
      · rintro H' ⟨h1, h2⟩
        have h1' : H' A = some (.lst ((iL l).filter fun x => !okN (-1000000000) 1000000000 x)) := h1.trans (by rw [List.take_length])
        have am := am_filt l
        have hu2 := h2 _ _ (ne_of_none hu1 hA) hu1
        have hp2 := h2 _ _ (ne_of_none hp hA) hp
        (repeat array_get_dec)
        rw [am]
        cases hal : l.all fun t => decide (-1000000000 ≤ t) && decide (t ≤ 1000000000) with
        | false =>
          (repeat array_get_dec)
          have e : judB x ws l = false := by unfold judB; rw [hal, Bool.false_and, Bool.and_false]; rfl
          rw [e] at q
          exact q _ fun b o e => h2 b o (ne_of_none (s1 _ _ e) hA) (s1 _ _ e)
        | true =>
          (repeat array_get_dec)
          refine ⟨u, l, rfl, SqL.of hu2, ?_⟩
          (repeat array_get_dec)
          refine ite2 (fun c2 => ?_) (fun c2 => ?_)
          · have c2' : l.sum ≠ x := fun z => by rw [z, decide_eq_true rfl] at c2; cases c2
            (repeat array_get_dec)
            have e : judB x ws l = false := by unfold judB; rw [decide_eq_false c2', Bool.and_false, Bool.and_false]; rfl
            rw [e] at q
            exact q _ fun b o e => h2 b o (ne_of_none (s1 _ _ e) hA) (s1 _ _ e)
          · have c2' : l.sum = x := by
              by_cases z : l.sum = x
              · exact z
              · exact absurd (by rw [decide_eq_false fun w => z (V.int.inj w)]; rfl) c2
            (repeat array_get_dec)
            refine ⟨p, ws, rfl, SqL.of hp2, ?_⟩
            (repeat array_get_dec)
            simp only [List.length_map]
            refine w_rng1 (by omega) (by omega) ?_
            (repeat array_get_dec)
            intro B hB
            refine lc_range (fun i H2 => H2 B = some (.lst (iL ((offs x ws l).take i))) ∧ ∀ b o, b ≠ B → H' b = some o → H2 b = some o) ⟨upd_same, fun b o nb e => by rw [upd_ne nb]; exact e⟩ ?_ ?_
            · rintro i H2 hi ⟨k1, k2⟩
              have hi' : i < ws.length := by omega
              have hu3 := k2 _ _ (ne_of_none hu2 hB) hu2
              have hp3 := k2 _ _ (ne_of_none hp2 hB) hp2
              have a1 : atI (iL l) (0 + (i : Int)) = some (V.int (l.getD i 0)) := by rw [Int.zero_add]; exact iL_at (by omega)
              have a2 : atI (ws.map V.int) (0 + (i : Int)) = some (V.int (ws.getD i 0)) := by rw [Int.zero_add]; exact iL_at hi'
              have lz : (iL ((offs x ws l).take i)).length < sizeLine := by rw [iL_len, List.length_take, offs_len, sizeLine_eq]; omega
              have g3 := getD_le hy (by omega) i
              have g4 := getD_le hg.2.2.1 (by omega) i
              (repeat array_get_dec)
              refine w_rI (.inl ⟨by omega, by omega⟩) ?_
              (repeat array_get_dec)
              refine w_rI (.inl ⟨by omega, by omega⟩) ?_
              (repeat array_get_dec)
              exact ⟨by rw [upd_same, offs_snoc hi'], fun b o nb e => by rw [upd_ne nb]; exact k2 b o nb e⟩
            · rintro H2 ⟨k1, k2⟩
              have k1' : H2 B = some (.lst (iL (offs x ws l))) := k1.trans (by rw [List.take_of_length_le (by rw [offs_len]; omega)])
              (repeat array_get_dec)
              intro C hC
              refine lc_list (K := K) (a := B) (xs := iL (offs x ws l)) (fun i H3 => H3 C = some (.lst (iL (((offs x ws l).take i).filter (farB ws.sum)))) ∧ ∀ b o, b ≠ C → H2 b = some o → H3 b = some o) ⟨upd_same, fun b o nb e => by rw [upd_ne nb]; exact e⟩ ?_ ?_ ?_
              · rintro i H3 _ ⟨m1, m2⟩
                exact SqL.of (m2 _ _ (ne_of_none k1' hC) k1')
              · rintro i y H3 hy2 ⟨m1, m2⟩
                obtain ⟨a, ha, rfl⟩ := iL_get hy2
                have lz : (iL (((offs x ws l).take i).filter (farB ws.sum))).length < sizeLine := by
                  rw [iL_len]
                  refine Nat.lt_of_le_of_lt (Nat.le_trans (List.length_filter_le _ _) (by rw [List.length_take]; exact Nat.min_le_right _ _)) (by rw [offs_len, sizeLine_eq]; omega)
                (repeat array_get_dec)
                refine ite2 (fun z1 => ?_) (fun z1 => ?_)
                · (repeat array_get_dec)
                  refine ite2 (fun z2 => ?_) (fun z2 => ?_)
                  · have z2' : decide (a < ws.sum) = false := by simpa using z2
                    (repeat array_get_dec)
                    exact ⟨by rw [upd_same, filt_yes ha (by unfold farB; rw [z2', Bool.and_false]; rfl)], fun b o nb e => by rw [upd_ne nb]; exact m2 b o nb e⟩
                  · have z2' : decide (a < ws.sum) = true := by simpa using z2
                    (repeat array_get_dec)
                    exact ⟨by rw [m1, filt_no ha (by unfold farB; rw [z1, z2']; rfl)], m2⟩
                · have z1' : decide (-ws.sum < a) = false := by simpa using z1
                  (repeat array_get_dec)
                  exact ⟨by rw [upd_same, filt_yes ha (by unfold farB; rw [z1', Bool.false_and]; rfl)], fun b o nb e => by rw [upd_ne nb]; exact m2 b o nb e⟩
              · rintro H3 ⟨m1, m2⟩
                rw [iL_len, List.take_length] at m1
                have sm : Same H H3 := fun b o e => by
                  have e1 := s1 _ _ e
                  have e2 := h2 b o (ne_of_none e1 hA) e1
                  have e3 := k2 b o (ne_of_none e2 hB) e2
                  exact m2 b o (ne_of_none e3 hC) e3
                have hB3 := m2 _ _ (ne_of_none k1' hC) k1'
                (repeat array_get_dec)
                rw [far_filt]
                have lo : 0 < (offs x ws l).length := by rw [offs_len]; omega
                cases hf : (offs x ws l).all fun a => decide (-ws.sum < a) && decide (a < ws.sum) with
                | false =>
                  (repeat array_get_dec)
                  have e : judB x ws l = false := by unfold judB; rw [hf, Bool.and_false]; rfl
                  rw [e] at q
                  exact q _ sm
                | true =>
                  (repeat array_get_dec)
                  refine ⟨B, offs x ws l, rfl, SqL.of hB3, lo, fun mx hm1 hm2 => ?_⟩
                  (repeat array_get_dec)
                  refine ⟨B, offs x ws l, rfl, SqL.of hB3, lo, fun mn hn1 hn2 => ?_⟩
                  (repeat array_get_dec)
                  have e : judB x ws l = decide (mx - mn ≤ ws.sum) := by
                    unfold judB
                    rw [hf, hal, decide_eq_true c1', decide_eq_true c2', close_max hm1 hm2 hn1 hn2]
                    rfl
                  rw [e] at q
                  exact q _ sm
theorem ok__law_good (M : Nms K mg) : FnOk P w K mg base CX0 1 M.a__law_good M.d__law_good ["amount", "weights", "told"] spGood := by
  refine M.F__law_good.ok sc__law_good (fun vs H Q E h => ?_) (fun cdv A outer s H vs Q E hr h => ?_)
  · obtain ⟨x, t, u, ws, l, rfl, _⟩ := h
    rfl
  · refine ⟨_, (pss_cons (ps_set (i := 3) sc__law_good.nd rfl (Or.inr rfl) (pe_callB (cr_sum rfl) (by rfl) M.T.b_sum (by decide +kernel) (pa_cons (pv 1) pa_nil)))
    (pss_cons (ps_if (PW.pt (pw_or (pt_cmpR op_ne (pe_callB call_len (by rfl) M.T.b_len (by decide +kernel) (pa_cons (pv 2) pa_nil)) (pe_callB call_len (by rfl) M.T.b_len (by decide +kernel) (pa_cons (pv 1) pa_nil)) (nomark _)) (pw_or (pt_cmpR op_gt (pe_callB call_len (by rfl) M.T.b_len (by decide +kernel) (pa_cons (pe_lc (own := [("one", 4)]) rfl sc__law_good.nd (pi_list (pv 2)) (blkOk_by (N := ["amount", "weights", "told", "every", "one", "off", "at"]) (sc := defScope s__law_good) (own := [("one", 4)]) (by decide +kernel)) (fun _ _ _ _ _ => (pg_name (i := 4) sc__law_good.nd rfl (Or.inl rfl))) (fun _ _ _ _ _ => pts_one (pt_val (pe_callB (r := rIsi K) call_isi (by rfl) M.T.b_isinstance (by decide +kernel) (pa_cons (pv 4) (pa_cons (pe_bltn (v := .ty "bool") (u := .type "bool") (by rfl) M.T.b_bool (by decide +kernel) rfl) pa_nil))))) (fun _ _ _ _ _ => (pv 4))) pa_nil)) pe_int (nomark _)) (pw_or1 (pt_cmpR op_ne (pe_callB (cr_sum rfl) (by rfl) M.T.b_sum (by decide +kernel) (pa_cons (pv 2) pa_nil)) (pv 0) (nomark _)))))) (pss_one (ps_ret pe_bl)) pss_nil)
    (pss_cons (ps_setLc (i := 5) (own := [("at", 6)]) rfl sc__law_good.nd rfl rfl (sw_true rfl rfl rfl (by decide +kernel)) (pi_range1 (by rfl) M.T.b_range (pa_cons (pe_callB call_len (by rfl) M.T.b_len (by decide +kernel) (pa_cons (pv 2) pa_nil)) pa_nil)) (blkOk_by (N := ["amount", "weights", "told", "every", "one", "off", "at"]) (sc := defScope s__law_good) (own := [("at", 6)]) (by decide +kernel)) (fun _ _ _ _ _ => (pg_name (i := 6) sc__law_good.nd rfl (Or.inl rfl))) (fun _ _ _ _ _ => pts_nil) (fun _ _ _ _ _ => (pe_op op_sub (pe_op op_mul (pe_ix (r := rIxL K) ix_list (pv 2) (pv 6) (fun _ _ => rfl)) (pv 3)) (pe_op op_mul (pv 0) (pe_ix (r := rIxL K) ix_list (pv 1) (pv 6) (fun _ _ => rfl))))))
    (pss_one (ps_ret (pe_and (pe_cmpR op_lt (pe_callB (cr_max rfl) (by rfl) M.T.b_max (by decide +kernel) (pa_cons (pv 5) pa_nil)) (pv 3) (nomark _)) (pe_and (pe_cmpR op_gt (pe_callB (cr_min rfl) (by rfl) M.T.b_min (by decide +kernel) (pa_cons (pv 5) pa_nil)) (pe_op op_sub pe_int (pv 3)) (nomark _)) (pe_one (pe_cmpR op_le (pe_op op_sub (pe_callB (cr_max rfl) (by rfl) M.T.b_max (by decide +kernel) (pa_cons (pv 5) pa_nil)) (pe_callB (cr_min rfl) (by rfl) M.T.b_min (by decide +kernel) (pa_cons (pv 5) pa_nil))) (pv 3) (nomark _)))))))))), ?_⟩
    try dsimp only [cxOf, Cx.nox]
    obtain ⟨x, t, u, ws, l, rfl, x0, x1, ht, hg, hu, hl, hy, q⟩ := h
    refine w_start (σ' := [some (.int x), some (.ref t), some (.ref u), none, none, none, none]) rfl ?_
    obtain ⟨hs, hs2⟩ := goodW_sum hg
    have g2 := hg.2.1
    have g1 := hg.1
    (repeat array_get_dec)
    refine ⟨t, ws, rfl, SqL.of ht, ?_⟩
    (repeat array_get_dec)
    rw [iL_len, iL_len]
    refine ite2 (fun c1 => ?_) (fun c1 => ?_)
    · have c1' : l.length ≠ ws.length := fun z => by rw [z, decide_eq_true rfl] at c1; cases c1
      (repeat array_get_dec)
      have e : gooB x ws l = false := by unfold gooB; rw [decide_eq_false c1']; rfl
      rw [e] at q
      exact q _ (Same.refl _)
    · have c1' : l.length = ws.length := by
        by_cases z : l.length = ws.length
        · exact z
        · exact absurd (by rw [decide_eq_false fun w => z (by have := V.int.inj w; omega)]; rfl) c1
      (repeat array_get_dec)
      intro A hA
      refine lc_list (K := K) (a := u) (xs := iL l) (fun i H' => H' A = some (.lst []) ∧ ∀ b o, b ≠ A → H b = some o → H' b = some o) ⟨upd_same, fun b o nb e => by rw [upd_ne nb]; exact e⟩ ?_ ?_ ?_
      · rintro i H' _ ⟨h1, h2⟩
        exact SqL.of (h2 _ _ (ne_of_none hu hA) hu)
      · rintro i y H' hy2 ⟨h1, h2⟩
        obtain ⟨a, ha, rfl⟩ := iL_get hy2
        (repeat array_get_dec)
        exact ⟨h1, h2⟩
      · rintro H' ⟨h1, h2⟩
        have hu2 := h2 _ _ (ne_of_none hu hA) hu
        have hp2 := h2 _ _ (ne_of_none ht hA) ht
        (repeat array_get_dec)
        (repeat array_get_dec)
        refine ⟨u, l, rfl, SqL.of hu2, ?_⟩
        (repeat array_get_dec)
        refine ite2 (fun c2 => ?_) (fun c2 => ?_)
        · have c2' : l.sum ≠ x := fun z => by rw [z, decide_eq_true rfl] at c2; cases c2
          (repeat array_get_dec)
          have e : gooB x ws l = false := by unfold gooB; rw [decide_eq_false c2', Bool.and_false]; rfl
          rw [e] at q
          exact q _ fun b o e => h2 b o (ne_of_none e hA) e
        · have c2' : l.sum = x := by
            by_cases z : l.sum = x
            · exact z
            · exact absurd (by rw [decide_eq_false fun w => z (V.int.inj w)]; rfl) c2
          (repeat array_get_dec)
          rw [iL_len]
          refine w_rng1 (by omega) (by omega) ?_
          (repeat array_get_dec)
          intro B hB
          refine lc_range (fun i H2 => H2 B = some (.lst (iL ((offs x ws l).take i))) ∧ ∀ b o, b ≠ B → H' b = some o → H2 b = some o) ⟨upd_same, fun b o nb e => by rw [upd_ne nb]; exact e⟩ ?_ ?_
          · rintro i H2 hi ⟨k1, k2⟩
            have hi' : i < ws.length := by omega
            have hu3 := k2 _ _ (ne_of_none hu2 hB) hu2
            have hp3 := k2 _ _ (ne_of_none hp2 hB) hp2
            have a1 : atI (iL l) (0 + (i : Int)) = some (V.int (l.getD i 0)) := by rw [Int.zero_add]; exact iL_at (by omega)
            have a2 : atI (iL ws) (0 + (i : Int)) = some (V.int (ws.getD i 0)) := by rw [Int.zero_add]; exact iL_at hi'
            have lz : (iL ((offs x ws l).take i)).length < sizeLine := by rw [iL_len, List.length_take, offs_len, sizeLine_eq]; omega
            have g3 := getD_le hy (by omega) i
            have g4 := getD_le hg.2.2.1 (by omega) i
            (repeat array_get_dec)
            refine w_rI (.inl ⟨by omega, by omega⟩) ?_
            (repeat array_get_dec)
            refine w_rI (.inl ⟨by omega, by omega⟩) ?_
            (repeat array_get_dec)
            exact ⟨by rw [upd_same, offs_snoc hi'], fun b o nb e => by rw [upd_ne nb]; exact k2 b o nb e⟩
          · rintro H2 ⟨k1, k2⟩
            have k1' : H2 B = some (.lst (iL (offs x ws l))) := k1.trans (by rw [List.take_of_length_le (by rw [offs_len]; omega)])
            have lo : 0 < (offs x ws l).length := by rw [offs_len]; omega
            have sm : Same H H2 := fun b o e => by
              have e2 := h2 b o (ne_of_none e hA) e
              exact k2 b o (ne_of_none e2 hB) e2
            (repeat array_get_dec)
            refine ⟨B, offs x ws l, rfl, SqL.of k1', lo, fun mx hm1 hm2 => ?_⟩
            (repeat array_get_dec)
            have em : ((offs x ws l).all fun a => decide (a < ws.sum)) = decide (mx < ws.sum) := by
              rw [Bool.eq_iff_iff, List.all_eq_true, decide_eq_true_eq]
              constructor
              · exact fun h => of_decide_eq_true (h mx hm1)
              · exact fun h a m => decide_eq_true (by have := hm2 a m; omega)
            refine ite2 (fun z1 => ?_) (fun z1 => ?_)
            · (repeat array_get_dec)
              refine ⟨B, offs x ws l, rfl, SqL.of k1', lo, fun mn hn1 hn2 => ?_⟩
              (repeat array_get_dec)
              have en : ((offs x ws l).all fun a => decide (-ws.sum < a)) = decide (-ws.sum < mn) := by
                rw [Bool.eq_iff_iff, List.all_eq_true, decide_eq_true_eq]
                constructor
                · exact fun h => of_decide_eq_true (h mn hn1)
                · exact fun h a m => decide_eq_true (by have := hn2 a m; omega)
              refine ite2 (fun z2 => ?_) (fun z2 => ?_)
              · (repeat array_get_dec)
                refine ⟨B, offs x ws l, rfl, SqL.of k1', lo, fun ma ha1 ha2 => ?_⟩
                (repeat array_get_dec)
                refine ⟨B, offs x ws l, rfl, SqL.of k1', lo, fun mi hi1 hi2 => ?_⟩
                (repeat array_get_dec)
                have e : gooB x ws l = decide (ma - mi ≤ ws.sum) := by
                  have z1' : decide (mx < ws.sum) = true := by simpa using z1
                  have z2' : decide (-ws.sum < mn) = true := by simpa using z2
                  unfold gooB
                  rw [em, en, z1', z2', decide_eq_true c1', decide_eq_true c2', close_max ha1 ha2 hi1 hi2]
                  rfl
                rw [e] at q
                exact q _ sm
              · (repeat array_get_dec)
                have e : gooB x ws l = false := by
                  have z2' : decide (-ws.sum < mn) = false := by simpa using z2
                  unfold gooB
                  rw [en, z2', Bool.and_false, Bool.and_false]; rfl
                rw [e] at q
                exact q _ sm
            · have e : gooB x ws l = false := by unfold gooB; rw [em, show decide (mx < ws.sum) = false from by simpa using z1, Bool.false_and, Bool.and_false]; rfl
              (repeat array_get_dec)
              rw [e] at q
              exact q _ sm
end
end K78

namespace K78
open PySem PySem.Spec PyProof.Rows L2
/-! ### rates, plainly -/
structure Row where
  a : Nat
  b : Nat
  day : Int
  n : Int
  d : Int
theorem Row.ext2 {p q : Row} (h1 : p.a = q.a) (h2 : p.b = q.b) (h3 : p.day = q.day) (h4 : p.n = q.n) (h5 : p.d = q.d) : p = q := by
  cases p; cases q; cases h1; cases h2; cases h3; cases h4; cases h5; rfl
def encR (r : Row) : PyData := .tuple [.str (mkS [r.a]), .str (mkS [r.b]), .int r.day, .tuple [.int r.n, .int r.d]]
def leR : Row → Row → Bool := PySem.W.dataLe false encR
theorem encR_toks {p q : Row} (h : PySem.W.keyToks (encR p) = PySem.W.keyToks (encR q)) : p = q := by
  have e : ∀ r : Row, PySem.W.keyToks (encR r) = [.inl 1, .inr [r.a], .inl 1, .inr [r.b], .inl 1, .inl r.day, .inl 1, .inl 1, .inl r.n, .inl 1, .inl r.d, .inl 0, .inl 0] := fun r => by
    unfold encR
    simp [PySem.W.keyToks, PySem.W.keyToksAll]
  rw [e, e] at h
  simp at h
  exact Row.ext2 h.1 h.2.1 h.2.2.1 h.2.2.2.1 h.2.2.2.2
theorem leR_total : PySem.W.TotalLe leR := by
  unfold leR PySem.W.dataLe
  exact PySem.W.sortLe_total _ _ _
theorem leR_anti {p q : Row} (h1 : leR p q = true) (h2 : leR q p = true) : p = q := by
  have h1' : (!(PyProof.Rows.listOrd PyProof.Rows.itemOrd).blt (PySem.W.keyToks (encR q)) (PySem.W.keyToks (encR p))) = true := h1
  have h2' : (!(PyProof.Rows.listOrd PyProof.Rows.itemOrd).blt (PySem.W.keyToks (encR p)) (PySem.W.keyToks (encR q))) = true := h2
  rw [Bool.not_eq_true'] at h1' h2'
  exact encR_toks ((PyProof.Rows.listOrd PyProof.Rows.itemOrd).total _ _ h2' h1')
def srt (L : List Row) : List Row := L.mergeSort leR
theorem srt_perm (L : List Row) : (srt L).Perm L := List.mergeSort_perm _ _
theorem srt_same {L M : List Row} (h : L.Perm M) : srt L = srt M :=
  List.Perm.eq_of_pairwise (fun a b _ _ h1 h2 => leR_anti h1 h2) (PySem.W.sort_pairwise leR_total L) (PySem.W.sort_pairwise leR_total M) (((srt_perm L).trans h).trans (srt_perm M).symm)
def sameK (p : Row) (x y : Nat) (day : Int) : Bool := decide (p.a = x) && (decide (p.b = y) && decide (p.day = day))
def putR (L : List Row) (r : Row) : List Row := (L.filter fun p => !sameK p r.a r.b r.day) ++ [r]
theorem put_srt (L : List Row) (r : Row) : srt ((srt L).filter (fun p => !sameK p r.a r.b r.day) ++ [r]) = srt (putR L r) :=
  srt_same (((srt_perm L).filter _).append_right _)
/-- no two rows of one key -/
def keysN (L : List Row) : Prop := ∀ p ∈ L, ∀ q ∈ L, p.a = q.a → p.b = q.b → p.day = q.day → p = q
theorem keysN_nil : keysN [] := fun p h => by simp at h
theorem keysN_put {L : List Row} (h : keysN L) (r : Row) : keysN (putR L r) := by
  have no : ∀ p ∈ L.filter (fun p => !sameK p r.a r.b r.day), p.a = r.a → p.b = r.b → p.day = r.day → False := fun p m h1 h2 h3 => by
    have := (List.mem_filter.mp m).2
    unfold sameK at this
    rw [h1, h2, h3] at this
    simp at this
  intro p mp q mq h1 h2 h3
  rcases List.mem_append.mp mp with m1 | m1 <;> rcases List.mem_append.mp mq with m2 | m2
  · exact h p (List.mem_filter.mp m1).1 q (List.mem_filter.mp m2).1 h1 h2 h3
  · rw [List.mem_singleton.mp m2] at h1 h2 h3
    exact (no p m1 h1 h2 h3).elim
  · rw [List.mem_singleton.mp m1] at h1 h2 h3
    exact (no q m2 h1.symm h2.symm h3.symm).elim
  · rw [List.mem_singleton.mp m1, List.mem_singleton.mp m2]
theorem put_len (L : List Row) (r : Row) : (putR L r).length ≤ L.length + 1 := by
  unfold putR
  rw [List.length_append, List.length_singleton]
  have := List.length_filter_le (fun p => !sameK p r.a r.b r.day) L
  omega
/-! what a day's rate is -/
structure Cnd where
  day : Int
  f : Int
  n : Int
  d : Int
def encC (c : Cnd) : PyData := .tuple [.int c.day, .int c.f, .tuple [.int c.n, .int c.d]]
def isK (p : Row) (x y : Nat) : Bool := decide (p.a = x) && decide (p.b = y)
def fwd (p : Row) : Cnd := ⟨p.day, 1, p.n, p.d⟩
def bwd (p : Row) : Cnd := ⟨p.day, 0, p.d, p.n⟩
def cnds (L : List Row) (x y : Nat) (day : Int) : List Cnd := (((L.filter fun p => decide (p.day ≤ day)).filter fun p => isK p x y).map fwd) ++ (((L.filter fun p => decide (p.day ≤ day)).filter fun p => isK p y x).map bwd)
def ltC (c e : Cnd) : Prop := c.day < e.day ∨ (c.day = e.day ∧ c.f < e.f)
theorem ltC_val (c e : Cnd) : ∃ r : Bool, PySem.W.dataLt (encC c) (encC e) = if c.day = e.day then (if c.f = e.f then r else decide (c.f < e.f)) else decide (c.day < e.day) := by
  unfold encC
  rw [PySem.W.dataLt_tuple, PySem.W.dataLt_cons (by simp [PySem.W.alike]), PySem.W.dataLt_cons (by simp [PySem.W.alike]), PySem.W.dataLt_int, PySem.W.dataLt_int]
  simp only [PyData.eqv, beq_iff_eq]
  exact ⟨_, rfl⟩
theorem ltC_data {c e : Cnd} (h : ltC c e) : PySem.W.dataLt (encC c) (encC e) = true ∧ PySem.W.dataLt (encC e) (encC c) = false := by
  obtain ⟨r1, e1⟩ := ltC_val c e
  obtain ⟨r2, e2⟩ := ltC_val e c
  rw [e1, e2]
  rcases h with h | ⟨h, h'⟩
  · rw [if_neg (by omega), if_neg (by omega)]
    exact ⟨decide_eq_true h, decide_eq_false (by omega)⟩
  · rw [if_pos h, if_pos h.symm, if_neg (by omega), if_neg (by omega)]
    exact ⟨decide_eq_true h', decide_eq_false (by omega)⟩
theorem foldmax {C : PyData} : ∀ (l : List PyData) (x : PyData), C ∈ x :: l → (∀ z ∈ x :: l, z ≠ C → PySem.W.dataLt z C = true ∧ PySem.W.dataLt C z = false) → l.foldl (fun a y => if PySem.W.dataLt a y = true then y else a) x = C
  | [], x, m, _ => (List.mem_singleton.mp m).symm
  | y :: l, x, m, h => by
    rw [List.foldl_cons]
    have hx := h x (List.mem_cons_self ..)
    have hy := h y (List.mem_cons_of_mem _ (List.mem_cons_self ..))
    by_cases q : PySem.W.dataLt x y = true
    · rw [if_pos q]
      refine foldmax l y ?_ fun z mz => h z (List.mem_cons_of_mem _ mz)
      rcases List.mem_cons.mp m with e | m
      · by_cases e2 : y = C
        · rw [e2]; exact List.mem_cons_self ..
        · have := (hy e2).2
          rw [e, q] at this
          cases this
      · exact m
    · rw [if_neg q]
      refine foldmax l x ?_ fun z mz => h z (by rcases List.mem_cons.mp mz with e | mz; rw [e]; exact List.mem_cons_self ..; exact List.mem_cons_of_mem _ (List.mem_cons_of_mem _ mz))
      rcases List.mem_cons.mp m with e | m
      · rw [e]; exact List.mem_cons_self ..
      · rcases List.mem_cons.mp m with e | m
        · by_cases e2 : x = C
          · rw [e2]; exact List.mem_cons_self ..
          · have := (hx e2).1
            rw [e] at this
            exact absurd this q
        · exact List.mem_cons_of_mem _ m
/-- the greatest of the candidates -/
def topC (C : List Cnd) (c : Cnd) : Prop := c ∈ C ∧ ∀ e ∈ C, e = c ∨ ltC e c
theorem top_max {x : Cnd} {l : List Cnd} {c : Cnd} (h : topC (x :: l) c) : PySem.W.maxD (encC x) (l.map encC) = encC c := by
  refine foldmax (l.map encC) (encC x) ?_ ?_
  · rw [← List.map_cons]
    exact List.mem_map.mpr ⟨c, h.1, rfl⟩
  · intro z mz nz
    rw [← List.map_cons] at mz
    obtain ⟨e, me, rfl⟩ := List.mem_map.mp mz
    rcases h.2 e me with q | q
    · rw [q] at nz; exact absurd rfl nz
    · exact ltC_data q
theorem cnds_perm {L M : List Row} (h : L.Perm M) (x y : Nat) (day : Int) : (cnds L x y day).Perm (cnds M x y day) :=
  (((h.filter _).filter _).map _).append (((h.filter _).filter _).map _)
theorem top_perm {C D : List Cnd} (h : C.Perm D) {c : Cnd} (t : topC C c) : topC D c := ⟨h.mem_iff.mp t.1, fun e m => t.2 e (h.mem_iff.mpr m)⟩
/-! the law's own reckoning -/
abbrev Best := Option (Int × Int × Int)
def s1 (x y : Nat) (day : Int) (b : Best) (p : Row) : Best := if decide (p.day ≤ day) && (isK p x y && (match b with | none => true | some c => decide (p.day ≥ c.1))) then some (p.day, p.n, p.d) else b
def s2 (x y : Nat) (day : Int) (b : Best) (p : Row) : Best := if decide (p.day ≤ day) && (isK p y x && (match b with | none => true | some c => decide (p.day > c.1))) then some (p.day, p.d, p.n) else b
def best1 (L : List Row) (x y : Nat) (day : Int) : Best := L.foldl (s1 x y day) none
def best2 (L : List Row) (x y : Nat) (day : Int) : Best := L.foldl (s2 x y day) (best1 L x y day)
def isB (C : List Cnd) (b : Best) : Prop := match b with | none => C = [] | some c => ∃ f, topC C ⟨c.1, f, c.2.1, c.2.2⟩
def fws (L : List Row) (x y : Nat) (day : Int) : List Cnd := ((L.filter fun p => decide (p.day ≤ day)).filter fun p => isK p x y).map fwd
def bws (L : List Row) (x y : Nat) (day : Int) : List Cnd := ((L.filter fun p => decide (p.day ≤ day)).filter fun p => isK p y x).map bwd
theorem mem_fws {L : List Row} {x y : Nat} {day : Int} {c : Cnd} : c ∈ fws L x y day ↔ ∃ p ∈ L, p.day ≤ day ∧ (p.a = x ∧ p.b = y) ∧ c = fwd p := by
  unfold fws isK
  simp only [List.mem_map, List.mem_filter, Bool.and_eq_true, decide_eq_true_eq]
  constructor
  · rintro ⟨p, ⟨⟨m, h⟩, k⟩, rfl⟩
    exact ⟨p, m, h, k, rfl⟩
  · rintro ⟨p, m, h, k, rfl⟩
    exact ⟨p, ⟨⟨m, h⟩, k⟩, rfl⟩
theorem mem_bws {L : List Row} {x y : Nat} {day : Int} {c : Cnd} : c ∈ bws L x y day ↔ ∃ p ∈ L, p.day ≤ day ∧ (p.a = y ∧ p.b = x) ∧ c = bwd p := by
  unfold bws isK
  simp only [List.mem_map, List.mem_filter, Bool.and_eq_true, decide_eq_true_eq]
  constructor
  · rintro ⟨p, ⟨⟨m, h⟩, k⟩, rfl⟩
    exact ⟨p, m, h, k, rfl⟩
  · rintro ⟨p, m, h, k, rfl⟩
    exact ⟨p, ⟨⟨m, h⟩, k⟩, rfl⟩
/-- what both loops know: the best of what they have seen -/
def inv1 (L : List Row) (x y : Nat) (day : Int) (b : Best) : Prop := match b with
  | none => ∀ p ∈ L, p.day ≤ day → ¬ (p.a = x ∧ p.b = y)
  | some c => (∃ p ∈ L, p.day ≤ day ∧ (p.a = x ∧ p.b = y) ∧ c = (p.day, p.n, p.d)) ∧ ∀ p ∈ L, p.day ≤ day → (p.a = x ∧ p.b = y) → p.day ≤ c.1
theorem inv1_step {L : List Row} {x y : Nat} {day : Int} {b : Best} {p : Row} (h : inv1 L x y day b) : inv1 (L ++ [p]) x y day (s1 x y day b p) := by
  unfold s1
  cases b with
  | none =>
    by_cases q : p.day ≤ day ∧ p.a = x ∧ p.b = y
    · rw [if_pos (by simp [isK, q.1, q.2.1, q.2.2])]
      refine ⟨⟨p, by simp, q.1, q.2, rfl⟩, fun r m h1 h2 => ?_⟩
      rcases List.mem_append.mp m with m | m
      · exact absurd h2 (h r m h1)
      · rw [List.mem_singleton.mp m]; exact Int.le_refl _
    · rw [if_neg (by simp [isK]; intro a1 a2 a3; exact q ⟨a1, a2, a3⟩)]
      intro r m h1 h2
      rcases List.mem_append.mp m with m | m
      · exact h r m h1 h2
      · rw [List.mem_singleton.mp m] at h1 h2
        exact q ⟨h1, h2⟩
  | some c =>
    obtain ⟨⟨w, mw, w1, w2, w3⟩, hm⟩ := h
    by_cases q : p.day ≤ day ∧ (p.a = x ∧ p.b = y) ∧ c.1 ≤ p.day
    · rw [if_pos (by simp [isK, q.1, q.2.1.1, q.2.1.2]; exact q.2.2)]
      refine ⟨⟨p, by simp, q.1, q.2.1, rfl⟩, fun r m h1 h2 => ?_⟩
      rcases List.mem_append.mp m with m | m
      · exact Int.le_trans (hm r m h1 h2) q.2.2
      · rw [List.mem_singleton.mp m]; exact Int.le_refl _
    · rw [if_neg (by simp [isK]; intro a1 a2 a3; exact Int.not_le.mp fun a4 => q ⟨a1, ⟨a2, a3⟩, a4⟩)]
      refine ⟨⟨w, List.mem_append_left _ mw, w1, w2, w3⟩, fun r m h1 h2 => ?_⟩
      rcases List.mem_append.mp m with m | m
      · exact hm r m h1 h2
      · rw [List.mem_singleton.mp m] at h1 h2 ⊢
        by_cases z : c.1 ≤ p.day
        · exact absurd ⟨h1, h2, z⟩ q
        · omega
theorem inv1_all (L : List Row) (x y : Nat) (day : Int) : inv1 L x y day (best1 L x y day) := by
  have key : ∀ (M N : List Row) (b : Best), inv1 N x y day b → inv1 (N ++ M) x y day (M.foldl (s1 x y day) b) := by
    intro M
    induction M with
    | nil => intro N b h; rw [List.append_nil]; exact h
    | cons p M ih =>
      intro N b h
      rw [List.foldl_cons, show N ++ p :: M = (N ++ [p]) ++ M by simp]
      exact ih _ _ (inv1_step h)
  exact key L [] none fun p m => by simp at m
def inv2 (A L : List Row) (x y : Nat) (day : Int) (b : Best) : Prop := match b with
  | none => (∀ p ∈ A, p.day ≤ day → ¬ (p.a = x ∧ p.b = y)) ∧ ∀ p ∈ L, p.day ≤ day → ¬ (p.a = y ∧ p.b = x)
  | some c => ((∃ p ∈ A, p.day ≤ day ∧ (p.a = x ∧ p.b = y) ∧ c = (p.day, p.n, p.d)) ∧ (∀ p ∈ A, p.day ≤ day → (p.a = x ∧ p.b = y) → p.day ≤ c.1) ∧ ∀ p ∈ L, p.day ≤ day → (p.a = y ∧ p.b = x) → p.day ≤ c.1) ∨
    ((∃ p ∈ L, p.day ≤ day ∧ (p.a = y ∧ p.b = x) ∧ c = (p.day, p.d, p.n)) ∧ (∀ p ∈ A, p.day ≤ day → (p.a = x ∧ p.b = y) → p.day < c.1) ∧ ∀ p ∈ L, p.day ≤ day → (p.a = y ∧ p.b = x) → p.day ≤ c.1)
theorem inv2_step {A L : List Row} {x y : Nat} {day : Int} {b : Best} {p : Row} (h : inv2 A L x y day b) : inv2 A (L ++ [p]) x y day (s2 x y day b p) := by
  unfold s2
  cases b with
  | none =>
    by_cases q : p.day ≤ day ∧ p.a = y ∧ p.b = x
    · rw [if_pos (by simp [isK, q.1, q.2.1, q.2.2])]
      refine .inr ⟨⟨p, by simp, q.1, q.2, rfl⟩, fun r m h1 h2 => absurd h2 (h.1 r m h1), fun r m h1 h2 => ?_⟩
      rcases List.mem_append.mp m with m | m
      · exact absurd h2 (h.2 r m h1)
      · rw [List.mem_singleton.mp m]; exact Int.le_refl _
    · rw [if_neg (by simp [isK]; intro a1 a2 a3; exact q ⟨a1, a2, a3⟩)]
      refine ⟨h.1, fun r m h1 h2 => ?_⟩
      rcases List.mem_append.mp m with m | m
      · exact h.2 r m h1 h2
      · rw [List.mem_singleton.mp m] at h1 h2
        exact q ⟨h1, h2⟩
  | some c =>
    by_cases q : p.day ≤ day ∧ (p.a = y ∧ p.b = x) ∧ c.1 < p.day
    · rw [if_pos (by simp [isK, q.1, q.2.1.1, q.2.1.2]; exact q.2.2)]
      have a1 : ∀ r ∈ A, r.day ≤ day → (r.a = x ∧ r.b = y) → r.day < p.day := fun r m h1 h2 => by
        have := q.2.2
        rcases h with ⟨_, g, _⟩ | ⟨_, g, _⟩ <;> (have := g r m h1 h2; omega)
      have a2 : ∀ r ∈ L, r.day ≤ day → (r.a = y ∧ r.b = x) → r.day ≤ c.1 := fun r m h1 h2 => by
        rcases h with ⟨_, _, g⟩ | ⟨_, _, g⟩ <;> exact g r m h1 h2
      refine .inr ⟨⟨p, by simp, q.1, q.2.1, rfl⟩, a1, fun r m h1 h2 => ?_⟩
      rcases List.mem_append.mp m with m | m
      · have := a2 r m h1 h2
        have := q.2.2
        show r.day ≤ p.day
        omega
      · rw [List.mem_singleton.mp m]; exact Int.le_refl _
    · rw [if_neg (by simp [isK]; intro a1 a2 a3; exact Int.not_lt.mp fun a4 => q ⟨a1, ⟨a2, a3⟩, a4⟩)]
      have a2 : ∀ r ∈ L ++ [p], (∀ r ∈ L, r.day ≤ day → (r.a = y ∧ r.b = x) → r.day ≤ c.1) → r.day ≤ day → (r.a = y ∧ r.b = x) → r.day ≤ c.1 := fun r m g h1 h2 => by
        rcases List.mem_append.mp m with m | m
        · exact g r m h1 h2
        · rw [List.mem_singleton.mp m] at h1 h2 ⊢
          by_cases z : c.1 < p.day
          · exact absurd ⟨h1, h2, z⟩ q
          · omega
      rcases h with ⟨g1, g2, g3⟩ | ⟨⟨w, mw, w1⟩, g2, g3⟩
      · exact .inl ⟨g1, g2, fun r m => a2 r m g3⟩
      · exact .inr ⟨⟨w, List.mem_append_left _ mw, w1⟩, g2, fun r m => a2 r m g3⟩
theorem inv2_all (L : List Row) (x y : Nat) (day : Int) : inv2 L L x y day (best2 L x y day) := by
  have key : ∀ (M N : List Row) (b : Best), inv2 L N x y day b → inv2 L (N ++ M) x y day (M.foldl (s2 x y day) b) := by
    intro M
    induction M with
    | nil => intro N b h; rw [List.append_nil]; exact h
    | cons p M ih =>
      intro N b h
      rw [List.foldl_cons, show N ++ p :: M = (N ++ [p]) ++ M by simp]
      exact ih _ _ (inv2_step h)
  have h1 := inv1_all L x y day
  refine key L [] _ ?_
  cases e : best1 L x y day with
  | none => rw [e] at h1; exact ⟨h1, fun p m => by simp at m⟩
  | some c => rw [e] at h1; exact .inl ⟨h1.1, h1.2, fun p m => by simp at m⟩
/-- what the law's two loops come to is the greatest candidate -/
theorem best_top {L : List Row} {x y : Nat} {day : Int} (k : keysN L) : isB (cnds L x y day) (best2 L x y day) := by
  have h := inv2_all L x y day
  have mm : ∀ e, e ∈ cnds L x y day ↔ e ∈ fws L x y day ∨ e ∈ bws L x y day := fun e => List.mem_append
  cases e : best2 L x y day with
  | none =>
    rw [e] at h
    show cnds L x y day = []
    refine List.eq_nil_iff_forall_not_mem.mpr fun c m => ?_
    rcases (mm c).mp m with m | m
    · obtain ⟨p, mp, h1, h2, _⟩ := mem_fws.mp m
      exact h.1 p mp h1 h2
    · obtain ⟨p, mp, h1, h2, _⟩ := mem_bws.mp m
      exact h.2 p mp h1 h2
  | some c =>
    rw [e] at h
    rcases h with ⟨⟨p, mp, p1, p2, rfl⟩, g2, g3⟩ | ⟨⟨p, mp, p1, p2, rfl⟩, g2, g3⟩
    · refine ⟨1, (mm _).mpr (.inl (mem_fws.mpr ⟨p, mp, p1, p2, rfl⟩)), fun e m => ?_⟩
      rcases (mm e).mp m with m | m
      · obtain ⟨r, mr, r1, r2, rfl⟩ := mem_fws.mp m
        rcases Int.lt_or_eq_of_le (g2 r mr r1 r2) with z | z
        · exact .inr (.inl z)
        · rw [k r mr p mp (r2.1.trans p2.1.symm) (r2.2.trans p2.2.symm) z]
          exact .inl rfl
      · obtain ⟨r, mr, r1, r2, rfl⟩ := mem_bws.mp m
        rcases Int.lt_or_eq_of_le (g3 r mr r1 r2) with z | z
        · exact .inr (.inl z)
        · exact .inr (.inr ⟨z, show (0 : Int) < 1 by decide⟩)
    · refine ⟨0, (mm _).mpr (.inr (mem_bws.mpr ⟨p, mp, p1, p2, rfl⟩)), fun e m => ?_⟩
      rcases (mm e).mp m with m | m
      · obtain ⟨r, mr, r1, r2, rfl⟩ := mem_fws.mp m
        exact .inr (.inl (g2 r mr r1 r2))
      · obtain ⟨r, mr, r1, r2, rfl⟩ := mem_bws.mp m
        rcases Int.lt_or_eq_of_le (g3 r mr r1 r2) with z | z
        · exact .inr (.inl z)
        · rw [k r mr p mp (r2.1.trans p2.1.symm) (r2.2.trans p2.2.symm) z]
          exact .inl rfl
theorem isB_perm {C D : List Cnd} (h : C.Perm D) {b : Best} (t : isB C b) : isB D b := by
  cases b with
  | none => exact List.Perm.nil_eq (by rw [show C = [] from t] at h; exact h) |>.symm
  | some c =>
    obtain ⟨f, t⟩ := t
    exact ⟨f, top_perm h t⟩
theorem best_srt {L : List Row} {x y : Nat} {day : Int} (k : keysN L) : isB (cnds (srt L) x y day) (best2 L x y day) := isB_perm (cnds_perm (srt_perm L).symm x y day) (best_top k)
end K78

namespace K78
open PySem PySem.Spec PyProof.Rows L2
local macro_rules | `(tactic| array_mem_dec) => `(tactic| first | with_reducible assumption | with_reducible exact upd_same | ((with_reducible apply same_at); (with_reducible assumption); array_mem_dec) | ((with_reducible apply upd_atN); (with_reducible assumption); array_mem_dec) | ((with_reducible apply upd_at); (first | with_reducible assumption | (apply Ne.symm; with_reducible assumption)); array_mem_dec))
local macro_rules | `(tactic| array_get_dec) => `(tactic| first | (with_reducible refine w_seq ?_) | (with_reducible refine w_asg ?_) | (with_reducible refine w_drop ?_) | (with_reducible refine w_ret ?_) | (with_reducible refine w_retN ?_) | (with_reducible refine w_next ?_) | (with_reducible refine w_break ?_) | (with_reducible refine w_cont ?_) | (with_reducible refine w_ifS ?_) | (with_reducible refine w_sub ?_) | (with_reducible refine w_c ?_) | (with_reducible refine w_op ?_) | (with_reducible refine w_un ?_) | (with_reducible refine w_test ?_) | (with_reducible refine w_B ?_) | (with_reducible refine w_yes ?_) | (with_reducible refine w_not ?_) | (with_reducible refine w_and ?_) | (with_reducible refine w_or ?_) | (with_reducible refine w_andV ?_) | (with_reducible refine w_orV ?_) | (with_reducible refine w_notV ?_) | (with_reducible refine w_ifE ?_) | (with_reducible refine w_nil ?_) | (with_reducible refine w_cons ?_) | (with_reducible refine w_call ?_) | (with_reducible refine w_callS ?_) | (with_reducible refine w_cB ?_) | (with_reducible refine w_lst ?_) | (with_reducible refine w_tup ?_) | (with_reducible refine w_sl ?_) | (with_reducible refine w_noPart ?_) | (with_reducible refine w_part ?_) | (with_reducible refine w_bm ?_) | (with_reducible refine w_bm0 ?_) | (with_reducible refine w_strTy ?_) | (with_reducible refine w_bl ?_) | (with_reducible refine w_int1 ?_) | (with_reducible refine w_str1 ?_) | (with_reducible refine w_rI0 ?_) | (with_reducible refine w_rU ?_) | (with_reducible refine w_eqI ?_) | (with_reducible refine w_eqS ?_) | (with_reducible refine w_neI ?_) | (with_reducible refine w_neS ?_) | (with_reducible refine w_bl2 ?_) | (with_reducible refine w_isN ?_) | (with_reducible refine w_for ?_) | (with_reducible refine w_iRng1 ?_) | (with_reducible refine w_iRng2 ?_) | (with_reducible refine w_iList ?_) | (with_reducible refine w_iTup ?_) | (with_reducible refine w_iStr ?_) | (with_reducible refine w_lc ?_) | (with_reducible refine w_M1 ?_) | (with_reducible refine w_M0 ?_) | (with_reducible refine w_isS ?_) | ((with_reducible apply w_name); (simp only [wipe, List.map_cons, List.map_nil, List.foldl_cons, List.foldl_nil, List.set_cons_zero, List.set_cons_succ]; exact rfl)) | ((with_reducible apply w_var); exact rfl) | ((with_reducible apply w_lstTy); array_mem_dec) | ((with_reducible apply w_lenL); array_mem_dec) | ((with_reducible apply w_lenT); array_mem_dec) | ((with_reducible apply w_listOf); array_mem_dec) | ((with_reducible apply w_lenS); (first | (with_reducible assumption) | omega | (rw [sizeLine_eq]; omega))) | ((with_reducible apply w_slS); (first | (with_reducible assumption) | omega | (rw [sizeLine_eq]; omega))) | ((with_reducible apply w_wipe); exact rfl) | ((with_reducible apply w_acc); array_mem_dec; (try (first | (with_reducible assumption) | omega | (rw [sizeLine_eq]; omega)))) | ((with_reducible apply w_itl); array_mem_dec) | ((with_reducible apply w_itt); array_mem_dec) | ((with_reducible apply w_append); array_mem_dec; (try (first | (with_reducible assumption) | omega | (rw [sizeLine_eq]; omega)))) | ((with_reducible apply w_rng1); (first | (with_reducible assumption) | omega); (first | (with_reducible assumption) | omega)) | ((with_reducible apply w_ixL); array_mem_dec; (first | (with_reducible assumption) | exact rfl | (apply atI_nat; (with_reducible assumption)) | exact atI_last _ _)) | ((with_reducible apply w_ixT); array_mem_dec; (first | (with_reducible assumption) | exact rfl | (apply atI_nat; (with_reducible assumption)) | exact atI_last _ _)) | ((with_reducible apply w_iT); first | exact rfl | (with_reducible assumption)) | ((with_reducible apply w_iF); first | exact rfl | (with_reducible assumption)) | ((with_reducible apply w_isiI (b := true)); decide +kernel) | ((with_reducible apply w_isiI (b := false)); decide +kernel) | ((with_reducible apply w_isiB (b := true)); decide +kernel) | ((with_reducible apply w_isiB (b := false)); decide +kernel) | ((with_reducible apply w_isiS (b := true)); decide +kernel) | ((with_reducible apply w_isiS (b := false)); decide +kernel) | ((with_reducible apply w_isiN (b := true)); decide +kernel) | ((with_reducible apply w_isiN (b := false)); decide +kernel) | ((with_reducible apply w_isiL (b := true)); array_mem_dec; decide +kernel) | ((with_reducible apply w_isiL (b := false)); array_mem_dec; decide +kernel) | ((with_reducible apply w_isiT (b := true)); array_mem_dec; decide +kernel) | ((with_reducible apply w_isiT (b := false)); array_mem_dec; decide +kernel) | (with_reducible refine w_notT ?_) | (with_reducible refine w_chain ?_) | ((with_reducible apply w_trL); array_mem_dec) | ((with_reducible apply w_gTup); array_mem_dec; exact rfl) | ((with_reducible apply w_gLst); array_mem_dec; exact rfl) | (with_reducible refine w_gCons ?_) | (with_reducible refine w_gNil ?_) | (with_reducible refine w_Fld ?_) | (with_reducible refine w_sFld ?_) | (with_reducible refine w_dget ?_) | (with_reducible refine w_dIn ?_) | (with_reducible refine w_dNotIn ?_) | (with_reducible refine w_sDPut ?_) | (with_reducible refine w_dnewK ?_) | (with_reducible refine w_meth ?_) | (with_reducible refine w_make ?_) | (with_reducible refine w_methS ?_) | (with_reducible refine w_makeS ?_) | (with_reducible refine w_dpop ?_) | ((with_reducible apply w_fld1); array_mem_dec; (with_reducible assumption); (with_reducible assumption); exact rfl) | ((with_reducible apply w_sfld1); array_mem_dec; (with_reducible assumption); (with_reducible assumption); exact Nat.le_of_ble_eq_true rfl) | ((with_reducible apply w_meth1); array_mem_dec; exact rfl) | ((with_reducible apply w_dgetS); array_mem_dec; (with_reducible assumption)) | ((with_reducible apply w_dgetI); array_mem_dec; (with_reducible assumption)) | ((with_reducible apply w_dinS); array_mem_dec) | ((with_reducible apply w_dputI); array_mem_dec; (try (first | (with_reducible assumption) | omega | (rw [sizeLine_eq]; omega)))) | ((with_reducible apply w_dputS); array_mem_dec; (try (first | (with_reducible assumption) | omega | (rw [sizeLine_eq]; omega)))) | ((with_reducible apply w_isD); array_mem_dec) | ((with_reducible apply w_dictD); array_mem_dec) | ((with_reducible apply w_dpopS); array_mem_dec; (with_reducible assumption)))
/-! ### the class Rates -/
theorem strOk1 {c : Nat} (h : c < 128) : PyData.strOk (mkS [c]) = true := by
  have : c < 1114112 := by omega
  simp [PyData.strOk, mkS, this]
def RowV (H : Hp) (v : V) (r : Row) : Prop := (r.a < 128 ∧ r.b < 128) ∧ ∃ q t, v = .ref q ∧ H q = some (.tup [.str (mkS [r.a]), .str (mkS [r.b]), .int r.day, .ref t]) ∧ H t = some (.tup [.int r.n, .int r.d])
theorem RowV.keep {H H' : Hp} {v : V} {r : Row} (h : RowV H v r) (k : ∀ b xs, H b = some (.tup xs) → H' b = some (.tup xs)) : RowV H' v r := by
  obtain ⟨h0, q, t, e, h1, h2⟩ := h
  exact ⟨h0, q, t, e, k _ _ h1, k _ _ h2⟩
def RowsV (H : Hp) (X : List (V × Row)) : Prop := ∀ b ∈ X, RowV H b.1 b.2
def rF (p : Addr) : List (Str × V) := [("_rows", .ref p)]
def RatesAt (CR : Addr) (H : Hp) (a p : Addr) (L : List Row) : Prop := ∃ dx X, H a = some (.ins CR dx (rF p)) ∧ H p = some (.lst (X.map Prod.fst)) ∧ RowsV H X ∧ X.map Prod.snd = srt L ∧ L.length ≤ 1000
def Fre (a : Addr) (H H' : Hp) : Prop := ∀ b o, b ≠ a → H b = some o → H' b = some o
theorem Fre.tup {a : Addr} {H H' : Hp} (f : Fre a H H') {C dx : Addr} {fs : List (Str × V)} (h : H a = some (.ins C dx fs)) : ∀ b xs, H b = some (.tup xs) → H' b = some (.tup xs) := fun b xs e => f b _ (fun z => by rw [z, h] at e; cases e) e
theorem RatesAt.same {CR : Addr} {H H' : Hp} {a p : Addr} {L : List Row} (h : RatesAt CR H a p L) (s : Same H H') : RatesAt CR H' a p L := by
  obtain ⟨dx, X, h1, h2, h3, h4, h5⟩ := h
  exact ⟨dx, X, s _ _ h1, s _ _ h2, fun b m => (h3 b m).keep fun _ _ e => s _ _ e, h4, h5⟩
theorem eq3 (a b x y : Nat) (i j : Int) : PyData.eqv (.tuple [.str (mkS [a]), .str (mkS [b]), .int i]) (.tuple [.str (mkS [x]), .str (mkS [y]), .int j]) = (decide (a = x) && (decide (b = y) && decide (i = j))) := by
  have e : ∀ u v : Nat, (mkS [u] = mkS [v]) ↔ u = v := fun u v => ⟨fun h => by have := mkS_inj h; simpa using this, fun h => by rw [h]⟩
  rw [Bool.eq_iff_iff]
  simp [PyData.eqv, PyData.eqvAll, e]
theorem eq2 (a b x y : Nat) : PyData.eqv (.tuple [.str (mkS [a]), .str (mkS [b])]) (.tuple [.str (mkS [x]), .str (mkS [y])]) = (decide (a = x) && decide (b = y)) := by
  have e : ∀ u v : Nat, (mkS [u] = mkS [v]) ↔ u = v := fun u v => ⟨fun h => by have := mkS_inj h; simpa using this, fun h => by rw [h]⟩
  rw [Bool.eq_iff_iff]
  simp [PyData.eqv, PyData.eqvAll, e]
section
variable {K : PySem.W.Frag} {H : Hp}
theorem w_sl3 {a : Addr} {v0 v1 v2 v3 : V} {Q : VK} (h : H a = some (.tup [v0, v1, v2, v3])) (k : ∀ p, H p = none → Q (.ref p) (upd H p (.tup [v0, v1, v2]))) : rSlA K (.ref a) none (some 3) H Q := ⟨a, _, rfl, SqT.of h, fun z => absurd z.2 (by show ¬ (HT.sIx 4 4 (some 3) = 4); decide), fun _ p hp => k p hp⟩
theorem w_sl2 {a : Addr} {v0 v1 v2 v3 : V} {Q : VK} (h : H a = some (.tup [v0, v1, v2, v3])) (k : ∀ p, H p = none → Q (.ref p) (upd H p (.tup [v0, v1]))) : rSlA K (.ref a) none (some 2) H Q := ⟨a, _, rfl, SqT.of h, fun z => absurd z.2 (by show ¬ (HT.sIx 4 4 (some 2) = 4); decide), fun _ p hp => k p hp⟩
theorem w_ne3 {p q : Addr} {a b x y : Nat} {i j : Int} {Q : VK} (g1 : a < 128) (g2 : b < 128) (g3 : x < 128) (g4 : y < 128) (h1 : H p = some (.tup [.str (mkS [a]), .str (mkS [b]), .int i])) (h2 : H q = some (.tup [.str (mkS [x]), .str (mkS [y]), .int j])) (k : Q (.bl (!(decide (a = x) && (decide (b = y) && decide (i = j))))) H) : rNeD K (.ref p) (.ref q) H Q :=
  ⟨_, _, .tup (SqT.of h1) (.cons (.str _) (.cons (.str _) (.cons (.int _) .nil))), .tup (SqT.of h2) (.cons (.str _) (.cons (.str _) (.cons (.int _) .nil))), (by unfold SeqAt.shaped; rw [Bool.and_eq_true]; exact ⟨by simp [PyData.canLay0, PyData.canLayAll0, strOk1 g1, strOk1 g2], decide_eq_true (Nat.le_of_ble_eq_true rfl)⟩), (by unfold SeqAt.shaped; rw [Bool.and_eq_true]; exact ⟨by simp [PyData.canLay0, PyData.canLayAll0, strOk1 g3, strOk1 g4], decide_eq_true (Nat.le_of_ble_eq_true rfl)⟩), by rw [eq3]; exact k⟩
theorem w_eq2 {p q : Addr} {a b x y : Nat} {Q : VK} (g1 : a < 128) (g2 : b < 128) (g3 : x < 128) (g4 : y < 128) (h1 : H p = some (.tup [.str (mkS [a]), .str (mkS [b])])) (h2 : H q = some (.tup [.str (mkS [x]), .str (mkS [y])])) (k : Q (.bl (decide (a = x) && decide (b = y))) H) : rEqD K (.ref p) (.ref q) H Q :=
  ⟨_, _, .tup (SqT.of h1) (.cons (.str _) (.cons (.str _) .nil)), .tup (SqT.of h2) (.cons (.str _) (.cons (.str _) .nil)), (by unfold SeqAt.shaped; rw [Bool.and_eq_true]; exact ⟨by simp [PyData.canLay0, PyData.canLayAll0, strOk1 g1, strOk1 g2], decide_eq_true (Nat.le_of_ble_eq_true rfl)⟩), (by unfold SeqAt.shaped; rw [Bool.and_eq_true]; exact ⟨by simp [PyData.canLay0, PyData.canLayAll0, strOk1 g3, strOk1 g4], decide_eq_true (Nat.le_of_ble_eq_true rfl)⟩), by rw [eq2]; exact k⟩
theorem w_catL {l b : Addr} {xs zs : List V} {Q : VK} (h1 : H l = some (.lst xs)) (h2 : H b = some (.lst zs)) (hz : xs.length + zs.length ≤ 100000) (k : ∀ p, H p = none → Q (.ref p) (upd H p (.lst (xs ++ zs)))) : rCat (.ref l) (.ref b) H Q := ⟨l, b, xs, zs, rfl, rfl, h1, h2, by rw [sizeLine_eq]; omega, k⟩
theorem RowV.dp {v : V} {r : Row} (h : RowV H v r) : Dp K H v (encR r) := by
  obtain ⟨_, q, t, rfl, h1, h2⟩ := h
  exact .tup (SqT.of h1) (.cons (.str _) (.cons (.str _) (.cons (.int _) (.cons (.tup (SqT.of h2) (.cons (.int _) (.cons (.int _) .nil))) .nil))))
def enc2 (b : V × Row) : V × PyData := (b.1, encR b.2)
theorem alikeR (p q : Row) : PySem.W.alike (encR p) (encR q) = true := by simp [encR, PySem.W.alike, PySem.W.alikeAll]
theorem w_srtR {a : Addr} {X : List (V × Row)} {Q : VK} (h : H a = some (.lst (X.map Prod.fst))) (hr : RowsV H X) (hl : X.length ≤ 100000) (k : ∀ (p : Addr) (Y : List (V × Row)), H p = none → (∀ b ∈ Y, b ∈ X) → Y.map Prod.snd = srt (X.map Prod.snd) → Q (.ref p) (upd H p (.lst (Y.map Prod.fst)))) : rSortedDt K [.ref a] H Q := by
  refine ⟨a, X.map enc2, rfl, ?_, ?_, ?_, ?_, ?_, fun p hp => ?_⟩
  · rw [List.map_map]; exact SqL.of h
  · intro b m
    obtain ⟨c, mc, rfl⟩ := List.mem_map.mp m
    exact ⟨(hr c mc).dp, Nat.le_of_ble_eq_true rfl⟩
  · intro d m d' m'
    rw [List.map_map] at m m'
    obtain ⟨c, _, rfl⟩ := List.mem_map.mp m
    obtain ⟨c', _, rfl⟩ := List.mem_map.mp m'
    exact alikeR _ _
  · refine .inl fun d m => ?_
    rw [List.map_map] at m
    obtain ⟨c, _, rfl⟩ := List.mem_map.mp m
    exact ⟨_, _, rfl⟩
  · rw [List.length_map, sizeLine_eq]; omega
  · have e : (X.mergeSort fun p q => leR p.2 q.2).map enc2 = (X.map enc2).mergeSort (PySem.W.dataLe false fun b : V × PyData => b.2) := PySem.W.sort_maps _ fun _ _ _ _ => rfl
    rw [← e, List.map_map]
    exact k p (X.mergeSort fun p q => leR p.2 q.2) hp (fun b m => (List.mergeSort_perm X fun p q => leR p.2 q.2).mem_iff.mp m) (PySem.W.sort_maps _ fun _ _ _ _ => rfl)
end
theorem fm_yes {α β : Type} {X : List α} {f : α → Bool} {g : α → β} {i : Nat} {b : α} (h : X[i]? = some b) (e : f b = true) : ((X.take (i + 1)).filter f).map g = ((X.take i).filter f).map g ++ [g b] := by
  rw [take_snoc h, List.filter_append, List.filter_cons, if_pos e, List.filter_nil, List.map_append]
  rfl
theorem fm_no {α β : Type} {X : List α} {f : α → Bool} {g : α → β} {i : Nat} {b : α} (h : X[i]? = some b) (e : f b = false) : ((X.take (i + 1)).filter f).map g = ((X.take i).filter f).map g := by
  rw [take_snoc h, List.filter_append, List.filter_cons, if_neg (by rw [e]; decide), List.filter_nil, List.append_nil]
theorem fm_len {α β : Type} {X : List α} {f : α → Bool} {g : α → β} {i : Nat} : (((X.take i).filter f).map g).length ≤ X.length := by
  rw [List.length_map]
  exact Nat.le_trans (List.length_filter_le _ _) (by rw [List.length_take]; exact Nat.min_le_right _ _)
theorem fst_get {X : List (V × Row)} {i : Nat} {y : V} (h : (X.map Prod.fst)[i]? = some y) : ∃ b, X[i]? = some b ∧ y = b.1 := by
  rw [List.getElem?_map] at h
  cases z : X[i]? with
  | none => rw [z] at h; cases h
  | some b => rw [z] at h; exact ⟨b, rfl, (Option.some.inj h).symm⟩
theorem hu1 {k : Nat} {A : Around} (r : Room k A) : A.units + 1 < cLine := by have := r.units; omega
def spInitR (CR : Addr) : Sp := fun vs H Q _ => ∃ a dx, vs = [.ref a] ∧ H a = some (.ins CR dx []) ∧ ∀ H' p, H p = none → RatesAt CR H' a p [] → Fre a H H' → Q .non H'
def spRowsR (CR : Addr) : Sp := fun vs H Q _ => ∃ a p L, vs = [.ref a] ∧ RatesAt CR H a p L ∧ ∀ H' q X, Same H H' → H q = none → H' q = some (.lst (X.map Prod.fst)) → RowsV H' X → X.map Prod.snd = srt L → Q (.ref q) H'
def spCopyR (CR : Addr) : Sp := fun vs H Q _ => ∃ a p L, vs = [.ref a] ∧ RatesAt CR H a p L ∧ ∀ H' b q, Same H H' → H b = none → H q = none → RatesAt CR H' b q L → Q (.ref b) H'
def spTell (CR CN CP : Addr) : Sp := fun vs H Q E => ∃ (a : Addr) (dv : V) (x y : Nat) (rv : V) (bx bY : Bool), vs = [.ref a, dv, .str (mkS [x]), .str (mkS [y]), rv] ∧ numV dv ∧ nameC x bx ∧ nameC y bY ∧
  ((∃ (p : Addr) (L : List Row) (day : Int) (t : Addr) (n d : Int), dv = .int day ∧ rv = .ref t ∧ 0 ≤ day ∧ day ≤ 100000 ∧ bx = true ∧ bY = true ∧ x ≠ y ∧ H t = some (.tup [.int n, .int d]) ∧ goodR n d ∧ RatesAt CR H a p L ∧ L.length < 1000 ∧
      ∀ H' p', H p' = none → RatesAt CR H' a p' (putR L ⟨x, y, day, n, d⟩) → Fre a H H' → Q .non H') ∨
   (okN 0 100000 dv = false ∧ ∀ H', Same H H' → E (.ref CN) none H') ∨
   (okN 0 100000 dv = true ∧ (bx = false ∨ bY = false ∨ x = y) ∧ ∀ H', Same H H' → E (.ref CP) none H') ∨
   (okN 0 100000 dv = true ∧ bx = true ∧ bY = true ∧ x ≠ y ∧ badR H rv ∧ ∀ H', Same H H' → E (.ref CP) none H'))
section
variable {P : Program} {w : World} {K : PySem.W.Frag} {mg : Str → Option Value} {base : Heap}
theorem ok_Rates___init__ (M : Nms K mg) : FnOk P w K mg base CX0 1 M.a_Rates___init__ M.d_Rates___init__ ["self"] (spInitR M.CR) := by
  refine M.F_Rates___init__.ok sc_Rates___init__ (fun vs H Q E h => ?_) (fun cdv A outer s H vs Q E hr h => ?_)
  · obtain ⟨a, dx, rfl, _⟩ := h
    rfl
  · have hu := hu1 hr
    have clR := M.clR
    have nR_rows := M.nR_rows
    refine ⟨_, (pss_one (ps_fld (pv 0) (pe_lst pa_nil) rfl)), ?_⟩
    try dsimp only [cxOf, Cx.nox]
    obtain ⟨a, dx, rfl, hi, q⟩ := h
    refine w_start (σ' := [some (.ref a)]) rfl ?_
    (repeat array_get_dec)
    refine ⟨by show 0 ≤ sizeLine; decide, fun p hp => ?_⟩
    have ne := ne_of_none hi hp
    (repeat array_get_dec)
    refine q _ p hp ⟨dx, [], upd_same, by rw [upd_ne (Ne.symm ne)]; exact upd_same, fun b m => by simp at m, by simp [srt], by simp⟩ fun b o nb e => by rw [upd_ne nb, upd_ne (ne_of_none e hp)]; exact e
theorem ok_Rates_rows (M : Nms K mg) : FnOk P w K mg base CX0 1 M.a_Rates_rows M.d_Rates_rows ["self"] (spRowsR M.CR) := by
  refine M.F_Rates_rows.ok sc_Rates_rows (fun vs H Q E h => ?_) (fun cdv A outer s H vs Q E hr h => ?_)
  · obtain ⟨a, p, L, rfl, _⟩ := h
    rfl
  · have hu := hu1 hr
    have clR := M.clR
    have nR_rows := M.nR_rows
    refine ⟨_, (pss_one (ps_ret (pe_callTy call_list_of (by rfl) M.T.b_list (by decide +kernel) (pa_cons (pe_fld (pv 0) rfl) pa_nil)))), ?_⟩
    try dsimp only [cxOf, Cx.nox]
    obtain ⟨a, p, L, rfl, ⟨dx, X, hi, hp, hX, eX, hL⟩, q⟩ := h
    refine w_start (σ' := [some (.ref a)]) rfl ?_
    (repeat array_get_dec)
    intro q2 hq2
    exact q _ q2 X (same_upd (Same.refl _) hq2) hq2 upd_same (fun b m => (hX b m).keep fun c _ e => by rw [upd_ne (ne_of_none e hq2)]; exact e) eX
theorem ok_Rates_copy (M : Nms K mg) : FnOk P w K mg base CX0 3 M.a_Rates_copy M.d_Rates_copy ["self"] (spCopyR M.CR) := by
  refine M.F_Rates_copy.ok sc_Rates_copy (fun vs H Q E h => ?_) (fun cdv A outer s H vs Q E hr h => ?_)
  · obtain ⟨a, p, L, rfl, _⟩ := h
    rfl
  · have hu := hu1 hr
    have clR := M.clR
    have nR_rows := M.nR_rows
    refine ⟨_, (pss_cons (ps_set (i := 1) sc_Rates_copy.nd rfl (Or.inl rfl) (pe_make0 M.mkR (ok_Rates___init__ M) (hr.mono (by decide)) rfl M.gR M.b_Rates___init__ .nil pass0))
    (pss_cons (ps_fld (pv 1) (pe_callTy call_list_of (by rfl) M.T.b_list (by decide +kernel) (pa_cons (pe_fld (pv 0) rfl) pa_nil)) rfl)
    (pss_one (ps_ret (pv 1))))), ?_⟩
    try dsimp only [cxOf, Cx.nox]
    obtain ⟨a, p, L, rfl, ⟨dx, X, hi, hp, hX, eX, hL⟩, q⟩ := h
    refine w_start (σ' := [some (.ref a), none]) rfl ?_
    (repeat array_get_dec)
    intro b db hb hdb hne
    refine ⟨b, db, rfl, upd_same, fun H1 pz hpz rz fz => ⟨rfl, ?_⟩⟩
    have s1 : Same H H1 := fun c o e => fz c o (ne_of_none e hb) (by rw [upd_ne (ne_of_none e hb), upd_ne (ne_of_none e hdb)]; exact e)
    have hi1 := s1 _ _ hi
    have hp1 := s1 _ _ hp
    obtain ⟨dz, Z, gi, gz, _⟩ := rz
    (repeat array_get_dec)
    intro c hc
    have nb := ne_of_none gi hc
    have nba := ne_of_none hi hb
    (repeat array_get_dec)
    have hX1 : RowsV H1 X := fun b m => (hX b m).keep fun _ _ e => s1 _ _ e
    refine q _ b c (fun z o e => ?_) hb ?_ ⟨_, X, upd_same, by rw [upd_ne (Ne.symm nb)]; exact upd_same, fun z m => (hX1 z m).keep fun z2 _ e => ?_, eX, hL⟩
    · rw [upd_ne (ne_of_none e hb), upd_ne (ne_of_none (s1 _ _ e) hc)]
      exact s1 _ _ e
    · cases e : H c with
      | none => rfl
      | some o => rw [s1 _ _ e] at hc; cases hc
    · rw [upd_ne (fun z => by rw [z, gi] at e; cases e), upd_ne (ne_of_none e hc)]
      exact e
end
end K78

namespace K78
open PySem PySem.Spec PyProof.Rows L2
local macro_rules | `(tactic| array_mem_dec) => `(tactic| first | with_reducible assumption | with_reducible exact upd_same | ((with_reducible apply same_at); (with_reducible assumption); array_mem_dec) | ((with_reducible apply upd_atN); (with_reducible assumption); array_mem_dec) | ((with_reducible apply upd_at); (first | with_reducible assumption | (apply Ne.symm; with_reducible assumption)); array_mem_dec))
local macro_rules | `(tactic| array_get_dec) => `(tactic| first | (with_reducible refine w_seq ?_) | (with_reducible refine w_asg ?_) | (with_reducible refine w_drop ?_) | (with_reducible refine w_ret ?_) | (with_reducible refine w_retN ?_) | (with_reducible refine w_next ?_) | (with_reducible refine w_break ?_) | (with_reducible refine w_cont ?_) | (with_reducible refine w_ifS ?_) | (with_reducible refine w_sub ?_) | (with_reducible refine w_c ?_) | (with_reducible refine w_op ?_) | (with_reducible refine w_un ?_) | (with_reducible refine w_test ?_) | (with_reducible refine w_B ?_) | (with_reducible refine w_yes ?_) | (with_reducible refine w_not ?_) | (with_reducible refine w_and ?_) | (with_reducible refine w_or ?_) | (with_reducible refine w_andV ?_) | (with_reducible refine w_orV ?_) | (with_reducible refine w_notV ?_) | (with_reducible refine w_ifE ?_) | (with_reducible refine w_nil ?_) | (with_reducible refine w_cons ?_) | (with_reducible refine w_call ?_) | (with_reducible refine w_callS ?_) | (with_reducible refine w_cB ?_) | (with_reducible refine w_lst ?_) | (with_reducible refine w_tup ?_) | (with_reducible refine w_sl ?_) | (with_reducible refine w_noPart ?_) | (with_reducible refine w_part ?_) | (with_reducible refine w_bm ?_) | (with_reducible refine w_bm0 ?_) | (with_reducible refine w_strTy ?_) | (with_reducible refine w_bl ?_) | (with_reducible refine w_int1 ?_) | (with_reducible refine w_str1 ?_) | (with_reducible refine w_rI0 ?_) | (with_reducible refine w_rU ?_) | (with_reducible refine w_eqI ?_) | (with_reducible refine w_eqS ?_) | (with_reducible refine w_neI ?_) | (with_reducible refine w_neS ?_) | (with_reducible refine w_bl2 ?_) | (with_reducible refine w_isN ?_) | (with_reducible refine w_for ?_) | (with_reducible refine w_iRng1 ?_) | (with_reducible refine w_iRng2 ?_) | (with_reducible refine w_iList ?_) | (with_reducible refine w_iTup ?_) | (with_reducible refine w_iStr ?_) | (with_reducible refine w_lc ?_) | (with_reducible refine w_M1 ?_) | (with_reducible refine w_M0 ?_) | (with_reducible refine w_isS ?_) | ((with_reducible apply w_name); (simp only [wipe, List.map_cons, List.map_nil, List.foldl_cons, List.foldl_nil, List.set_cons_zero, List.set_cons_succ]; exact rfl)) | ((with_reducible apply w_var); exact rfl) | ((with_reducible apply w_lstTy); array_mem_dec) | ((with_reducible apply w_lenL); array_mem_dec) | ((with_reducible apply w_lenT); array_mem_dec) | ((with_reducible apply w_listOf); array_mem_dec) | ((with_reducible apply w_lenS); (first | (with_reducible assumption) | omega | (rw [sizeLine_eq]; omega))) | ((with_reducible apply w_slS); (first | (with_reducible assumption) | omega | (rw [sizeLine_eq]; omega))) | ((with_reducible apply w_wipe); exact rfl) | ((with_reducible apply w_acc); array_mem_dec; (try (first | (with_reducible assumption) | omega | (rw [sizeLine_eq]; omega)))) | ((with_reducible apply w_itl); array_mem_dec) | ((with_reducible apply w_itt); array_mem_dec) | ((with_reducible apply w_append); array_mem_dec; (try (first | (with_reducible assumption) | omega | (rw [sizeLine_eq]; omega)))) | ((with_reducible apply w_rng1); (first | (with_reducible assumption) | omega); (first | (with_reducible assumption) | omega)) | ((with_reducible apply w_ixL); array_mem_dec; (first | (with_reducible assumption) | exact rfl | (apply atI_nat; (with_reducible assumption)) | exact atI_last _ _)) | ((with_reducible apply w_ixT); array_mem_dec; (first | (with_reducible assumption) | exact rfl | (apply atI_nat; (with_reducible assumption)) | exact atI_last _ _)) | ((with_reducible apply w_iT); first | exact rfl | (with_reducible assumption)) | ((with_reducible apply w_iF); first | exact rfl | (with_reducible assumption)) | ((with_reducible apply w_isiI (b := true)); decide +kernel) | ((with_reducible apply w_isiI (b := false)); decide +kernel) | ((with_reducible apply w_isiB (b := true)); decide +kernel) | ((with_reducible apply w_isiB (b := false)); decide +kernel) | ((with_reducible apply w_isiS (b := true)); decide +kernel) | ((with_reducible apply w_isiS (b := false)); decide +kernel) | ((with_reducible apply w_isiN (b := true)); decide +kernel) | ((with_reducible apply w_isiN (b := false)); decide +kernel) | ((with_reducible apply w_isiL (b := true)); array_mem_dec; decide +kernel) | ((with_reducible apply w_isiL (b := false)); array_mem_dec; decide +kernel) | ((with_reducible apply w_isiT (b := true)); array_mem_dec; decide +kernel) | ((with_reducible apply w_isiT (b := false)); array_mem_dec; decide +kernel) | (with_reducible refine w_notT ?_) | (with_reducible refine w_chain ?_) | ((with_reducible apply w_trL); array_mem_dec) | ((with_reducible apply w_gTup); array_mem_dec; exact rfl) | ((with_reducible apply w_gLst); array_mem_dec; exact rfl) | (with_reducible refine w_gCons ?_) | (with_reducible refine w_gNil ?_) | (with_reducible refine w_Fld ?_) | (with_reducible refine w_sFld ?_) | (with_reducible refine w_dget ?_) | (with_reducible refine w_dIn ?_) | (with_reducible refine w_dNotIn ?_) | (with_reducible refine w_sDPut ?_) | (with_reducible refine w_dnewK ?_) | (with_reducible refine w_meth ?_) | (with_reducible refine w_make ?_) | (with_reducible refine w_methS ?_) | (with_reducible refine w_makeS ?_) | (with_reducible refine w_dpop ?_) | ((with_reducible apply w_fld1); array_mem_dec; (with_reducible assumption); (with_reducible assumption); exact rfl) | ((with_reducible apply w_sfld1); array_mem_dec; (with_reducible assumption); (with_reducible assumption); exact Nat.le_of_ble_eq_true rfl) | ((with_reducible apply w_meth1); array_mem_dec; exact rfl) | ((with_reducible apply w_dgetS); array_mem_dec; (with_reducible assumption)) | ((with_reducible apply w_dgetI); array_mem_dec; (with_reducible assumption)) | ((with_reducible apply w_dinS); array_mem_dec) | ((with_reducible apply w_dputI); array_mem_dec; (try (first | (with_reducible assumption) | omega | (rw [sizeLine_eq]; omega)))) | ((with_reducible apply w_dputS); array_mem_dec; (try (first | (with_reducible assumption) | omega | (rw [sizeLine_eq]; omega)))) | ((with_reducible apply w_isD); array_mem_dec) | ((with_reducible apply w_dictD); array_mem_dec) | ((with_reducible apply w_dpopS); array_mem_dec; (with_reducible assumption)))
/-! ### Rates.tell -/
theorem nameC_lt {c : Nat} {b : Bool} (h : nameC c b) : c < 128 := by
  rcases h with ⟨h, _⟩ | ⟨h, _⟩ <;> omega
theorem dec_str (x y : Nat) : decide (V.str (mkS [x]) = V.str (mkS [y])) = decide (x = y) := by
  rw [Bool.eq_iff_iff, decide_eq_true_eq, decide_eq_true_eq]
  exact ⟨fun h => by have := mkS_inj (V.str.inj h); simpa using this, fun h => by rw [h]⟩
theorem rCat_gen {x y : V} {H : Hp} {Q : VK} (G : Hp) (e : G = H) (k : ∀ H3, H3 = G → rCat x y H3 Q) : rCat x y H Q := k H e.symm
section
variable {P : Program} {w : World} {K : PySem.W.Frag} {mg : Str → Option Value} {base : Heap}
theorem ok_Rates_tell (M : Nms K mg) : FnOk P w K mg base (L2N.CX P w) 3 M.a_Rates_tell M.d_Rates_tell ["self", "day", "one", "other", "rate"] (spTell M.CR M.CN M.CP) := by
  refine M.F_Rates_tell.okN sc_Rates_tell (fun vs H Q E h => ?_) (fun cdv A outer s H vs Q E hr h => ?_)
  · obtain ⟨a, dv, x, y, rv, bx, bY, rfl, _⟩ := h
    rfl
  · have hu := hu1 hr
    have clR := M.clR
    have nR_rows := M.nR_rows
    refine ⟨_, (pss_cons (ps_if (pt_not (pt_val (pe_call (ok_is_number M) (hr.mono (by decide)) rfl M.g_is_number M.k_is_number M.b_is_number .nil pass0 (pa_cons (pv 1) (pa_cons pe_int (pa_cons pe_int pa_nil)))))) (pss_one (L2N.ps_raise rfl (L2N.takes_of rfl rfl rfl rfl) (L2N.pmk_own PySem.F.excBase_ValueError M.XN.xP M.XN.gP M.XN.kP (raises_own M.XN.bP M.XN.tP) rfl))) pss_nil)
    (pss_cons (ps_if (PW.pt (pw_or (pt_not (pt_val (pe_call (ok_is_name M) (hr.mono (by decide)) rfl M.g_is_name M.k_is_name M.b_is_name .nil pass0 (pa_cons (pv 2) pa_nil)))) (pw_or (pt_not (pt_val (pe_call (ok_is_name M) (hr.mono (by decide)) rfl M.g_is_name M.k_is_name M.b_is_name .nil pass0 (pa_cons (pv 3) pa_nil)))) (pw_or1 (pt_cmpR op_eq (pv 2) (pv 3) (nomark _)))))) (pss_one (L2N.ps_raise rfl (L2N.takes_of rfl rfl rfl rfl) (L2N.pmk_own PySem.F.excBase_ValueError M.XP.xP M.XP.gP M.XP.kP (raises_own M.XP.bP M.XP.tP) rfl))) pss_nil)
    (pss_cons (ps_expr (pe_callS (ok_checked_rate M) (hr.mono (by decide)) rfl M.g_checked_rate M.k_checked_rate M.b_checked_rate (fun σ => L2N.passAt (L2N.takes_of rfl rfl rfl rfl) σ) (pa_cons (pv 4) pa_nil)))
    (pss_cons (ps_fld (pv 0) (pe_lc (own := [("row", 5)]) rfl sc_Rates_tell.nd (pi_list (pe_fld (pv 0) rfl)) (blkOk_by (N := ["self", "day", "one", "other", "rate", "row"]) (sc := defScope s_Rates_tell) (own := [("row", 5)]) (by decide +kernel)) (fun _ _ _ _ _ => (pg_name (i := 5) sc_Rates_tell.nd rfl (Or.inl rfl))) (fun _ _ _ _ _ => pts_one (pt_cmpR (r := rNeD K) (op_neD hr.units) (pe_slice (r := rSlA K) sl_tupA (pv 5) po_none (po_some pe_int)) (pe_tup (pa_cons (pv 2) (pa_cons (pv 3) (pa_cons (pv 1) pa_nil)))) (nomark _))) (fun _ _ _ _ _ => (pv 5))) rfl)
    (pss_one (ps_fld (pv 0) (pe_callB (cr_sortedDt hr.units) (by rfl) M.T.b_sorted (by decide +kernel) (pa_cons (pe_op op_cat (pe_fld (pv 0) rfl) (pe_lst (pa_cons (pe_tup (pa_cons (pv 2) (pa_cons (pv 3) (pa_cons (pv 1) (pa_cons (pv 4) pa_nil))))) pa_nil))) pa_nil)) rfl)))))), ?_⟩
    try dsimp only [cxOf, Cx.nox]
    obtain ⟨a, dv, x, y, rv, bx, bY, rfl, hd, hx, hy, h⟩ := h
    have lx := nameC_lt hx
    have ly := nameC_lt hy
    refine w_start (σ' := [some (.ref a), some dv, some (.str (mkS [x])), some (.str (mkS [y])), some rv, none]) rfl ?_
    (repeat array_get_dec)
    refine ⟨dv, 0, 100000, rfl, hd, ?_⟩
    rcases h with ⟨p, L, day, t, n, d, rfl, rfl, d0, d1, rfl, rfl, nxy, ht, hg, ⟨dx, X, hi, hp, hX, eX, hL⟩, hL2, q⟩ | ⟨ho, e⟩ | ⟨ho, hb, e⟩ | ⟨ho, rfl, rfl, nxy, hb, e⟩
    · rw [show okN 0 100000 (.int day) = true from by show (decide _ && decide _) = true; rw [decide_eq_true d0, decide_eq_true d1]; rfl]
      (repeat array_get_dec)
      refine ⟨x, true, rfl, hx, ?_⟩
      (repeat array_get_dec)
      refine ⟨y, true, rfl, hy, ?_⟩
      (repeat array_get_dec)
      refine iteF' (decide_eq_false fun z => nxy (by simpa using mkS_inj (V.str.inj z))) ?_
      (repeat array_get_dec)
      refine ⟨.ref t, rfl, .inl ⟨t, n, d, rfl, ht, hg, fun H1 s1 => ?_⟩⟩
      have hi1 := s1 _ _ hi
      have hp1 := s1 _ _ hp
      have ht1 := s1 _ _ ht
      (repeat array_get_dec)
      intro A hA
      have hX1 : RowsV H1 X := fun b m => (hX b m).keep fun _ _ e => s1 _ _ e
      have eXl : X.length = L.length := by rw [← List.length_map (f := Prod.snd), eX, (srt_perm L).length_eq]
      refine lc_list (K := K) (a := p) (xs := X.map Prod.fst) (fun i H' => H' A = some (.lst (((X.take i).filter fun b => !sameK b.2 x y day).map Prod.fst)) ∧ ∀ b o, b ≠ A → H1 b = some o → H' b = some o) ⟨upd_same, fun b o nb e => by rw [upd_ne nb]; exact e⟩ ?_ ?_ ?_
      · rintro i H' _ ⟨h1, h2⟩
        exact SqL.of (h2 _ _ (ne_of_none hp1 hA) hp1)
      · rintro i v H' hv ⟨h1, h2⟩
        obtain ⟨b, hb, rfl⟩ := fst_get hv
        obtain ⟨⟨l1, l2⟩, q0, t0, eb, r1, r2⟩ := hX1 b (List.mem_of_getElem? hb)
        have r1' := h2 _ _ (ne_of_none r1 hA) r1
        rw [eb]
        (repeat array_get_dec)
        refine w_sl3 r1' fun u hu2 => ?_
        (repeat array_get_dec)
        refine ⟨by show 3 ≤ sizeLine; rw [sizeLine_eq]; omega, fun u2 hu3 => ?_⟩
        have nu : u ≠ u2 := fun z => by rw [z, upd_same] at hu3; cases hu3
        refine w_ne3 l1 l2 lx ly (by rw [upd_ne nu]; exact upd_same) upd_same ?_
        have nAu : A ≠ u := ne_of_none h1 hu2
        have nAu2 : A ≠ u2 := ne_of_none (by rw [upd_ne nAu]; exact h1) hu3
        have h1' : upd (upd H' u (.tup [.str (mkS [b.2.a]), .str (mkS [b.2.b]), .int b.2.day])) u2 (.tup [.str (mkS [x]), .str (mkS [y]), .int day]) A = some (.lst (((X.take i).filter fun b => !sameK b.2 x y day).map Prod.fst)) := by rw [upd_ne nAu2, upd_ne nAu]; exact h1
        have h2' : ∀ b' o, b' ≠ A → H1 b' = some o → upd (upd H' u (.tup [.str (mkS [b.2.a]), .str (mkS [b.2.b]), .int b.2.day])) u2 (.tup [.str (mkS [x]), .str (mkS [y]), .int day]) b' = some o := fun b' o nb e => by
          have e1 := h2 b' o nb e
          rw [upd_ne (ne_of_none (by rw [upd_ne (ne_of_none e1 hu2)]; exact e1) hu3), upd_ne (ne_of_none e1 hu2)]
          exact e1
        generalize upd (upd H' u (.tup [.str (mkS [b.2.a]), .str (mkS [b.2.b]), .int b.2.day])) u2 (.tup [.str (mkS [x]), .str (mkS [y]), .int day]) = H9 at *
        have lz : (((X.take i).filter fun b => !sameK b.2 x y day).map Prod.fst).length < sizeLine := Nat.lt_of_le_of_lt fm_len (by rw [sizeLine_eq]; omega)
        rw [show (decide (b.2.a = x) && (decide (b.2.b = y) && decide (b.2.day = day))) = sameK b.2 x y day from rfl]
        refine ⟨_, rfl, ?_⟩
        refine ite2 (fun z => ?_) (fun z => ?_)
        · (repeat array_get_dec)
          exact ⟨by rw [upd_same, fm_yes hb z, eb], fun b' o nb e => by rw [upd_ne nb]; exact h2' b' o nb e⟩
        · exact ⟨by rw [h1', fm_no hb (by simpa using z)], h2'⟩
      · rintro H' ⟨h1, h2⟩
        rw [List.length_map, List.take_length] at h1
        have nia := ne_of_none hi1 hA
        have npa := ne_of_none hp1 hA
        have hi2 := h2 _ _ nia hi1
        have hp2 := h2 _ _ npa hp1
        have ht2 := h2 _ _ (ne_of_none ht1 hA) ht1
        (repeat array_get_dec)
        refine ⟨by show 4 ≤ sizeLine; rw [sizeLine_eq]; omega, fun u hu2 => ?_⟩
        (repeat array_get_dec)
        refine ⟨by show 1 ≤ sizeLine; rw [sizeLine_eq]; omega, fun u2 hu3 => ?_⟩
        have nua : a ≠ u := ne_of_none (o := .ins M.CR dx (rF A)) upd_same hu2
        have nua2 : a ≠ u2 := ne_of_none (o := .ins M.CR dx (rF A)) (by rw [upd_ne nua]; exact upd_same) hu3
        have nAa : A ≠ a := fun z => by rw [z, hi2] at h1; cases h1
        have nAu : A ≠ u := ne_of_none (by rw [upd_ne nAa]; exact h1) hu2
        have nAu2 : A ≠ u2 := ne_of_none (by rw [upd_ne nAu, upd_ne nAa]; exact h1) hu3
        have nuu2 : u ≠ u2 := ne_of_none upd_same hu3
        refine rCat_gen (upd (upd (upd H' a (.ins M.CR dx (rF A))) u (.tup [.str (mkS [x]), .str (mkS [y]), .int day, .ref t])) u2 (.lst [.ref u])) rfl fun H3 e3 => ?_
        have k1 : H3 a = some (.ins M.CR dx (rF A)) := by rw [e3, upd_ne nua2, upd_ne nua]; exact upd_same
        have k2 : H3 A = some (.lst ((X.filter fun b => !sameK b.2 x y day).map Prod.fst)) := by rw [e3, upd_ne nAu2, upd_ne nAu, upd_ne nAa]; exact h1
        have k3 : H3 u = some (.tup [.str (mkS [x]), .str (mkS [y]), .int day, .ref t]) := by rw [e3, upd_ne nuu2]; exact upd_same
        have k4 : H3 u2 = some (.lst [.ref u]) := by rw [e3]; exact upd_same
        have fr : Fre a H1 H3 := fun b o nb e => by
          have e1 := h2 b o (ne_of_none e hA) e
          have e2 : upd H' a (.ins M.CR dx (rF A)) b = some o := by rw [upd_ne nb]; exact e1
          rw [e3, upd_ne (ne_of_none (by rw [upd_ne (ne_of_none e2 hu2)]; exact e2) hu3), upd_ne (ne_of_none e2 hu2)]
          exact e2
        clear e3
        have fl := List.length_filter_le (fun b : V × Row => !sameK b.2 x y day) X
        refine w_catL k2 k4 (by rw [List.length_map, List.length_singleton]; omega) fun p3 hp3 => ?_
        have k1' : upd H3 p3 (.lst ((X.filter fun b => !sameK b.2 x y day).map Prod.fst ++ [.ref u])) a = some (.ins M.CR dx (rF A)) := by rw [upd_ne (ne_of_none k1 hp3)]; exact k1
        (repeat array_get_dec)
        have rX : RowsV (upd H3 p3 (.lst ((X.filter fun b => !sameK b.2 x y day).map Prod.fst ++ [.ref u]))) ((X.filter fun b => !sameK b.2 x y day) ++ [(V.ref u, ⟨x, y, day, n, d⟩)]) := fun b m => by
          have fr3 : ∀ c xs, H1 c = some (.tup xs) → upd H3 p3 (.lst ((X.filter fun b => !sameK b.2 x y day).map Prod.fst ++ [.ref u])) c = some (.tup xs) := fun c xs e => by
            have := fr c _ (fun z => by rw [z, hi1] at e; cases e) e
            rw [upd_ne (ne_of_none this hp3)]
            exact this
          rcases List.mem_append.mp m with m | m
          · exact (hX1 b (List.mem_filter.mp m).1).keep fr3
          · rw [List.mem_singleton.mp m]
            exact ⟨⟨lx, ly⟩, u, t, rfl, by rw [upd_ne (ne_of_none k3 hp3)]; exact k3, fr3 _ _ ht1⟩
        refine w_srtR (X := (X.filter fun b => !sameK b.2 x y day) ++ [(V.ref u, ⟨x, y, day, n, d⟩)]) (by rw [List.map_append]; exact upd_same) rX (by rw [List.length_append, List.length_singleton]; omega) fun p4 Y hp4 mY eY => ?_
        (repeat array_get_dec)
        have np4 : H p4 = none := by
          cases e : H p4 with
          | none => rfl
          | some o =>
            have na : p4 ≠ a := (ne_of_none k1' hp4).symm
            have e1 := fr p4 o na (s1 _ _ e)
            rw [upd_ne (ne_of_none e1 hp3), e1] at hp4
            cases hp4
        refine q _ p4 np4 ⟨dx, Y, upd_same, ?_, fun b m => (rX b (mY b m)).keep fun c xs e => ?_, ?_, ?_⟩ fun b o nb e => ?_
        · rw [upd_ne (Ne.symm (ne_of_none k1' hp4))]; exact upd_same
        · rw [upd_ne (fun z => by rw [z, k1'] at e; cases e), upd_ne (ne_of_none e hp4)]; exact e
        · rw [eY, List.map_append, ← put_srt L ⟨x, y, day, n, d⟩, ← eX, List.filter_map]
          rfl
        · have := put_len L ⟨x, y, day, n, d⟩
          omega
        · have e1 := fr b o nb (s1 _ _ e)
          have e2 : upd H3 p3 (.lst ((X.filter fun b => !sameK b.2 x y day).map Prod.fst ++ [.ref u])) b = some o := by rw [upd_ne (ne_of_none e1 hp3)]; exact e1
          rw [upd_ne nb, upd_ne (ne_of_none e2 hp4)]
          exact e2
    · rw [ho]
      (repeat array_get_dec)
      exact e _ (Same.refl _)
    · rw [ho]
      (repeat array_get_dec)
      refine ⟨x, bx, rfl, hx, ?_⟩
      cases bx with
      | false =>
        (repeat array_get_dec)
        exact e _ (Same.refl _)
      | true =>
        (repeat array_get_dec)
        refine ⟨y, bY, rfl, hy, ?_⟩
        cases bY with
        | false =>
          (repeat array_get_dec)
          exact e _ (Same.refl _)
        | true =>
          have exy : x = y := by rcases hb with h | h | h; cases h; cases h; exact h
          (repeat array_get_dec)
          refine iteT' (decide_eq_true (by rw [exy])) ?_
          (repeat array_get_dec)
          exact e _ (Same.refl _)
    · rw [ho]
      (repeat array_get_dec)
      refine ⟨x, true, rfl, hx, ?_⟩
      (repeat array_get_dec)
      refine ⟨y, true, rfl, hy, ?_⟩
      (repeat array_get_dec)
      refine iteF' (decide_eq_false fun z => nxy (by simpa using mkS_inj (V.str.inj z))) ?_
      (repeat array_get_dec)
      exact ⟨rv, rfl, .inr ⟨hb, e⟩⟩
def spTellG (CR : Addr) : Sp := fun vs H Q _ => ∃ (a : Addr) (x y : Nat) (p : Addr) (L : List Row) (day : Int) (t : Addr) (n d : Int), vs = [.ref a, .int day, .str (mkS [x]), .str (mkS [y]), .ref t] ∧ 0 ≤ day ∧ day ≤ 100000 ∧ nameC x true ∧ nameC y true ∧ x ≠ y ∧ H t = some (.tup [.int n, .int d]) ∧ goodR n d ∧ RatesAt CR H a p L ∧ L.length < 1000 ∧
  ∀ H' p', H p' = none → RatesAt CR H' a p' (putR L ⟨x, y, day, n, d⟩) → Fre a H H' → Q .non H'
theorem okL_Rates_tell (M : Nms K mg) : FnOk P w K mg base CX0 3 M.a_Rates_tell M.d_Rates_tell ["self", "day", "one", "other", "rate"] (spTellG M.CR) := ok_low (ok_Rates_tell M) fun vs H Q E ⟨a, x, y, p, L, day, t, n, d, e, d0, d1, hx, hy, nxy, ht, hg, hr, hl, q⟩ =>
  ⟨a, .int day, x, y, .ref t, true, true, e, .inl ⟨_, rfl⟩, hx, hy, .inl ⟨p, L, day, t, n, d, rfl, rfl, d0, d1, rfl, rfl, nxy, ht, hg, hr, hl, q⟩⟩
def spCRateG : Sp := fun vs H Q _ => ∃ (t : Addr) (a b : Int), vs = [.ref t] ∧ H t = some (.tup [.int a, .int b]) ∧ goodR a b ∧ ∀ H', Same H H' → Q (.ref t) H'
theorem okL_checked_rate (M : Nms K mg) : FnOk P w K mg base CX0 2 M.a_checked_rate M.d_checked_rate ["rate"] spCRateG := ok_low (ok_checked_rate M) fun vs H Q E ⟨t, a, b, e, ht, hg, q⟩ => ⟨.ref t, e, .inl ⟨t, a, b, rfl, ht, hg, q⟩⟩
end
end K78

namespace K78
open PySem PySem.Spec PyProof.Rows L2
local macro_rules | `(tactic| array_mem_dec) => `(tactic| first | with_reducible assumption | with_reducible exact upd_same | ((with_reducible apply same_at); (with_reducible assumption); array_mem_dec) | ((with_reducible apply upd_atN); (with_reducible assumption); array_mem_dec) | ((with_reducible apply upd_at); (first | with_reducible assumption | (apply Ne.symm; with_reducible assumption)); array_mem_dec))
local macro_rules | `(tactic| array_get_dec) => `(tactic| first | (with_reducible refine w_seq ?_) | (with_reducible refine w_asg ?_) | (with_reducible refine w_drop ?_) | (with_reducible refine w_ret ?_) | (with_reducible refine w_retN ?_) | (with_reducible refine w_next ?_) | (with_reducible refine w_break ?_) | (with_reducible refine w_cont ?_) | (with_reducible refine w_ifS ?_) | (with_reducible refine w_sub ?_) | (with_reducible refine w_c ?_) | (with_reducible refine w_op ?_) | (with_reducible refine w_un ?_) | (with_reducible refine w_test ?_) | (with_reducible refine w_B ?_) | (with_reducible refine w_yes ?_) | (with_reducible refine w_not ?_) | (with_reducible refine w_and ?_) | (with_reducible refine w_or ?_) | (with_reducible refine w_andV ?_) | (with_reducible refine w_orV ?_) | (with_reducible refine w_notV ?_) | (with_reducible refine w_ifE ?_) | (with_reducible refine w_nil ?_) | (with_reducible refine w_cons ?_) | (with_reducible refine w_call ?_) | (with_reducible refine w_callS ?_) | (with_reducible refine w_cB ?_) | (with_reducible refine w_lst ?_) | (with_reducible refine w_tup ?_) | (with_reducible refine w_sl ?_) | (with_reducible refine w_noPart ?_) | (with_reducible refine w_part ?_) | (with_reducible refine w_bm ?_) | (with_reducible refine w_bm0 ?_) | (with_reducible refine w_strTy ?_) | (with_reducible refine w_bl ?_) | (with_reducible refine w_int1 ?_) | (with_reducible refine w_str1 ?_) | (with_reducible refine w_rI0 ?_) | (with_reducible refine w_rU ?_) | (with_reducible refine w_eqI ?_) | (with_reducible refine w_eqS ?_) | (with_reducible refine w_neI ?_) | (with_reducible refine w_neS ?_) | (with_reducible refine w_bl2 ?_) | (with_reducible refine w_isN ?_) | (with_reducible refine w_for ?_) | (with_reducible refine w_iRng1 ?_) | (with_reducible refine w_iRng2 ?_) | (with_reducible refine w_iList ?_) | (with_reducible refine w_iTup ?_) | (with_reducible refine w_iStr ?_) | (with_reducible refine w_lc ?_) | (with_reducible refine w_M1 ?_) | (with_reducible refine w_M0 ?_) | (with_reducible refine w_isS ?_) | ((with_reducible apply w_name); (simp only [wipe, List.map_cons, List.map_nil, List.foldl_cons, List.foldl_nil, List.set_cons_zero, List.set_cons_succ]; exact rfl)) | ((with_reducible apply w_var); exact rfl) | ((with_reducible apply w_lstTy); array_mem_dec) | ((with_reducible apply w_lenL); array_mem_dec) | ((with_reducible apply w_lenT); array_mem_dec) | ((with_reducible apply w_listOf); array_mem_dec) | ((with_reducible apply w_lenS); (first | (with_reducible assumption) | omega | (rw [sizeLine_eq]; omega))) | ((with_reducible apply w_slS); (first | (with_reducible assumption) | omega | (rw [sizeLine_eq]; omega))) | ((with_reducible apply w_wipe); exact rfl) | ((with_reducible apply w_acc); array_mem_dec; (try (first | (with_reducible assumption) | omega | (rw [sizeLine_eq]; omega)))) | ((with_reducible apply w_itl); array_mem_dec) | ((with_reducible apply w_itt); array_mem_dec) | ((with_reducible apply w_append); array_mem_dec; (try (first | (with_reducible assumption) | omega | (rw [sizeLine_eq]; omega)))) | ((with_reducible apply w_rng1); (first | (with_reducible assumption) | omega); (first | (with_reducible assumption) | omega)) | ((with_reducible apply w_ixL); array_mem_dec; (first | (with_reducible assumption) | exact rfl | (apply atI_nat; (with_reducible assumption)) | exact atI_last _ _)) | ((with_reducible apply w_ixT); array_mem_dec; (first | (with_reducible assumption) | exact rfl | (apply atI_nat; (with_reducible assumption)) | exact atI_last _ _)) | ((with_reducible apply w_iT); first | exact rfl | (with_reducible assumption)) | ((with_reducible apply w_iF); first | exact rfl | (with_reducible assumption)) | ((with_reducible apply w_isiI (b := true)); decide +kernel) | ((with_reducible apply w_isiI (b := false)); decide +kernel) | ((with_reducible apply w_isiB (b := true)); decide +kernel) | ((with_reducible apply w_isiB (b := false)); decide +kernel) | ((with_reducible apply w_isiS (b := true)); decide +kernel) | ((with_reducible apply w_isiS (b := false)); decide +kernel) | ((with_reducible apply w_isiN (b := true)); decide +kernel) | ((with_reducible apply w_isiN (b := false)); decide +kernel) | ((with_reducible apply w_isiL (b := true)); array_mem_dec; decide +kernel) | ((with_reducible apply w_isiL (b := false)); array_mem_dec; decide +kernel) | ((with_reducible apply w_isiT (b := true)); array_mem_dec; decide +kernel) | ((with_reducible apply w_isiT (b := false)); array_mem_dec; decide +kernel) | (with_reducible refine w_notT ?_) | (with_reducible refine w_chain ?_) | ((with_reducible apply w_trL); array_mem_dec) | ((with_reducible apply w_gTup); array_mem_dec; exact rfl) | ((with_reducible apply w_gLst); array_mem_dec; exact rfl) | (with_reducible refine w_gCons ?_) | (with_reducible refine w_gNil ?_) | (with_reducible refine w_Fld ?_) | (with_reducible refine w_sFld ?_) | (with_reducible refine w_dget ?_) | (with_reducible refine w_dIn ?_) | (with_reducible refine w_dNotIn ?_) | (with_reducible refine w_sDPut ?_) | (with_reducible refine w_dnewK ?_) | (with_reducible refine w_meth ?_) | (with_reducible refine w_make ?_) | (with_reducible refine w_methS ?_) | (with_reducible refine w_makeS ?_) | (with_reducible refine w_dpop ?_) | ((with_reducible apply w_fld1); array_mem_dec; (with_reducible assumption); (with_reducible assumption); exact rfl) | ((with_reducible apply w_sfld1); array_mem_dec; (with_reducible assumption); (with_reducible assumption); exact Nat.le_of_ble_eq_true rfl) | ((with_reducible apply w_meth1); array_mem_dec; exact rfl) | ((with_reducible apply w_dgetS); array_mem_dec; (with_reducible assumption)) | ((with_reducible apply w_dgetI); array_mem_dec; (with_reducible assumption)) | ((with_reducible apply w_dinS); array_mem_dec) | ((with_reducible apply w_dputI); array_mem_dec; (try (first | (with_reducible assumption) | omega | (rw [sizeLine_eq]; omega)))) | ((with_reducible apply w_dputS); array_mem_dec; (try (first | (with_reducible assumption) | omega | (rw [sizeLine_eq]; omega)))) | ((with_reducible apply w_isD); array_mem_dec) | ((with_reducible apply w_dictD); array_mem_dec) | ((with_reducible apply w_dpopS); array_mem_dec; (with_reducible assumption)))
/-! ### Rates.rate -/
def CndV (H : Hp) (v : V) (c : Cnd) : Prop := ∃ q t, v = .ref q ∧ H q = some (.tup [.int c.day, .int c.f, .ref t]) ∧ H t = some (.tup [.int c.n, .int c.d])
theorem CndV.keep {H H' : Hp} {v : V} {c : Cnd} (h : CndV H v c) (k : ∀ b xs, H b = some (.tup xs) → H' b = some (.tup xs)) : CndV H' v c := by
  obtain ⟨q, t, e, h1, h2⟩ := h
  exact ⟨q, t, e, k _ _ h1, k _ _ h2⟩
def CndsV (H : Hp) (Y : List (V × Cnd)) : Prop := ∀ b ∈ Y, CndV H b.1 b.2
theorem CndV.dp {K : PySem.W.Frag} {H : Hp} {v : V} {c : Cnd} (h : CndV H v c) : Dp K H v (encC c) := by
  obtain ⟨q, t, rfl, h1, h2⟩ := h
  exact .tup (SqT.of h1) (.cons (.int _) (.cons (.int _) (.cons (.tup (SqT.of h2) (.cons (.int _) (.cons (.int _) .nil))) .nil)))
theorem encC_inj {c e : Cnd} (h : encC c = encC e) : c = e := by
  unfold encC at h
  cases c; cases e
  simp at h
  obtain ⟨rfl, rfl, rfl, rfl⟩ := h
  rfl
theorem alikeC (c e : Cnd) : PySem.W.alike (encC c) (encC e) = true := by simp [encC, PySem.W.alike, PySem.W.alikeAll]
def encB (b : V × Cnd) : V × PyData := (b.1, encC b.2)
theorem w_maxC {K : PySem.W.Frag} {H : Hp} {a : Addr} {x : V × Cnd} {Y : List (V × Cnd)} {c : Cnd} {Q : VK} (h : H a = some (.lst ((x :: Y).map Prod.fst))) (hv : CndsV H (x :: Y)) (t : topC ((x :: Y).map Prod.snd) c) (k : ∀ v, CndV H v c → Q v H) : rMaxDt K [.ref a] H Q := by
  refine ⟨a, encB x, Y.map encB, rfl, ?_, ?_, ⟨?_, ?_⟩, fun b m e => ?_⟩
  · have : (encB x :: Y.map encB).map (fun b => b.1) = (x :: Y).map Prod.fst := by
      rw [List.map_cons, List.map_cons, List.map_map]
      rfl
    rw [this]
    exact SqL.of h
  · intro b m
    rw [← List.map_cons] at m
    obtain ⟨c, mc, rfl⟩ := List.mem_map.mp m
    exact ⟨(hv c mc).dp, Nat.le_of_ble_eq_true rfl⟩
  · intro d m d' m'
    rw [← List.map_cons, List.map_map] at m m'
    obtain ⟨c, _, rfl⟩ := List.mem_map.mp m
    obtain ⟨c', _, rfl⟩ := List.mem_map.mp m'
    exact alikeC _ _
  · intro d m
    rw [← List.map_cons, List.map_map] at m
    obtain ⟨c, _, rfl⟩ := List.mem_map.mp m
    exact fun z => by cases z
  · rw [← List.map_cons] at m
    obtain ⟨z, mz, rfl⟩ := List.mem_map.mp m
    have e2 : (Y.map encB).map (fun b => b.2) = (Y.map Prod.snd).map encC := by
      rw [List.map_map, List.map_map]
      rfl
    rw [e2] at e
    have e3 := e.trans (top_max (x := x.2) (l := Y.map Prod.snd) t)
    have := encC_inj e3
    have hz := hv z mz
    rw [this] at hz
    exact k _ hz
def spRate (CR : Addr) : Sp := fun vs H Q _ => ∃ (a p : Addr) (L : List Row) (x y : Nat) (day : Int), vs = [.ref a, .str (mkS [x]), .str (mkS [y]), .int day] ∧ x < 128 ∧ y < 128 ∧ RatesAt CR H a p L ∧ keysN L ∧
  (x = y → ∀ H' q, Same H H' → H' q = some (.tup [.int 1, .int 1]) → Q (.ref q) H') ∧ (x ≠ y → best2 L x y day = none → ∀ H', Same H H' → Q .non H') ∧
  (x ≠ y → ∀ c, best2 L x y day = some c → ∀ H' q, Same H H' → H' q = some (.tup [.int c.2.1, .int c.2.2]) → Q (.ref q) H')
section
variable {P : Program} {w : World} {K : PySem.W.Frag} {mg : Str → Option Value} {base : Heap}
theorem ok_Rates_rate (M : Nms K mg) : FnOk P w K mg base CX0 1 M.a_Rates_rate M.d_Rates_rate ["self", "one", "other", "day"] (spRate M.CR) := by
  refine M.F_Rates_rate.ok sc_Rates_rate (fun vs H Q E h => ?_) (fun cdv A outer s H vs Q E hr h => ?_)
  · obtain ⟨a, p, L, x, y, day, rfl, _⟩ := h
    rfl
  · have hu := hu1 hr
    have clR := M.clR
    have nR_rows := M.nR_rows
    refine ⟨_, (pss_cons (ps_if (pt_cmpR op_eq (pv 1) (pv 2) (nomark _)) (pss_one (ps_ret (pe_tup (pa_cons pe_int (pa_cons pe_int pa_nil))))) pss_nil)
    (pss_cons (ps_setLc (i := 4) (own := [("row", 5)]) rfl sc_Rates_rate.nd rfl rfl (sw_true rfl rfl rfl (by decide +kernel)) (pi_list (pe_fld (pv 0) rfl)) (blkOk_by (N := ["self", "one", "other", "day", "told", "row", "rows"]) (sc := defScope s_Rates_rate) (own := [("row", 5)]) (by decide +kernel)) (fun _ _ _ _ _ => (pg_name (i := 5) sc_Rates_rate.nd rfl (Or.inl rfl))) (fun _ _ _ _ _ => pts_one (pt_cmpR op_le (pe_ix (r := rIxT K) ix_tup (pv 5) pe_int (fun _ _ => rfl)) (pv 3) (nomark _))) (fun _ _ _ _ _ => (pv 5)))
    (pss_cons (ps_setLc (i := 6) (own := [("row", 5)]) rfl sc_Rates_rate.nd rfl rfl (sw_true rfl rfl rfl (by decide +kernel)) (pi_list (pv 4)) (blkOk_by (N := ["self", "one", "other", "day", "told", "row", "rows"]) (sc := defScope s_Rates_rate) (own := [("row", 5)]) (by decide +kernel)) (fun _ _ _ _ _ => (pg_name (i := 5) sc_Rates_rate.nd rfl (Or.inl rfl))) (fun _ _ _ _ _ => pts_one (pt_cmpR (r := rEqD K) (op_eqD hr.units) (pe_slice (r := rSlA K) sl_tupA (pv 5) po_none (po_some pe_int)) (pe_tup (pa_cons (pv 1) (pa_cons (pv 2) pa_nil))) (nomark _))) (fun _ _ _ _ _ => (pe_tup (pa_cons (pe_ix (r := rIxT K) ix_tup (pv 5) pe_int (fun _ _ => rfl)) (pa_cons pe_int (pa_cons (pe_ix (r := rIxT K) ix_tup (pv 5) pe_int (fun _ _ => rfl)) pa_nil))))))
    (pss_cons (ps_set (i := 6) sc_Rates_rate.nd rfl (Or.inl rfl) (pe_op op_cat (pv 6) (pe_lc (own := [("row", 5)]) rfl sc_Rates_rate.nd (pi_list (pv 4)) (blkOk_by (N := ["self", "one", "other", "day", "told", "row", "rows"]) (sc := defScope s_Rates_rate) (own := [("row", 5)]) (by decide +kernel)) (fun _ _ _ _ _ => (pg_name (i := 5) sc_Rates_rate.nd rfl (Or.inl rfl))) (fun _ _ _ _ _ => pts_one (pt_cmpR (r := rEqD K) (op_eqD hr.units) (pe_slice (r := rSlA K) sl_tupA (pv 5) po_none (po_some pe_int)) (pe_tup (pa_cons (pv 2) (pa_cons (pv 1) pa_nil))) (nomark _))) (fun _ _ _ _ _ => (pe_tup (pa_cons (pe_ix (r := rIxT K) ix_tup (pv 5) pe_int (fun _ _ => rfl)) (pa_cons pe_int (pa_cons (pe_tup (pa_cons (pe_ix (r := rIxT K) ix_tup (pe_ix (r := rIxT K) ix_tup (pv 5) pe_int (fun _ _ => rfl)) pe_int (fun _ _ => rfl)) (pa_cons (pe_ix (r := rIxT K) ix_tup (pe_ix (r := rIxT K) ix_tup (pv 5) pe_int (fun _ _ => rfl)) pe_int (fun _ _ => rfl)) pa_nil))) pa_nil))))))))
    (pss_one (ps_ret (pe_ifExp (pt_truth (pv 6) (by intro _; rfl)) (pe_ix (r := rIxT K) ix_tup (pe_callB (cr_maxDt rfl hr.units) (by rfl) M.T.b_max (by decide +kernel) (pa_cons (pv 6) pa_nil)) pe_int (fun _ _ => rfl)) pe_non))))))), ?_⟩
    try dsimp only [cxOf, Cx.nox]
    obtain ⟨a, p, L, x, y, day, rfl, lx, ly, ⟨dx, X, hi, hp, hX, eX, hL⟩, kL, q1, q2, q3⟩ := h
    refine w_start (σ' := [some (.ref a), some (.str (mkS [x])), some (.str (mkS [y])), some (.int day), none, none, none]) rfl ?_
    (repeat array_get_dec)
    rcases Nat.decEq x y with nxy | exy
    · refine iteF' (decide_eq_false fun z => nxy (by simpa using mkS_inj (V.str.inj z))) ?_
      (repeat array_get_dec)
      intro A hA
      have eXl : X.length = L.length := by rw [← List.length_map (f := Prod.snd), eX, (srt_perm L).length_eq]
      refine lc_list (K := K) (a := p) (xs := X.map Prod.fst) (fun i H' => H' A = some (.lst (((X.take i).filter fun b => decide (b.2.day ≤ day)).map Prod.fst)) ∧ ∀ b o, b ≠ A → H b = some o → H' b = some o) ⟨upd_same, fun b o nb e => by rw [upd_ne nb]; exact e⟩ ?_ ?_ ?_
      · rintro i H' _ ⟨h1, h2⟩
        exact SqL.of (h2 _ _ (ne_of_none hp hA) hp)
      · rintro i v H' hv ⟨h1, h2⟩
        obtain ⟨b, hb, rfl⟩ := fst_get hv
        obtain ⟨_, q0, t0, eb, r1, r2⟩ := hX b (List.mem_of_getElem? hb)
        have r1' := h2 _ _ (ne_of_none r1 hA) r1
        rw [eb]
        have lz : (((X.take i).filter fun b => decide (b.2.day ≤ day)).map Prod.fst).length < sizeLine := Nat.lt_of_le_of_lt fm_len (by rw [sizeLine_eq]; omega)
        (repeat array_get_dec)
        refine ite2 (fun z => ?_) (fun z => ?_)
        · (repeat array_get_dec)
          exact ⟨by rw [upd_same, fm_yes hb z, eb], fun b' o nb e => by rw [upd_ne nb]; exact h2 b' o nb e⟩
        · exact ⟨by rw [h1, fm_no hb (by simpa using z)], h2⟩
      · rintro H1 ⟨h1, h2⟩
        rw [List.length_map, List.take_length] at h1
        have s1 : Same H H1 := fun b o e => h2 b o (ne_of_none e hA) e
        have hX1 : RowsV H1 (X.filter fun b => decide (b.2.day ≤ day)) := fun b m => (hX b (List.mem_filter.mp m).1).keep fun _ _ e => s1 _ _ e
        have eT : (X.filter fun b => decide (b.2.day ≤ day)).map Prod.snd = (srt L).filter fun p => decide (p.day ≤ day) := by rw [← eX, List.filter_map]; rfl
        have lT : (X.filter fun b => decide (b.2.day ≤ day)).length ≤ 1000 := Nat.le_trans (List.length_filter_le _ _) (by omega)
        generalize (X.filter fun b => decide (b.2.day ≤ day)) = T at *
        (repeat array_get_dec)
        intro B hB
        refine lc_list (K := K) (a := A) (xs := T.map Prod.fst) (fun i H' => (∃ Y : List (V × Cnd), H' B = some (.lst (Y.map Prod.fst)) ∧ CndsV H' Y ∧ Y.map Prod.snd = ((T.take i).filter fun b => isK b.2 x y).map fun b => fwd b.2) ∧ ∀ b o, b ≠ B → H1 b = some o → H' b = some o) ⟨⟨[], upd_same, fun b m => by simp at m, by simp⟩, fun b o nb e => by rw [upd_ne nb]; exact e⟩ ?_ ?_ ?_
        · rintro i H' _ ⟨_, g2⟩
          exact SqL.of (g2 _ _ (ne_of_none h1 hB) h1)
        · rintro i v H' hv ⟨⟨Y, g0, g1, gs⟩, g2⟩
          obtain ⟨b, hb, rfl⟩ := fst_get hv
          obtain ⟨⟨l1, l2⟩, q0, t0, eb, r1, r2⟩ := hX1 b (List.mem_of_getElem? hb)
          have r1' := g2 _ _ (ne_of_none r1 hB) r1
          have r2' := g2 _ _ (ne_of_none r2 hB) r2
          rw [eb]
          (repeat array_get_dec)
          refine w_sl2 r1' fun u hu2 => ?_
          (repeat array_get_dec)
          refine ⟨by show 2 ≤ sizeLine; rw [sizeLine_eq]; omega, fun u2 hu3 => ?_⟩
          have nu : u ≠ u2 := fun z => by rw [z, upd_same] at hu3; cases hu3
          refine w_eq2 l1 l2 lx ly (by rw [upd_ne nu]; exact upd_same) upd_same ?_
          have s3 : Same H' (upd (upd H' u (.tup [.str (mkS [b.2.a]), .str (mkS [b.2.b])])) u2 (.tup [.str (mkS [x]), .str (mkS [y])])) := same_upd (same_upd (Same.refl _) hu2) hu3
          generalize upd (upd H' u (.tup [.str (mkS [b.2.a]), .str (mkS [b.2.b])])) u2 (.tup [.str (mkS [x]), .str (mkS [y])]) = H9 at *
          have g0' := s3 _ _ g0
          have r1'' := s3 _ _ r1'
          have r2'' := s3 _ _ r2'
          have lY : Y.length ≤ T.length := by
            have : Y.length = (Y.map Prod.snd).length := (List.length_map _).symm
            rw [this, gs]
            exact fm_len
          have lz : (Y.map Prod.fst).length < sizeLine := by rw [List.length_map, sizeLine_eq]; omega
          rw [show (decide (b.2.a = x) && decide (b.2.b = y)) = isK b.2 x y from rfl]
          refine ⟨_, rfl, ?_⟩
          refine ite2 (fun z => ?_) (fun z => ?_)
          · (repeat array_get_dec)
            refine ⟨by show 3 ≤ sizeLine; rw [sizeLine_eq]; omega, fun u3 hu4 => ?_⟩
            have nB : B ≠ u3 := ne_of_none g0' hu4
            have g0'' : upd H9 u3 (.tup [.int b.2.day, .int 1, .ref t0]) B = some (.lst (Y.map Prod.fst)) := by rw [upd_ne nB]; exact g0'
            (repeat array_get_dec)
            have s4 := same_upd (o := .tup [.int b.2.day, .int 1, .ref t0]) s3 hu4
            have fin : ∀ c xs, upd H9 u3 (.tup [.int b.2.day, .int 1, .ref t0]) c = some (.tup xs) → upd (upd H9 u3 (.tup [.int b.2.day, .int 1, .ref t0])) B (.lst (Y.map Prod.fst ++ [.ref u3])) c = some (.tup xs) := fun c xs e => by
              rw [upd_ne (fun z => by rw [z, g0''] at e; cases e)]; exact e
            refine ⟨⟨Y ++ [(.ref u3, fwd b.2)], by rw [List.map_append]; exact upd_same, fun c m => ?_, by rw [List.map_append, gs, fm_yes hb z]; rfl⟩, fun b' o nb e => ?_⟩
            · rcases List.mem_append.mp m with m | m
              · exact (g1 c m).keep fun _ _ e => fin _ _ (s4 _ _ e)
              · rw [List.mem_singleton.mp m]
                exact ⟨u3, t0, rfl, fin _ _ upd_same, fin _ _ (s4 _ _ r2')⟩
            · rw [upd_ne nb]
              exact s4 _ _ (g2 b' o nb e)
          · exact ⟨⟨Y, g0', fun c m => (g1 c m).keep fun _ _ e => s3 _ _ e, by rw [gs, fm_no hb (by simpa using z)]⟩, fun b' o nb e => s3 _ _ (g2 b' o nb e)⟩
        · rintro H2 ⟨⟨Y, g0, g1, gs⟩, g2⟩
          rw [List.length_map, List.take_length] at gs
          have s2 : Same H1 H2 := fun b o e => g2 b o (ne_of_none e hB) e
          have h1' := s2 _ _ h1
          (repeat array_get_dec)
          intro C hC
          have lY : Y.length ≤ T.length := by
            have : Y.length = (Y.map Prod.snd).length := (List.length_map _).symm
            rw [this, gs, List.length_map]
            exact List.length_filter_le _ _
          refine lc_list (K := K) (a := A) (xs := T.map Prod.fst) (fun i H' => (∃ Z : List (V × Cnd), H' C = some (.lst (Z.map Prod.fst)) ∧ CndsV H' Z ∧ Z.map Prod.snd = ((T.take i).filter fun b => isK b.2 y x).map fun b => bwd b.2) ∧ ∀ b o, b ≠ C → H2 b = some o → H' b = some o) ⟨⟨[], upd_same, fun b m => by simp at m, by simp⟩, fun b o nb e => by rw [upd_ne nb]; exact e⟩ ?_ ?_ ?_
          · rintro i H' _ ⟨_, k2⟩
            exact SqL.of (k2 _ _ (ne_of_none h1' hC) h1')
          · rintro i v H' hv ⟨⟨Z, k0, k1, ks⟩, k2⟩
            obtain ⟨b, hb, rfl⟩ := fst_get hv
            obtain ⟨⟨l1, l2⟩, q0, t0, eb, r1, r2⟩ := hX1 b (List.mem_of_getElem? hb)
            have r1' := k2 _ _ (ne_of_none (s2 _ _ r1) hC) (s2 _ _ r1)
            have r2' := k2 _ _ (ne_of_none (s2 _ _ r2) hC) (s2 _ _ r2)
            rw [eb]
            (repeat array_get_dec)
            refine w_sl2 r1' fun u hu2 => ?_
            (repeat array_get_dec)
            refine ⟨by show 2 ≤ sizeLine; rw [sizeLine_eq]; omega, fun u2 hu3 => ?_⟩
            have nu : u ≠ u2 := fun z => by rw [z, upd_same] at hu3; cases hu3
            refine w_eq2 l1 l2 ly lx (by rw [upd_ne nu]; exact upd_same) upd_same ?_
            have s3 : Same H' (upd (upd H' u (.tup [.str (mkS [b.2.a]), .str (mkS [b.2.b])])) u2 (.tup [.str (mkS [y]), .str (mkS [x])])) := same_upd (same_upd (Same.refl _) hu2) hu3
            generalize upd (upd H' u (.tup [.str (mkS [b.2.a]), .str (mkS [b.2.b])])) u2 (.tup [.str (mkS [y]), .str (mkS [x])]) = H9 at *
            have k0' := s3 _ _ k0
            have r1'' := s3 _ _ r1'
            have r2'' := s3 _ _ r2'
            have lZ : Z.length ≤ T.length := by
              have : Z.length = (Z.map Prod.snd).length := (List.length_map _).symm
              rw [this, ks]
              exact fm_len
            have lz : (Z.map Prod.fst).length < sizeLine := by rw [List.length_map, sizeLine_eq]; omega
            rw [show (decide (b.2.a = y) && decide (b.2.b = x)) = isK b.2 y x from rfl]
            refine ⟨_, rfl, ?_⟩
            refine ite2 (fun z => ?_) (fun z => ?_)
            · (repeat array_get_dec)
              refine ⟨by show 2 ≤ sizeLine; rw [sizeLine_eq]; omega, fun u4 hu5 => ?_⟩
              (repeat array_get_dec)
              refine ⟨by show 3 ≤ sizeLine; rw [sizeLine_eq]; omega, fun u3 hu4 => ?_⟩
              have nC : C ≠ u4 := ne_of_none k0' hu5
              have k0a : upd H9 u4 (.tup [.int b.2.d, .int b.2.n]) C = some (.lst (Z.map Prod.fst)) := by rw [upd_ne nC]; exact k0'
              have nC3 : C ≠ u3 := ne_of_none k0a hu4
              have n43 : u4 ≠ u3 := ne_of_none upd_same hu4
              have s4 := same_upd (o := .tup [.int b.2.day, .int 0, .ref u4]) (same_upd (o := .tup [.int b.2.d, .int b.2.n]) s3 hu5) hu4
              have k0'' : upd (upd H9 u4 (.tup [.int b.2.d, .int b.2.n])) u3 (.tup [.int b.2.day, .int 0, .ref u4]) C = some (.lst (Z.map Prod.fst)) := by rw [upd_ne nC3]; exact k0a
              have e4 : upd (upd H9 u4 (.tup [.int b.2.d, .int b.2.n])) u3 (.tup [.int b.2.day, .int 0, .ref u4]) u4 = some (.tup [.int b.2.d, .int b.2.n]) := by rw [upd_ne n43]; exact upd_same
              have e3 : upd (upd H9 u4 (.tup [.int b.2.d, .int b.2.n])) u3 (.tup [.int b.2.day, .int 0, .ref u4]) u3 = some (.tup [.int b.2.day, .int 0, .ref u4]) := upd_same
              generalize upd (upd H9 u4 (.tup [.int b.2.d, .int b.2.n])) u3 (.tup [.int b.2.day, .int 0, .ref u4]) = G at *
              (repeat array_get_dec)
              have fin : ∀ c xs, G c = some (.tup xs) → upd G C (.lst (Z.map Prod.fst ++ [.ref u3])) c = some (.tup xs) := fun c xs e => by
                rw [upd_ne (fun z => by rw [z, k0''] at e; cases e)]; exact e
              refine ⟨⟨Z ++ [(.ref u3, bwd b.2)], by rw [List.map_append]; exact upd_same, fun c m => ?_, by rw [List.map_append, ks, fm_yes hb z]; rfl⟩, fun b' o nb e => ?_⟩
              · rcases List.mem_append.mp m with m | m
                · exact (k1 c m).keep fun _ _ e => fin _ _ (s4 _ _ e)
                · rw [List.mem_singleton.mp m]
                  exact ⟨u3, u4, rfl, fin _ _ e3, fin _ _ e4⟩
              · rw [upd_ne nb]
                exact s4 _ _ (k2 b' o nb e)
            · exact ⟨⟨Z, k0', fun c m => (k1 c m).keep fun _ _ e => s3 _ _ e, by rw [ks, fm_no hb (by simpa using z)]⟩, fun b' o nb e => s3 _ _ (k2 b' o nb e)⟩
          · rintro H3 ⟨⟨Z, k0, k1, ks⟩, k2⟩
            rw [List.length_map, List.take_length] at ks
            have s3 : Same H2 H3 := fun b o e => k2 b o (ne_of_none e hC) e
            have g0' := s3 _ _ g0
            have lZ : Z.length ≤ T.length := by
              have : Z.length = (Z.map Prod.snd).length := (List.length_map _).symm
              rw [this, ks, List.length_map]
              exact List.length_filter_le _ _
            (repeat array_get_dec)
            refine w_catL g0' k0 (by rw [List.length_map, List.length_map]; omega) fun r hr2 => ?_
            have s4 : Same H (upd H3 r (.lst (Y.map Prod.fst ++ Z.map Prod.fst))) := same_upd ((s1.trans s2).trans s3) hr2
            have cv : CndsV (upd H3 r (.lst (Y.map Prod.fst ++ Z.map Prod.fst))) (Y ++ Z) := fun b m => by
              rcases List.mem_append.mp m with m | m
              · exact (g1 b m).keep fun c _ e => by rw [upd_ne (ne_of_none (s3 _ _ e) hr2)]; exact s3 _ _ e
              · exact (k1 b m).keep fun c _ e => by rw [upd_ne (ne_of_none e hr2)]; exact e
            have hr3 : upd H3 r (.lst (Y.map Prod.fst ++ Z.map Prod.fst)) r = some (.lst ((Y ++ Z).map Prod.fst)) := by rw [List.map_append]; exact upd_same
            generalize upd H3 r (.lst (Y.map Prod.fst ++ Z.map Prod.fst)) = H4 at *
            have eYZ : (Y ++ Z).map Prod.snd = cnds (srt L) x y day := by
              unfold cnds
              rw [List.map_append, gs, ks, ← eT, List.filter_map, List.filter_map, List.map_map, List.map_map]
              rfl
            have bt := best_srt (x := x) (y := y) (day := day) kL
            rw [← eYZ] at bt
            (repeat array_get_dec)
            cases eW : Y ++ Z with
            | nil =>
              rw [eW] at bt hr3
              have eb : best2 L x y day = none := by
                cases e : best2 L x y day with
                | none => rfl
                | some c =>
                  rw [e] at bt
                  obtain ⟨f, tc, _⟩ := bt
                  simp at tc
              (repeat array_get_dec)
              exact q2 nxy eb _ s4
            | cons w0 W =>
              rw [eW] at bt hr3 cv
              (repeat array_get_dec)
              cases e : best2 L x y day with
              | none =>
                rw [e] at bt
                have bt' : (w0 :: W).map Prod.snd = [] := bt
                simp at bt'
              | some c =>
                rw [e] at bt
                obtain ⟨f, tc⟩ := bt
                refine w_maxC hr3 cv tc fun v hv => ?_
                obtain ⟨q0, t0, rfl, o1, o2⟩ := hv
                (repeat array_get_dec)
                exact q3 nxy c e _ t0 s4 o2
    · refine iteT' (decide_eq_true (by rw [exy])) ?_
      (repeat array_get_dec)
      refine ⟨by show 2 ≤ sizeLine; rw [sizeLine_eq]; omega, fun u hu2 => ?_⟩
      (repeat array_get_dec)
      exact q1 exy _ u (same_upd (Same.refl _) hu2) upd_same
end
end K78

namespace K78
open PySem PySem.Spec PyProof.Rows L2
local macro_rules | `(tactic| array_mem_dec) => `(tactic| first | with_reducible assumption | with_reducible exact upd_same | ((with_reducible apply same_at); (with_reducible assumption); array_mem_dec) | ((with_reducible apply upd_atN); (with_reducible assumption); array_mem_dec) | ((with_reducible apply upd_at); (first | with_reducible assumption | (apply Ne.symm; with_reducible assumption)); array_mem_dec))
local macro_rules | `(tactic| array_get_dec) => `(tactic| first | (with_reducible refine w_seq ?_) | (with_reducible refine w_asg ?_) | (with_reducible refine w_drop ?_) | (with_reducible refine w_ret ?_) | (with_reducible refine w_retN ?_) | (with_reducible refine w_next ?_) | (with_reducible refine w_break ?_) | (with_reducible refine w_cont ?_) | (with_reducible refine w_ifS ?_) | (with_reducible refine w_sub ?_) | (with_reducible refine w_c ?_) | (with_reducible refine w_op ?_) | (with_reducible refine w_un ?_) | (with_reducible refine w_test ?_) | (with_reducible refine w_B ?_) | (with_reducible refine w_yes ?_) | (with_reducible refine w_not ?_) | (with_reducible refine w_and ?_) | (with_reducible refine w_or ?_) | (with_reducible refine w_andV ?_) | (with_reducible refine w_orV ?_) | (with_reducible refine w_notV ?_) | (with_reducible refine w_ifE ?_) | (with_reducible refine w_nil ?_) | (with_reducible refine w_cons ?_) | (with_reducible refine w_call ?_) | (with_reducible refine w_callS ?_) | (with_reducible refine w_cB ?_) | (with_reducible refine w_lst ?_) | (with_reducible refine w_tup ?_) | (with_reducible refine w_sl ?_) | (with_reducible refine w_noPart ?_) | (with_reducible refine w_part ?_) | (with_reducible refine w_bm ?_) | (with_reducible refine w_bm0 ?_) | (with_reducible refine w_strTy ?_) | (with_reducible refine w_bl ?_) | (with_reducible refine w_int1 ?_) | (with_reducible refine w_str1 ?_) | (with_reducible refine w_rI0 ?_) | (with_reducible refine w_rU ?_) | (with_reducible refine w_eqI ?_) | (with_reducible refine w_eqS ?_) | (with_reducible refine w_neI ?_) | (with_reducible refine w_neS ?_) | (with_reducible refine w_bl2 ?_) | (with_reducible refine w_isN ?_) | (with_reducible refine w_for ?_) | (with_reducible refine w_iRng1 ?_) | (with_reducible refine w_iRng2 ?_) | (with_reducible refine w_iList ?_) | (with_reducible refine w_iTup ?_) | (with_reducible refine w_iStr ?_) | (with_reducible refine w_lc ?_) | (with_reducible refine w_M1 ?_) | (with_reducible refine w_M0 ?_) | (with_reducible refine w_isS ?_) | ((with_reducible apply w_name); (simp only [wipe, List.map_cons, List.map_nil, List.foldl_cons, List.foldl_nil, List.set_cons_zero, List.set_cons_succ]; exact rfl)) | ((with_reducible apply w_var); exact rfl) | ((with_reducible apply w_lstTy); array_mem_dec) | ((with_reducible apply w_lenL); array_mem_dec) | ((with_reducible apply w_lenT); array_mem_dec) | ((with_reducible apply w_listOf); array_mem_dec) | ((with_reducible apply w_lenS); (first | (with_reducible assumption) | omega | (rw [sizeLine_eq]; omega))) | ((with_reducible apply w_slS); (first | (with_reducible assumption) | omega | (rw [sizeLine_eq]; omega))) | ((with_reducible apply w_wipe); exact rfl) | ((with_reducible apply w_acc); array_mem_dec; (try (first | (with_reducible assumption) | omega | (rw [sizeLine_eq]; omega)))) | ((with_reducible apply w_itl); array_mem_dec) | ((with_reducible apply w_itt); array_mem_dec) | ((with_reducible apply w_append); array_mem_dec; (try (first | (with_reducible assumption) | omega | (rw [sizeLine_eq]; omega)))) | ((with_reducible apply w_rng1); (first | (with_reducible assumption) | omega); (first | (with_reducible assumption) | omega)) | ((with_reducible apply w_ixL); array_mem_dec; (first | (with_reducible assumption) | exact rfl | (apply atI_nat; (with_reducible assumption)) | exact atI_last _ _)) | ((with_reducible apply w_ixT); array_mem_dec; (first | (with_reducible assumption) | exact rfl | (apply atI_nat; (with_reducible assumption)) | exact atI_last _ _)) | ((with_reducible apply w_iT); first | exact rfl | (with_reducible assumption)) | ((with_reducible apply w_iF); first | exact rfl | (with_reducible assumption)) | ((with_reducible apply w_isiI (b := true)); decide +kernel) | ((with_reducible apply w_isiI (b := false)); decide +kernel) | ((with_reducible apply w_isiB (b := true)); decide +kernel) | ((with_reducible apply w_isiB (b := false)); decide +kernel) | ((with_reducible apply w_isiS (b := true)); decide +kernel) | ((with_reducible apply w_isiS (b := false)); decide +kernel) | ((with_reducible apply w_isiN (b := true)); decide +kernel) | ((with_reducible apply w_isiN (b := false)); decide +kernel) | ((with_reducible apply w_isiL (b := true)); array_mem_dec; decide +kernel) | ((with_reducible apply w_isiL (b := false)); array_mem_dec; decide +kernel) | ((with_reducible apply w_isiT (b := true)); array_mem_dec; decide +kernel) | ((with_reducible apply w_isiT (b := false)); array_mem_dec; decide +kernel) | (with_reducible refine w_notT ?_) | (with_reducible refine w_chain ?_) | ((with_reducible apply w_trL); array_mem_dec) | ((with_reducible apply w_gTup); array_mem_dec; exact rfl) | ((with_reducible apply w_gLst); array_mem_dec; exact rfl) | (with_reducible refine w_gCons ?_) | (with_reducible refine w_gNil ?_) | (with_reducible refine w_Fld ?_) | (with_reducible refine w_sFld ?_) | (with_reducible refine w_dget ?_) | (with_reducible refine w_dIn ?_) | (with_reducible refine w_dNotIn ?_) | (with_reducible refine w_sDPut ?_) | (with_reducible refine w_dnewK ?_) | (with_reducible refine w_meth ?_) | (with_reducible refine w_make ?_) | (with_reducible refine w_methS ?_) | (with_reducible refine w_makeS ?_) | (with_reducible refine w_dpop ?_) | ((with_reducible apply w_fld1); array_mem_dec; (with_reducible assumption); (with_reducible assumption); exact rfl) | ((with_reducible apply w_sfld1); array_mem_dec; (with_reducible assumption); (with_reducible assumption); exact Nat.le_of_ble_eq_true rfl) | ((with_reducible apply w_meth1); array_mem_dec; exact rfl) | ((with_reducible apply w_dgetS); array_mem_dec; (with_reducible assumption)) | ((with_reducible apply w_dgetI); array_mem_dec; (with_reducible assumption)) | ((with_reducible apply w_dinS); array_mem_dec) | ((with_reducible apply w_dputI); array_mem_dec; (try (first | (with_reducible assumption) | omega | (rw [sizeLine_eq]; omega)))) | ((with_reducible apply w_dputS); array_mem_dec; (try (first | (with_reducible assumption) | omega | (rw [sizeLine_eq]; omega)))) | ((with_reducible apply w_isD); array_mem_dec) | ((with_reducible apply w_dictD); array_mem_dec) | ((with_reducible apply w_dpopS); array_mem_dec; (with_reducible assumption)))
/-! ### the refusal of a caught exception -/
theorem badR.keep {H H' : Hp} {v : V} (h : badR H v) (s : Same H H') : badR H' v := by
  rcases h with h | ⟨t, xs, e, h⟩ | ⟨t, xs, e, h, r⟩
  · exact .inl h
  · exact .inr (.inl ⟨t, xs, e, s _ _ h⟩)
  · exact .inr (.inr ⟨t, xs, e, s _ _ h, r⟩)
section
variable {P : Program} {w : World} {K : PySem.W.Frag} {mg : Str → Option Value} {base : Heap}
theorem w_isE {D a : Addr} {c : V} {cv : Value} {b : Bool} {H : Hp} {Q : VK} (h : ∀ u, RelV c u → u = cv) (k : PySem.W.kitOne K (.ref D) cv = some b) (q : Q (.bl b) H) : rIsE K D a [.ref a, c] H Q := ⟨c, cv, b, rfl, h, k, q⟩
theorem fn_refusal (M : Nms K mg) {C : Addr} {bN bP : Bool} (Y : CatchT K mg M.CE C) (kN : PySem.W.kitOne K (.ref C) (.ref M.CN) = some bN) (kP : PySem.W.kitOne K (.ref C) (.ref M.CP) = some bP) (one : bP = !bN) :
    FnE P w K mg base C 1 M.a__law_refusal M.d__law_refusal ["problem"] (.str (if bN = true then Str.ofString "number" else Str.ofString "paper")) := by
  refine fnE_of M.F__law_refusal sc__law_refusal rfl fun cd A outer z G Q p hot zc room q => ?_
  have hotc : L2H.HotC (L2H.cxH CX0 P w K mg base ["problem", "kinds", "found", "k"] "_law_refusal" (defScope s__law_refusal) M.a__law_refusal cd A outer z G E0 p) := ⟨p, hot, List.mem_singleton_self _⟩
  have fl : ∃ vs, p.2.data = .fields vs := by obtain ⟨_, vs, e, _⟩ := hot; exact ⟨vs, e⟩
  refine ⟨_, (pss_cons (ps_set (i := 1) sc__law_refusal.nd rfl (Or.inr rfl) (pe_lst (pa_cons (pe_callB (call_isP Y.ec zc fl (List.mem_singleton_self _)) (by rfl) M.T.b_isinstance (by decide +kernel) (pa_cons (pv 0) (pa_cons (pe_glob (v := .ref M.CN) rfl M.XN.gP rfl) pa_nil))) (pa_cons (pe_callB (call_isP Y.ec zc fl (List.mem_singleton_self _)) (by rfl) M.T.b_isinstance (by decide +kernel) (pa_cons (pv 0) (pa_cons (pe_glob (v := .ref M.CP) rfl M.XP.gP rfl) pa_nil))) pa_nil)))) (pss_cons (ps_hotLc (i := 2) (own := [("k", 3)])  hotc sc__law_refusal.nd rfl rfl (sw_true rfl rfl rfl (by decide +kernel)) (L2H.pi_range1H (by rfl) M.T.b_range (pa_cons pe_int pa_nil)) (blkOk_by (N := ["problem", "kinds", "found", "k"]) (sc := defScope s__law_refusal) (own := [("k", 3)]) (by decide +kernel)) (fun _ _ _ _ _ => (pg_name (i := 3) sc__law_refusal.nd rfl (Or.inl rfl))) (fun _ _ _ _ _ => pts_one (pt_val (pe_ix (r := rIxL K) ix_list (pv 1) (pv 3) (fun _ _ => rfl)))) (fun _ _ _ _ _ => (pe_ix (r := rIxL K) ix_list (pe_lst (pa_cons pe_str (pa_cons pe_str pa_nil))) (pv 3) (fun _ _ => rfl)))) (pss_one (ps_ret (pe_ifExp (PW.pt (pw_and (pt_cmpR op_eq (pe_callB call_len (by rfl) M.T.b_len (by decide +kernel) (pa_cons (pv 2) pa_nil)) pe_int (nomark _)) (pw_and1 (pt_val (pe_callB (call_isP Y.ec zc fl (List.mem_singleton_self _)) (by rfl) M.T.b_isinstance (by decide +kernel) (pa_cons (pv 0) (pa_cons (pe_bltn (v := .ty "ValueError") (u := .type "ValueError") (by rfl) M.T.b_ValueError (by decide +kernel) rfl) pa_nil))))))) (pe_ix (r := rIxL K) ix_list (pv 2) pe_int (fun _ _ => rfl)) pe_str))))), ?_⟩
  have hP : PySem.W.kitOne K (.ref C) (.ref M.CP) = some (!bN) := by rw [← one]; exact kP
  refine w_start (σ' := [some (.ref p.1), none, none, none]) rfl ?_
  (repeat array_get_dec)
  refine w_isE (fun u r => r) kN ?_
  (repeat array_get_dec)
  refine w_isE (fun u r => r) hP ?_
  (repeat array_get_dec)
  refine ⟨by show 2 ≤ sizeLine; decide, fun kq hkq => ?_⟩
  have s0 := same_upd (o := .lst [.bl bN, .bl (!bN)]) (Same.refl G) hkq
  (repeat array_get_dec)
  intro A hA
  have a0 : atI [V.bl bN, V.bl (!bN)] ((0 : Nat) : Int) = some (.bl bN) := atI_nat (j := 0) rfl
  have a1 : atI [V.bl bN, V.bl (!bN)] ((1 : Nat) : Int) = some (.bl (!bN)) := atI_nat (j := 1) rfl
  refine lc_range (fun i H' => H' A = some (.lst (if i = 0 then [] else if i = 1 then (if bN = true then [.str (Str.ofString "number")] else []) else [.str (if bN = true then Str.ofString "number" else Str.ofString "paper")])) ∧ ∀ b o, b ≠ A → upd G kq (.lst [.bl bN, .bl (!bN)]) b = some o → H' b = some o) ⟨upd_same, fun b o nb e => by rw [upd_ne nb]; exact e⟩ ?_ ?_
  · rintro i H' hi ⟨h1, h2⟩
    have hk : H' kq = some (.lst [.bl bN, .bl (!bN)]) := h2 _ _ (ne_of_none upd_same hA) upd_same
    rw [Int.zero_add]
    have hi' : i < 2 := hi
    have w0 : atI [V.str (Str.ofString "number"), V.str (Str.ofString "paper")] ((0 : Nat) : Int) = some (.str (Str.ofString "number")) := atI_nat (j := 0) rfl
    have w1 : atI [V.str (Str.ofString "number"), V.str (Str.ofString "paper")] ((1 : Nat) : Int) = some (.str (Str.ofString "paper")) := atI_nat (j := 1) rfl
    match i, hi' with
    | 0, _ =>
      rw [if_pos rfl] at h1
      have lz : ([] : List V).length < sizeLine := by rw [sizeLine_eq]; decide
      (repeat array_get_dec)
      refine ite2 (fun hb => ?_) (fun hb => ?_)
      · (repeat array_get_dec)
        refine ⟨by show 2 ≤ sizeLine; decide, fun l hl => ?_⟩
        (repeat array_get_dec)
        refine ⟨by rw [upd_same, if_neg (by decide), if_pos rfl, if_pos hb]; rfl, fun b o nb e => by
          have e2 := h2 b o nb e
          rw [upd_ne nb, upd_ne (ne_of_none e2 hl)]; exact e2⟩
      · refine ⟨by rw [h1, if_neg (by decide), if_pos rfl, if_neg hb], h2⟩
    | 1, _ =>
      rw [if_neg (by decide), if_pos rfl] at h1
      have lz : (if bN = true then [V.str (Str.ofString "number")] else []).length < sizeLine := by
        rw [sizeLine_eq]
        split <;> simp
      (repeat array_get_dec)
      refine ite2 (fun hb => ?_) (fun hb => ?_)
      · have hb' : bN = false := by simpa using hb
        (repeat array_get_dec)
        refine ⟨by show 2 ≤ sizeLine; decide, fun l hl => ?_⟩
        (repeat array_get_dec)
        refine ⟨by rw [upd_same, hb']; rfl, fun b o nb e => by
          have e2 := h2 b o nb e
          rw [upd_ne nb, upd_ne (ne_of_none e2 hl)]; exact e2⟩
      · have hb' : bN = true := by simpa using hb
        refine ⟨by rw [h1, hb']; rfl, h2⟩
  · rintro H' ⟨h1, h2⟩
    have h1' : H' A = some (.lst [.str (if bN = true then Str.ofString "number" else Str.ofString "paper")]) := h1
    have w0 : atI [V.str (if bN = true then Str.ofString "number" else Str.ofString "paper")] (0 : Int) = some (.str (if bN = true then Str.ofString "number" else Str.ofString "paper")) := atI_nat (j := 0) rfl
    (repeat array_get_dec)
    refine w_isE (cv := .type "ValueError") (fun u r => r) Y.kV ?_
    (repeat array_get_dec)
    refine q H' fun b o e => ?_
    refine h2 b o (fun z => ?_) (by rw [upd_ne (ne_of_none e hkq)]; exact e)
    rw [z] at e
    have := upd_ne (H := G) (o := .lst [V.bl bN, V.bl (!bN)]) (ne_of_none e hkq)
    rw [hA, e] at this
    cases this
theorem takes0N {X : Cx} : L2N.Takes X (fun _ _ _ _ => False) := fun _ _ x => by
  obtain ⟨_, _, _, _, _, _, _, _, _, _, _, _, _, _, _, _, z⟩ := x
  exact z.elim
theorem room_mark {k : Nat} {A : Around} (r : Room k A) (h : Option Value) : L2H.RoomH k (A.mark h) := ⟨r.dp, r.un⟩
theorem pss_ex {X : Cx} {st : List Stmt} {α : Type} {t : α → TS} (h : ∀ b, PSs X st (t b)) : PSs X st (fun D σ H => ∃ b, t b D σ H) := ⟨fun pins s σ H D I ⟨b, ht⟩ => (h b).run pins s σ H D I ht⟩
def refS (b : Bool) : V := .str (if b = true then Str.ofString "number" else Str.ofString "paper")
theorem fnE_b (M : Nms K mg) (b : Bool) : FnE P w K mg base (cond b M.CN M.CP) 1 M.a__law_refusal M.d__law_refusal ["problem"] (refS b) := by
  cases b
  · exact fn_refusal M M.YP M.notNP M.YP.kC rfl
  · exact fn_refusal M M.YN M.YN.kC M.notPN rfl
def refC (CN CP : Addr) (H : Hp) (c : Int) (v1 v2 v3 : V) (b : Bool) : Prop :=
  (c = 0 ∧ ∀ Q E, (∀ H', Same H H' → E (.ref (cond b CN CP)) none H') → spChanged CN CP [v1, v2] H Q E) ∨
  (c = 1 ∧ b = false ∧ badR H v1) ∨
  (c = 2 ∧ b = false ∧ ∃ t xs, v1 = .ref t ∧ H t = some (.lst xs) ∧ badW xs) ∨
  (c = 3 ∧ ∀ Q E, (∀ H', Same H H' → E (.ref (cond b CN CP)) none H') → spShared CN CP [v1, v2] H Q E) ∨
  (c = 4 ∧ ∃ x y bx bY, v2 = .str (mkS [x]) ∧ v3 = .str (mkS [y]) ∧ numV v1 ∧ nameC x bx ∧ nameC y bY ∧ ((okN 0 100000 v1 = false ∧ b = true) ∨ (okN 0 100000 v1 = true ∧ (bx = false ∨ bY = false ∨ x = y) ∧ b = false))) ∨
  (c = 5 ∧ b = false ∧ badR H v1)
def spRefused (CN CP : Addr) : Sp := fun vs H Q _ => ∃ (c : Int) (v1 v2 v3 : V) (b : Bool), vs = [.int c, v1, v2, v3] ∧ refC CN CP H c v1 v2 v3 b ∧ ∀ H', Same H H' → Q (refS b) H'
theorem ok__law_refused (M : Nms K mg) : FnOk P w K mg base CX0 6 M.a__law_refused M.d__law_refused ["choice", "one", "two", "three"] (spRefused M.CN M.CP) := by
  refine M.F__law_refused.ok sc__law_refused (fun vs H Q E h => ?_) (fun cdv A outer s H vs Q E hr h => ?_)
  · obtain ⟨c, v1, v2, v3, b, rfl, _⟩ := h
    rfl
  · have clR := M.clR
    have nR_rows := M.nR_rows
    refine ⟨_, pss_cons (L2N.ps_try_as (i := 4) (tb := fun W => tIfS (tTest (tOp rEq (tVar 0) (tC (.int 0)))) (tDrop (tCallS (spChanged M.CN M.CP) (WE W) (tCons (tVar 1) (tCons (tVar 2) tNil))))
          (tIfS (tTest (tOp rEq (tVar 0) (tC (.int 1)))) (tDrop (tCallS (spCRate M.CP) (WE W) (tCons (tVar 1) tNil)))
          (tIfS (tTest (tOp rEq (tVar 0) (tC (.int 2)))) (tDrop (tCallS (spCW M.CP) (WE W) (tCons (tVar 1) tNil)))
          (tIfS (tTest (tOp rEq (tVar 0) (tC (.int 3)))) (tDrop (tCallS (spShared M.CN M.CP) (WE W) (tCons (tVar 1) (tCons (tVar 2) tNil))))
          (tIfS (tTest (tOp rEq (tVar 0) (tC (.int 4)))) (tDrop (tMethS M.CR "tell" (spTell M.CR M.CN M.CP) (WE W) (tMake M.CR (spInitR M.CR) [] E0 tNil) (tCons (tVar 1) (tCons (tVar 2) (tCons (tVar 3) (tCons (tTup (tCons (tC (.int 1)) (tCons (tC (.int 1)) tNil))) tNil))))))
            (tDrop (tMethS M.CR "tell" (spTell M.CR M.CN M.CP) (WE W) (tMake M.CR (spInitR M.CR) [] E0 tNil) (tCons (tC (.int 1)) (tCons (tC (.str (Str.ofString "u"))) (tCons (tC (.str (Str.ofString "v"))) (tCons (tVar 1) tNil)))))))))))
        (ts := fun a cls d D σ H => ∃ b : Bool, (cls = .ref (cond b M.CN M.CP) ∧ d = none) ∧ tRet (fun σ H Q => σ[4]? = some (some (.ref a)) ∧ ∀ H', Same H H' → Q (refS b) H') D σ H) (Wout := fun _ _ _ _ => False)
        rfl rfl sc__law_refused.nd rfl rfl ⟨rfl, by decide, .inl M.YP.gD⟩ takes0N
        (fun W pn xe tk _ => pss_one (ps_if (pt_cmpR op_eq (pv 0) pe_int (nomark _)) (pss_one (ps_expr (by exact (pe_callS (ok_changed M) (hr.mono (by decide)) rfl M.g_changed M.k_changed M.b_changed (fun σ => L2N.passAt tk σ) (by exact (pa_cons (pv 1) (pa_cons (pv 2) pa_nil)))))))
            (pss_one (ps_if (pt_cmpR op_eq (pv 0) pe_int (nomark _)) (pss_one (ps_expr (by exact (pe_callS (ok_checked_rate M) (hr.mono (by decide)) rfl M.g_checked_rate M.k_checked_rate M.b_checked_rate (fun σ => L2N.passAt tk σ) (by exact (pa_cons (pv 1) pa_nil))))))
            (pss_one (ps_if (pt_cmpR op_eq (pv 0) pe_int (nomark _)) (pss_one (ps_expr (by exact (pe_callS (ok_checked_weights M) (hr.mono (by decide)) rfl M.g_checked_weights M.k_checked_weights M.b_checked_weights (fun σ => L2N.passAt tk σ) (by exact (pa_cons (pv 1) pa_nil))))))
            (pss_one (ps_if (pt_cmpR op_eq (pv 0) pe_int (nomark _)) (pss_one (ps_expr (by exact (pe_callS (ok_shared M) (hr.mono (by decide)) rfl M.g_shared M.k_shared M.b_shared (fun σ => L2N.passAt tk σ) (by exact (pa_cons (pv 1) (pa_cons (pv 2) pa_nil)))))))
            (pss_one (ps_if (pt_cmpR op_eq (pv 0) pe_int (nomark _)) (pss_one (ps_expr (by exact (pe_methS1 (pe_make0 M.mkR (ok_Rates___init__ M) (hr.mono (by decide)) rfl M.gR M.b_Rates___init__ .nil pass0) M.clR M.m_Rates_tell (ok_Rates_tell M) (hr.mono (by decide)) M.b_Rates_tell (fun σ => L2N.passAt tk σ) (by exact (pa_cons (pv 1) (pa_cons (pv 2) (pa_cons (pv 3) (pa_cons (pe_tup (pa_cons pe_int (pa_cons pe_int pa_nil))) pa_nil))))))))) (pss_one (ps_expr (by exact (pe_methS1 (pe_make0 M.mkR (ok_Rates___init__ M) (hr.mono (by decide)) rfl M.gR M.b_Rates___init__ .nil pass0) M.clR M.m_Rates_tell (ok_Rates_tell M) (hr.mono (by decide)) M.b_Rates_tell (fun σ => L2N.passAt tk σ) (by exact (pa_cons pe_int (pa_cons pe_str (pa_cons pe_str (pa_cons (pv 1) pa_nil)))))))))))))))))))
        (fun a oe cls d pn hz hf => pss_ex fun b => pss_when fun hp => by
          obtain ⟨rfl, rfl⟩ := hp
          obtain ⟨ws, ew⟩ := hf
          exact pss_one (ps_ret (pe_handed (fnE_b M b) (room_mark (k := 1) (hr.mono (by decide)) _) hz.zc ⟨rfl, ws, ew, hz.2.2 ws ew⟩ rfl M.g__law_refusal M.k__law_refusal M.b__law_refusal rfl (Or.inl rfl)))))
      (pss_one (ps_ret pe_str)), ?_⟩
    obtain ⟨c, v1, v2, v3, b, rfl, h, q⟩ := h
    have caught : ∀ (b : Bool) (σ : L2.St) (D : Ends) (H' : Hp), σ.length = 5 → (∀ H2, Same H' H2 → D.rt (refS b) H2) → WE (wAs K (.ref M.CE) 4 (fun a cls d D σ H => ∃ b : Bool, (cls = .ref (cond b M.CN M.CP) ∧ d = none) ∧ tRet (fun σ H Q => σ[4]? = some (some (.ref a)) ∧ ∀ H', Same H H' → Q (refS b) H') D σ H) (fun _ _ _ _ => False) D) σ (.ref (cond b M.CN M.CP)) none H' := by
      intro b σ D H' hl q
      refine ⟨true, by cases b; exact M.YP.exm; exact M.YN.exm, fun _ a ha => ⟨b, ⟨rfl, rfl⟩, List.getElem?_set_self (by omega), q⟩, fun z => by cases z⟩
    refine w_start (σ' := [some (.int c), some v1, some v2, some v3, none]) rfl ?_
    (repeat array_get_dec)
    rcases h with ⟨rfl, h⟩ | ⟨rfl, rfl, h⟩ | ⟨rfl, rfl, t, xs, rfl, h1, h2⟩ | ⟨rfl, h⟩ | ⟨rfl, x, y, bx, bY, rfl, rfl, h1, h2, h3, h4⟩ | ⟨rfl, rfl, h⟩
    · (repeat array_get_dec)
      exact h _ _ fun H' s => caught b _ _ _ rfl fun H2 s2 => q _ (s.trans s2)
    · (repeat array_get_dec)
      exact ⟨_, rfl, .inr ⟨h, fun H' s => caught false _ _ _ rfl fun H2 s2 => q _ (s.trans s2)⟩⟩
    · (repeat array_get_dec)
      exact ⟨t, rfl, .inr ⟨xs, h1, h2, fun H' s => caught false _ _ _ rfl fun H2 s2 => q _ (s.trans s2)⟩⟩
    · (repeat array_get_dec)
      exact h _ _ fun H' s => caught b _ _ _ rfl fun H2 s2 => q _ (s.trans s2)
    · (repeat array_get_dec)
      intro a dx ha hdx hne
      refine ⟨a, dx, rfl, upd_same, fun H1 p hp rz fz => ⟨rfl, ?_⟩⟩
      have s1 : Same H H1 := fun c o e => fz c o (ne_of_none e ha) (by rw [upd_ne (ne_of_none e ha), upd_ne (ne_of_none e hdx)]; exact e)
      obtain ⟨dz, Z, gi, gz, _⟩ := rz
      (repeat array_get_dec)
      refine ⟨by show 2 ≤ sizeLine; rw [sizeLine_eq]; omega, fun u hu => ?_⟩
      (repeat array_get_dec)
      have s2 := same_upd (o := .tup [.int 1, .int 1]) s1 hu
      rcases h4 with ⟨h4, rfl⟩ | ⟨h4, h5, rfl⟩
      · exact ⟨a, v1, x, y, .ref u, bx, bY, rfl, h1, h2, h3, .inr (.inl ⟨h4, fun H' s => caught true _ _ _ rfl fun H2 s3 => q _ ((s2.trans s).trans s3)⟩)⟩
      · exact ⟨a, v1, x, y, .ref u, bx, bY, rfl, h1, h2, h3, .inr (.inr (.inl ⟨h4, h5, fun H' s => caught false _ _ _ rfl fun H2 s3 => q _ ((s2.trans s).trans s3)⟩))⟩
    · (repeat array_get_dec)
      intro a dx ha hdx hne
      refine ⟨a, dx, rfl, upd_same, fun H1 p hp rz fz => ⟨rfl, ?_⟩⟩
      have s1 : Same H H1 := fun c o e => fz c o (ne_of_none e ha) (by rw [upd_ne (ne_of_none e ha), upd_ne (ne_of_none e hdx)]; exact e)
      obtain ⟨dz, Z, gi, gz, _⟩ := rz
      (repeat array_get_dec)
      exact ⟨a, .int 1, 117, 118, v1, true, true, rfl, .inl ⟨_, rfl⟩, .inl ⟨.inl rfl, rfl⟩, .inl ⟨.inr (.inl rfl), rfl⟩, .inr (.inr (.inr ⟨by decide, rfl, rfl, by decide, h.keep s1, fun H' s => caught false _ _ _ rfl fun H2 s3 => q _ ((s1.trans s).trans s3)⟩))⟩
end
end K78

namespace K78
open PySem PySem.Spec PyProof.Rows L2
local macro_rules | `(tactic| array_mem_dec) => `(tactic| first | with_reducible assumption | with_reducible exact upd_same | ((with_reducible apply same_at); (with_reducible assumption); array_mem_dec) | ((with_reducible apply upd_atN); (with_reducible assumption); array_mem_dec) | ((with_reducible apply upd_at); (first | with_reducible assumption | (apply Ne.symm; with_reducible assumption)); array_mem_dec))
local macro_rules | `(tactic| array_get_dec) => `(tactic| first | (with_reducible refine w_seq ?_) | (with_reducible refine w_asg ?_) | (with_reducible refine w_drop ?_) | (with_reducible refine w_ret ?_) | (with_reducible refine w_retN ?_) | (with_reducible refine w_next ?_) | (with_reducible refine w_break ?_) | (with_reducible refine w_cont ?_) | (with_reducible refine w_ifS ?_) | (with_reducible refine w_sub ?_) | (with_reducible refine w_c ?_) | (with_reducible refine w_op ?_) | (with_reducible refine w_un ?_) | (with_reducible refine w_test ?_) | (with_reducible refine w_B ?_) | (with_reducible refine w_yes ?_) | (with_reducible refine w_not ?_) | (with_reducible refine w_and ?_) | (with_reducible refine w_or ?_) | (with_reducible refine w_andV ?_) | (with_reducible refine w_orV ?_) | (with_reducible refine w_notV ?_) | (with_reducible refine w_ifE ?_) | (with_reducible refine w_nil ?_) | (with_reducible refine w_cons ?_) | (with_reducible refine w_call ?_) | (with_reducible refine w_callS ?_) | (with_reducible refine w_cB ?_) | (with_reducible refine w_lst ?_) | (with_reducible refine w_tup ?_) | (with_reducible refine w_sl ?_) | (with_reducible refine w_noPart ?_) | (with_reducible refine w_part ?_) | (with_reducible refine w_bm ?_) | (with_reducible refine w_bm0 ?_) | (with_reducible refine w_strTy ?_) | (with_reducible refine w_bl ?_) | (with_reducible refine w_int1 ?_) | (with_reducible refine w_str1 ?_) | (with_reducible refine w_rI0 ?_) | (with_reducible refine w_rU ?_) | (with_reducible refine w_eqI ?_) | (with_reducible refine w_eqS ?_) | (with_reducible refine w_neI ?_) | (with_reducible refine w_neS ?_) | (with_reducible refine w_bl2 ?_) | (with_reducible refine w_isN ?_) | (with_reducible refine w_for ?_) | (with_reducible refine w_iRng1 ?_) | (with_reducible refine w_iRng2 ?_) | (with_reducible refine w_iList ?_) | (with_reducible refine w_iTup ?_) | (with_reducible refine w_iStr ?_) | (with_reducible refine w_lc ?_) | (with_reducible refine w_M1 ?_) | (with_reducible refine w_M0 ?_) | (with_reducible refine w_isS ?_) | ((with_reducible apply w_name); (simp only [wipe, List.map_cons, List.map_nil, List.foldl_cons, List.foldl_nil, List.set_cons_zero, List.set_cons_succ]; exact rfl)) | ((with_reducible apply w_var); exact rfl) | ((with_reducible apply w_lstTy); array_mem_dec) | ((with_reducible apply w_lenL); array_mem_dec) | ((with_reducible apply w_lenT); array_mem_dec) | ((with_reducible apply w_listOf); array_mem_dec) | ((with_reducible apply w_lenS); (first | (with_reducible assumption) | omega | (rw [sizeLine_eq]; omega))) | ((with_reducible apply w_slS); (first | (with_reducible assumption) | omega | (rw [sizeLine_eq]; omega))) | ((with_reducible apply w_wipe); exact rfl) | ((with_reducible apply w_acc); array_mem_dec; (try (first | (with_reducible assumption) | omega | (rw [sizeLine_eq]; omega)))) | ((with_reducible apply w_itl); array_mem_dec) | ((with_reducible apply w_itt); array_mem_dec) | ((with_reducible apply w_append); array_mem_dec; (try (first | (with_reducible assumption) | omega | (rw [sizeLine_eq]; omega)))) | ((with_reducible apply w_rng1); (first | (with_reducible assumption) | omega); (first | (with_reducible assumption) | omega)) | ((with_reducible apply w_ixL); array_mem_dec; (first | (with_reducible assumption) | exact rfl | (apply atI_nat; (with_reducible assumption)) | exact atI_last _ _)) | ((with_reducible apply w_ixT); array_mem_dec; (first | (with_reducible assumption) | exact rfl | (apply atI_nat; (with_reducible assumption)) | exact atI_last _ _)) | ((with_reducible apply w_iT); first | exact rfl | (with_reducible assumption)) | ((with_reducible apply w_iF); first | exact rfl | (with_reducible assumption)) | ((with_reducible apply w_isiI (b := true)); decide +kernel) | ((with_reducible apply w_isiI (b := false)); decide +kernel) | ((with_reducible apply w_isiB (b := true)); decide +kernel) | ((with_reducible apply w_isiB (b := false)); decide +kernel) | ((with_reducible apply w_isiS (b := true)); decide +kernel) | ((with_reducible apply w_isiS (b := false)); decide +kernel) | ((with_reducible apply w_isiN (b := true)); decide +kernel) | ((with_reducible apply w_isiN (b := false)); decide +kernel) | ((with_reducible apply w_isiL (b := true)); array_mem_dec; decide +kernel) | ((with_reducible apply w_isiL (b := false)); array_mem_dec; decide +kernel) | ((with_reducible apply w_isiT (b := true)); array_mem_dec; decide +kernel) | ((with_reducible apply w_isiT (b := false)); array_mem_dec; decide +kernel) | (with_reducible refine w_notT ?_) | (with_reducible refine w_chain ?_) | ((with_reducible apply w_trL); array_mem_dec) | ((with_reducible apply w_gTup); array_mem_dec; exact rfl) | ((with_reducible apply w_gLst); array_mem_dec; exact rfl) | (with_reducible refine w_gCons ?_) | (with_reducible refine w_gNil ?_) | (with_reducible refine w_Fld ?_) | (with_reducible refine w_sFld ?_) | (with_reducible refine w_dget ?_) | (with_reducible refine w_dIn ?_) | (with_reducible refine w_dNotIn ?_) | (with_reducible refine w_sDPut ?_) | (with_reducible refine w_dnewK ?_) | (with_reducible refine w_meth ?_) | (with_reducible refine w_make ?_) | (with_reducible refine w_methS ?_) | (with_reducible refine w_makeS ?_) | (with_reducible refine w_dpop ?_) | ((with_reducible apply w_fld1); array_mem_dec; (with_reducible assumption); (with_reducible assumption); exact rfl) | ((with_reducible apply w_sfld1); array_mem_dec; (with_reducible assumption); (with_reducible assumption); exact Nat.le_of_ble_eq_true rfl) | ((with_reducible apply w_meth1); array_mem_dec; exact rfl) | ((with_reducible apply w_dgetS); array_mem_dec; (with_reducible assumption)) | ((with_reducible apply w_dgetI); array_mem_dec; (with_reducible assumption)) | ((with_reducible apply w_dinS); array_mem_dec) | ((with_reducible apply w_dputI); array_mem_dec; (try (first | (with_reducible assumption) | omega | (rw [sizeLine_eq]; omega)))) | ((with_reducible apply w_dputS); array_mem_dec; (try (first | (with_reducible assumption) | omega | (rw [sizeLine_eq]; omega)))) | ((with_reducible apply w_isD); array_mem_dec) | ((with_reducible apply w_dictD); array_mem_dec) | ((with_reducible apply w_dpopS); array_mem_dec; (with_reducible assumption)))
/-! ### rates by days beside a plain list -/
theorem rowsDp {K : PySem.W.Frag} {H : Hp} : ∀ {X : List (V × Row)}, RowsV H X → DpAll K H (X.map Prod.fst) ((X.map Prod.snd).map encR)
  | [], _ => .nil
  | b :: X, h => .cons (h b (List.mem_cons_self ..)).dp (rowsDp fun c m => h c (List.mem_cons_of_mem _ m))
theorem okRows {L : List Row} (h : L.length ≤ 1000000) : okD 4 (.list (L.map encR)) := by
  refine ⟨by rw [List.length_map]; exact h, fun e m => ?_⟩
  obtain ⟨r, _, rfl⟩ := List.mem_map.mp m
  refine ⟨by simp, fun z mz => ?_⟩
  simp at mz
  rcases mz with rfl | rfl | rfl | rfl
  · trivial
  · trivial
  · trivial
  · refine ⟨by simp, fun z mz => ?_⟩
    simp at mz
    rcases mz with rfl | rfl <;> trivial
theorem RowsV.keep {H H' : Hp} {X : List (V × Row)} (h : RowsV H X) (k : ∀ b xs, H b = some (.tup xs) → H' b = some (.tup xs)) : RowsV H' X := fun b m => (h b m).keep k
theorem PoolL.tupK {H H' : Hp} {p l : Addr} (h : PoolL H p l) (sb : SameBut p H H') : ∀ b xs, H b = some (.tup xs) → H' b = some (.tup xs) := by
  obtain ⟨ns, a, b, c, d, h1, _⟩ := h
  exact fun z xs e => sb z _ (fun w => by rw [w, h1] at e; cases e) e
theorem PoolL.fre {H H' : Hp} {p l a C dx : Addr} {fs : List (Str × V)} (h : PoolL H p l) (hi : H a = some (.ins C dx fs)) (f : Fre a H H') : PoolL H' p l := by
  obtain ⟨ns, a1, b, c, d, h1, h2, h3⟩ := h
  exact ⟨ns, a1, b, c, d, f _ _ (fun z => by rw [z, hi] at h1; cases h1) h1, f _ _ (fun z => by rw [z, hi] at h2; cases h2) h2, h3⟩
theorem RatesAt.but {CR : Addr} {H H' : Hp} {a q p l : Addr} {L : List Row} (h : RatesAt CR H a q L) (pl : PoolL H p l) (n : q ≠ p) (sb : SameBut p H H') : RatesAt CR H' a q L := by
  obtain ⟨dx, X, h1, h2, h3, h4, h5⟩ := h
  have tk := pl.tupK sb
  obtain ⟨ns, a1, b, c, d, e1, _⟩ := pl
  exact ⟨dx, X, sb _ _ (fun z => by rw [z, e1] at h1; cases h1) h1, sb _ _ n h2, h3.keep tk, h4, h5⟩
theorem RatesAt.fre {CR : Addr} {H H' : Hp} {a b q C dx : Addr} {fs : List (Str × V)} {L : List Row} (h : RatesAt CR H b q L) (hi : H a = some (.ins C dx fs)) (n : b ≠ a) (f : Fre a H H') : RatesAt CR H' b q L := by
  obtain ⟨dx, X, h1, h2, h3, h4, h5⟩ := h
  exact ⟨dx, X, f _ _ n h1, f _ _ (fun z => by rw [z, hi] at h2; cases h2) h2, h3.keep (f.tup hi), h4, h5⟩
structure St1 (CR : Addr) (H : Hp) (p l ra rp rr kc kp : Addr) (L : List Row) : Prop where
  pl : PoolL H p l
  rt : RatesAt CR H ra rp L
  rw : ∃ X, H rr = some (.lst (X.map Prod.fst)) ∧ RowsV H X ∧ X.map Prod.snd = L
  kt : RatesAt CR H kc kp []
  d1 : kc ≠ ra
  d2 : rp ≠ p
  d3 : rr ≠ p
  d4 : kp ≠ p
  kn : keysN L
theorem St1.same {CR : Addr} {H H' : Hp} {p l ra rp rr kc kp : Addr} {L : List Row} (h : St1 CR H p l ra rp rr kc kp L) (s : Same H H') : St1 CR H' p l ra rp rr kc kp L := by
  obtain ⟨a1, a2, ⟨X, b1, b2, b3⟩, a4, a5, a6, a7, a8, a9⟩ := h
  exact ⟨a1.keep s, a2.same s, ⟨X, s _ _ b1, b2.keep fun _ _ e => s _ _ e, b3⟩, a4.same s, a5, a6, a7, a8, a9⟩
theorem St1.but {CR : Addr} {H H' : Hp} {p l ra rp rr kc kp : Addr} {L : List Row} (h : St1 CR H p l ra rp rr kc kp L) (pl : PoolL H' p l) (sb : SameBut p H H') : St1 CR H' p l ra rp rr kc kp L := by
  obtain ⟨a1, a2, ⟨X, b1, b2, b3⟩, a4, a5, a6, a7, a8, a9⟩ := h
  exact ⟨pl, a2.but a1 a6 sb, ⟨X, sb _ _ a7 b1, b2.keep (a1.tupK sb), b3⟩, a4.but a1 a8 sb, a5, a6, a7, a8, a9⟩
def BestV (H : Hp) (v : V) (b : Best) : Prop := match b with
  | none => v = .non
  | some c => ∃ q t, v = .ref q ∧ H q = some (.tup [.int c.1, .ref t]) ∧ H t = some (.tup [.int c.2.1, .int c.2.2])
theorem BestV.same {H H' : Hp} {v : V} {b : Best} (h : BestV H v b) (s : Same H H') : BestV H' v b := by
  cases b with
  | none => exact h
  | some c =>
    obtain ⟨q, t, e, h1, h2⟩ := h
    exact ⟨q, t, e, s _ _ h1, s _ _ h2⟩
theorem s1_no {x y : Nat} {day : Int} {B : Best} {p : Row} (h : decide (p.day ≤ day) = false) : s1 x y day B p = B := by unfold s1; rw [h]; rfl
theorem s1_no2 {x y : Nat} {day : Int} {B : Best} {p : Row} (h : isK p x y = false) : s1 x y day B p = B := by unfold s1; rw [h, Bool.false_and, Bool.and_false]; rfl
theorem s1_none {x y : Nat} {day : Int} {p : Row} (h : decide (p.day ≤ day) = true) (h2 : isK p x y = true) : s1 x y day none p = some (p.day, p.n, p.d) := by unfold s1; rw [h, h2]; rfl
theorem s1_yes {x y : Nat} {day : Int} {p : Row} {c : Int × Int × Int} (h : decide (p.day ≤ day) = true) (h2 : isK p x y = true) (h3 : decide (p.day ≥ c.1) = true) : s1 x y day (some c) p = some (p.day, p.n, p.d) := by unfold s1; rw [h, h2]; show (if (true && (true && decide (p.day ≥ c.1))) = true then _ else _) = _; rw [h3]; rfl
theorem s1_no3 {x y : Nat} {day : Int} {p : Row} {c : Int × Int × Int} (h3 : decide (p.day ≥ c.1) = false) : s1 x y day (some c) p = some c := by unfold s1; show (if (_ && (_ && decide (p.day ≥ c.1))) = true then _ else _) = _; rw [h3, Bool.and_false, Bool.and_false]; rfl
theorem s2_no {x y : Nat} {day : Int} {B : Best} {p : Row} (h : decide (p.day ≤ day) = false) : s2 x y day B p = B := by unfold s2; rw [h]; rfl
theorem s2_no2 {x y : Nat} {day : Int} {B : Best} {p : Row} (h : isK p y x = false) : s2 x y day B p = B := by unfold s2; rw [h, Bool.false_and, Bool.and_false]; rfl
theorem s2_none {x y : Nat} {day : Int} {p : Row} (h : decide (p.day ≤ day) = true) (h2 : isK p y x = true) : s2 x y day none p = some (p.day, p.d, p.n) := by unfold s2; rw [h, h2]; rfl
theorem s2_yes {x y : Nat} {day : Int} {p : Row} {c : Int × Int × Int} (h : decide (p.day ≤ day) = true) (h2 : isK p y x = true) (h3 : decide (p.day > c.1) = true) : s2 x y day (some c) p = some (p.day, p.d, p.n) := by unfold s2; rw [h, h2]; show (if (true && (true && decide (p.day > c.1))) = true then _ else _) = _; rw [h3]; rfl
theorem s2_no3 {x y : Nat} {day : Int} {p : Row} {c : Int × Int × Int} (h3 : decide (p.day > c.1) = false) : s2 x y day (some c) p = some c := by unfold s2; show (if (_ && (_ && decide (p.day > c.1))) = true then _ else _) = _; rw [h3, Bool.and_false, Bool.and_false]; rfl
theorem fold_snoc {f : Best → Row → Best} {b0 : Best} {X : List (V × Row)} {i : Nat} {b : V × Row} (h : X[i]? = some b) : ((X.map Prod.snd).take (i + 1)).foldl f b0 = f (((X.map Prod.snd).take i).foldl f b0) b.2 := by
  have e : (X.map Prod.snd)[i]? = some b.2 := by rw [List.getElem?_map, h]; rfl
  rw [take_snoc e, List.foldl_append]
  rfl
theorem hu2 {H : Hp} {a b : Addr} {o : HO} (h : upd H a o b = none) : b ≠ a ∧ H b = none := by
  by_cases e : b = a
  · subst e; rw [upd_same] at h; cases h
  · rw [upd_ne e] at h; exact ⟨e, h⟩
def spRR : Sp := fun vs H Q _ => ∃ p l : Addr, vs = [.ref p] ∧ PoolL H p l ∧ ∀ H', Q (.bl true) H'
section
variable {P : Program} {w : World} {K : PySem.W.Frag} {mg : Str → Option Value} {base : Heap}
theorem ok__law_pool (M : Nms K mg) : FnOk P w K mg base CX0 1 M.a__law_pool M.d__law_pool ["script"] (spPool K) := ok_pool M.F__law_pool M.T
theorem ok__law_draw (M : Nms K mg) : FnOk P w K mg base CX0 1 M.a__law_draw M.d__law_draw ["pool", "many"] spDraw := ok_draw M.F__law_draw M.T
theorem ok__law_pick (M : Nms K mg) : FnOk P w K mg base CX0 2 M.a__law_pick M.d__law_pick ["pool", "rows"] spPick := ok_pick M.F__law_pick M.T (ok__law_draw M) M.g__law_draw M.k__law_draw M.b__law_draw
theorem ok__law_same (M : Nms K mg) : FnOk P w K mg base CX0 4 M.a__law_same M.d__law_same ["actual", "due"] (spSame K 3) := ok_same M.F__law_same M.T M.g__law_same M.k__law_same M.b__law_same 3
theorem ok_same4 (M : Nms K mg) : FnOk P w K mg base CX0 5 M.a__law_same M.d__law_same ["actual", "due"] (spSame K 4) := ok_same M.F__law_same M.T M.g__law_same M.k__law_same M.b__law_same 4
theorem ok__law_rates_right (M : Nms K mg) : FnOk P w K mg base CX0 7 M.a__law_rates_right M.d__law_rates_right ["pool"] spRR := by
  refine M.F__law_rates_right.ok sc__law_rates_right (fun vs H Q E h => ?_) (fun cdv A outer s H vs Q E hr h => ?_)
  · obtain ⟨p, l, rfl, _⟩ := h
    rfl
  · have hu := hu1 hr
    have clR := M.clR
    have nR_rows := M.nR_rows
    refine ⟨_, (pss_cons (ps_set (i := 1) sc__law_rates_right.nd rfl (Or.inl rfl) (pe_make0 M.mkR (ok_Rates___init__ M) (hr.mono (by decide)) rfl M.gR M.b_Rates___init__ .nil pass0))
    (pss_cons (ps_set (i := 2) sc__law_rates_right.nd rfl (Or.inl rfl) (pe_lst pa_nil))
    (pss_cons (ps_set (i := 3) sc__law_rates_right.nd rfl (Or.inl rfl) (pe_meth0 (pv 1) M.clR M.m_Rates_copy (ok_Rates_copy M) (hr.mono (by decide)) M.b_Rates_copy .nil pass0))
    (pss_cons (ps_for PassesOwn.never rfl (pi_range1 (by rfl) M.T.b_range (pa_cons (pe_call (ok__law_draw M) (hr.mono (by decide)) rfl M.g__law_draw M.k__law_draw M.b__law_draw .nil pass0 (pa_cons (pv 0) (pa_cons pe_int pa_nil))) pa_nil)) (pg_name (i := 4) sc__law_rates_right.nd rfl (Or.inl rfl)) (pss_cons (ps_asg (pe_call (ok__law_pick M) (hr.mono (by decide)) rfl M.g__law_pick M.k__law_pick M.b__law_pick .nil pass0 (pa_cons (pv 0) (pa_cons (pe_lst (pa_cons (pe_tup (pa_cons pe_str (pa_cons pe_str pa_nil))) (pa_cons (pe_tup (pa_cons pe_str (pa_cons pe_str pa_nil))) (pa_cons (pe_tup (pa_cons pe_str (pa_cons pe_str pa_nil))) (pa_cons (pe_tup (pa_cons pe_str (pa_cons pe_str pa_nil))) pa_nil))))) pa_nil))) (pg_tup rfl (pgs_cons (pg_name (i := 5) sc__law_rates_right.nd rfl (Or.inr rfl)) (pgs_cons (pg_name (i := 6) sc__law_rates_right.nd rfl (Or.inr rfl)) pgs_nil))))
    (pss_cons (ps_set (i := 7) sc__law_rates_right.nd rfl (Or.inr rfl) (pe_call (ok__law_draw M) (hr.mono (by decide)) rfl M.g__law_draw M.k__law_draw M.b__law_draw .nil pass0 (pa_cons (pv 0) (pa_cons pe_int pa_nil))))
    (pss_cons (ps_set (i := 8) sc__law_rates_right.nd rfl (Or.inl rfl) (pe_tup (pa_cons (pe_op op_add pe_int (pe_call (ok__law_draw M) (hr.mono (by decide)) rfl M.g__law_draw M.k__law_draw M.b__law_draw .nil pass0 (pa_cons (pv 0) (pa_cons pe_int pa_nil)))) (pa_cons (pe_op op_add pe_int (pe_call (ok__law_draw M) (hr.mono (by decide)) rfl M.g__law_draw M.k__law_draw M.b__law_draw .nil pass0 (pa_cons (pv 0) (pa_cons pe_int pa_nil)))) pa_nil))))
    (pss_cons (ps_expr (pe_meth (pv 1) M.clR M.m_Rates_tell (okL_Rates_tell M) (hr.mono (by decide)) M.b_Rates_tell .nil pass0 (pa_cons (pv 7) (pa_cons (pv 5) (pa_cons (pv 6) (pa_cons (pv 8) pa_nil))))))
    (pss_cons (ps_set (i := 2) sc__law_rates_right.nd rfl (Or.inl rfl) (pe_op op_cat (pe_lc (own := [("row", 9)]) rfl sc__law_rates_right.nd (pi_list (pv 2)) (blkOk_by (N := ["pool", "rates", "rows", "kept", "k", "one", "other", "day", "rate", "row", "best"]) (sc := defScope s__law_rates_right) (own := [("row", 9)]) (by decide +kernel)) (fun _ _ _ _ _ => (pg_name (i := 9) sc__law_rates_right.nd rfl (Or.inl rfl))) (fun _ _ _ _ _ => pts_one (pt_cmpR (r := rNeD K) (op_neD hr.units) (pe_slice (r := rSlA K) sl_tupA (pv 9) po_none (po_some pe_int)) (pe_tup (pa_cons (pv 5) (pa_cons (pv 6) (pa_cons (pv 7) pa_nil)))) (nomark _))) (fun _ _ _ _ _ => (pv 9))) (pe_lst (pa_cons (pe_tup (pa_cons (pv 5) (pa_cons (pv 6) (pa_cons (pv 7) (pa_cons (pv 8) pa_nil))))) pa_nil))))
    (pss_one (ps_if (pt_not (pt_val (pe_call (ok_same4 M) (hr.mono (by decide)) rfl M.g__law_same M.k__law_same M.b__law_same .nil pass0 (pa_cons (pe_meth0 (pv 1) M.clR M.m_Rates_rows (ok_Rates_rows M) (hr.mono (by decide)) M.b_Rates_rows .nil pass0) (pa_cons (pe_callB (cr_sortedDt hr.units) (by rfl) M.T.b_sorted (by decide +kernel) (pa_cons (pv 2) pa_nil)) pa_nil))))) (pss_one (ps_ret pe_bl)) pss_nil))))))))
    (pss_cons (ps_for PassesOwn.never rfl (pi_list (pe_lst (pa_cons pe_str (pa_cons pe_str (pa_cons pe_str pa_nil))))) (pg_name (i := 5) sc__law_rates_right.nd rfl (Or.inr rfl)) (pss_one (ps_for PassesOwn.never rfl (pi_list (pe_lst (pa_cons pe_str (pa_cons pe_str (pa_cons pe_str pa_nil))))) (pg_name (i := 6) sc__law_rates_right.nd rfl (Or.inr rfl)) (pss_cons (ps_set (i := 7) sc__law_rates_right.nd rfl (Or.inr rfl) (pe_call (ok__law_draw M) (hr.mono (by decide)) rfl M.g__law_draw M.k__law_draw M.b__law_draw .nil pass0 (pa_cons (pv 0) (pa_cons pe_int pa_nil))))
    (pss_cons (ps_set (i := 10) sc__law_rates_right.nd rfl (Or.inl rfl) pe_non)
    (pss_cons (ps_for PassesOwn.never rfl (pi_list (pv 2)) (pg_name (i := 9) sc__law_rates_right.nd rfl (Or.inl rfl)) (pss_one (ps_if (PW.pt (pw_and (pt_cmpR op_le (pe_ix (r := rIxT K) ix_tup (pv 9) pe_int (fun _ _ => rfl)) (pv 7) (nomark _)) (pw_and (pt_cmpR (r := rEqD K) (op_eqD hr.units) (pe_slice (r := rSlA K) sl_tupA (pv 9) po_none (po_some pe_int)) (pe_tup (pa_cons (pv 5) (pa_cons (pv 6) pa_nil))) (nomark _)) (pw_and1 (PW.pt (pw_or (pt_cmpR op_isN (pv 10) pe_non (nomark _)) (pw_or1 (pt_cmpR op_ge (pe_ix (r := rIxT K) ix_tup (pv 9) pe_int (fun _ _ => rfl)) (pe_ix (r := rIxT K) ix_tup (pv 10) pe_int (fun _ _ => rfl)) (nomark _))))))))) (pss_one (ps_set (i := 10) sc__law_rates_right.nd rfl (Or.inl rfl) (pe_tup (pa_cons (pe_ix (r := rIxT K) ix_tup (pv 9) pe_int (fun _ _ => rfl)) (pa_cons (pe_ix (r := rIxT K) ix_tup (pv 9) pe_int (fun _ _ => rfl)) pa_nil))))) pss_nil)))
    (pss_cons (ps_for PassesOwn.never rfl (pi_list (pv 2)) (pg_name (i := 9) sc__law_rates_right.nd rfl (Or.inl rfl)) (pss_one (ps_if (PW.pt (pw_and (pt_cmpR op_le (pe_ix (r := rIxT K) ix_tup (pv 9) pe_int (fun _ _ => rfl)) (pv 7) (nomark _)) (pw_and (pt_cmpR (r := rEqD K) (op_eqD hr.units) (pe_slice (r := rSlA K) sl_tupA (pv 9) po_none (po_some pe_int)) (pe_tup (pa_cons (pv 6) (pa_cons (pv 5) pa_nil))) (nomark _)) (pw_and1 (PW.pt (pw_or (pt_cmpR op_isN (pv 10) pe_non (nomark _)) (pw_or1 (pt_cmpR op_gt (pe_ix (r := rIxT K) ix_tup (pv 9) pe_int (fun _ _ => rfl)) (pe_ix (r := rIxT K) ix_tup (pv 10) pe_int (fun _ _ => rfl)) (nomark _))))))))) (pss_one (ps_set (i := 10) sc__law_rates_right.nd rfl (Or.inl rfl) (pe_tup (pa_cons (pe_ix (r := rIxT K) ix_tup (pv 9) pe_int (fun _ _ => rfl)) (pa_cons (pe_tup (pa_cons (pe_ix (r := rIxT K) ix_tup (pe_ix (r := rIxT K) ix_tup (pv 9) pe_int (fun _ _ => rfl)) pe_int (fun _ _ => rfl)) (pa_cons (pe_ix (r := rIxT K) ix_tup (pe_ix (r := rIxT K) ix_tup (pv 9) pe_int (fun _ _ => rfl)) pe_int (fun _ _ => rfl)) pa_nil))) pa_nil))))) pss_nil)))
    (pss_one (ps_if (pt_not (pt_val (pe_call (ok_same4 M) (hr.mono (by decide)) rfl M.g__law_same M.k__law_same M.b__law_same .nil pass0 (pa_cons (pe_meth (pv 1) M.clR M.m_Rates_rate (ok_Rates_rate M) (hr.mono (by decide)) M.b_Rates_rate .nil pass0 (pa_cons (pv 5) (pa_cons (pv 6) (pa_cons (pv 7) pa_nil)))) (pa_cons (pe_ifExp (pt_cmpR op_eq (pv 5) (pv 6) (nomark _)) (pe_tup (pa_cons pe_int (pa_cons pe_int pa_nil))) (pe_ifExp (pt_cmpR op_isN (pv 10) pe_non (nomark _)) pe_non (pe_ix (r := rIxT K) ix_tup (pv 10) pe_int (fun _ _ => rfl)))) pa_nil))))) (pss_one (ps_ret pe_bl)) pss_nil)))))))))
    (pss_one (ps_ret (pe_cmpR (op_eqD hr.units) (pe_meth0 (pv 3) M.clR M.m_Rates_rows (ok_Rates_rows M) (hr.mono (by decide)) M.b_Rates_rows .nil pass0) (pe_lst pa_nil) (nomark _))))))))), ?_⟩
    try dsimp only [cxOf, Cx.nox]
    obtain ⟨p, l, rfl, pl, q⟩ := h
    refine w_start (σ' := [some (.ref p), none, none, none, none, none, none, none, none, none, none]) rfl ?_
    (repeat array_get_dec)
    intro ra dxa hra hdx hne
    refine ⟨ra, dxa, rfl, upd_same, fun H1 rp hrp rz fz => ⟨rfl, ?_⟩⟩
    have s1 : Same H H1 := fun c o e => fz c o (ne_of_none e hra) (by rw [upd_ne (ne_of_none e hra), upd_ne (ne_of_none e hdx)]; exact e)
    have hrpH : H rp = none := by
      by_cases z : rp = ra
      · rw [z]; exact hra
      · rw [upd_ne z] at hrp
        exact (hu2 hrp).2
    have npr : rp ≠ p := pl.ne hrpH
    have pl1 := pl.keep s1
    have rz' := rz
    obtain ⟨dxr, Z0, gi, gz, _⟩ := rz'
    (repeat array_get_dec)
    refine ⟨by show 0 ≤ sizeLine; decide, fun rr hrr => ?_⟩
    have s2 := same_upd (o := .lst []) s1 hrr
    have rz2 := rz.same (same_upd (o := .lst []) (Same.refl H1) hrr)
    have nrr : rr ≠ p := pl1.ne hrr
    (repeat array_get_dec)
    refine ⟨ra, rp, [], rfl, rz2, fun H2 kc kp s3 hkc hkp kz => ?_⟩
    have nkp : kp ≠ p := (pl.keep s2).ne hkp
    have nkc : kc ≠ ra := fun z => by
      have := rz2
      obtain ⟨_, _, w1, _⟩ := this
      rw [z, w1] at hkc
      cases hkc
    have st : St1 M.CR H2 p l ra rp rr kc kp [] := ⟨(pl.keep s2).keep s3, rz2.same s3, ⟨[], s3 _ _ upd_same, fun b m => by simp at m, rfl⟩, kz, nkc, npr, nrr, nkp, keysN_nil⟩
    (repeat array_get_dec)
    refine ⟨p, l, 7, rfl, st.pl, by omega, by omega, fun v H3 v0 v1 pl3 sb3 => ?_⟩
    have st3 := st.but pl3 sb3
    (repeat array_get_dec)
    refine for_range (lo := 0) (n := v.toNat) (fun i σ H' => ∃ (rp rr : Addr) (L : List Row) (v4 v5 v6 v7 v8 v9 : Option V), σ = [some (.ref p), some (.ref ra), some (.ref rr), some (.ref kc), v4, v5, v6, v7, v8, v9, none] ∧ St1 M.CR H' p l ra rp rr kc kp L ∧ L.length ≤ i) ⟨rp, rr, [], none, none, none, none, none, none, rfl, st3, Nat.le_refl _⟩ ?_ ?_
    · rintro i σ H' hi ⟨rp, rr, L, v4, v5, v6, v7, v8, v9, rfl, st, hL⟩
      have hi7 : i < 7 := by omega
      (repeat array_get_dec)
      refine ⟨by show 2 ≤ sizeLine; decide, fun t1 h1 => ?_⟩
      (repeat array_get_dec)
      refine ⟨by show 2 ≤ sizeLine; decide, fun t2 h2 => ?_⟩
      (repeat array_get_dec)
      refine ⟨by show 2 ≤ sizeLine; decide, fun t3 h3 => ?_⟩
      (repeat array_get_dec)
      refine ⟨by show 2 ≤ sizeLine; decide, fun t4 h4 => ?_⟩
      (repeat array_get_dec)
      refine ⟨by show 4 ≤ sizeLine; decide, fun tq h5 => ?_⟩
      have z2 := same_upd (o := .tup [.str (Str.ofString "v"), .str (Str.ofString "u")]) (Same.refl _) h2
      have z3 := same_upd (o := .tup [.str (Str.ofString "u"), .str (Str.ofString "w")]) (Same.refl _) h3
      have z4 := same_upd (o := .tup [.str (Str.ofString "w"), .str (Str.ofString "v")]) (Same.refl _) h4
      have z5 := same_upd (o := .lst [.ref t1, .ref t2, .ref t3, .ref t4]) (Same.refl _) h5
      have g1 := z5 _ _ (z4 _ _ (z3 _ _ (z2 t1 _ upd_same)))
      have g2 := z5 _ _ (z4 _ _ (z3 t2 _ upd_same))
      have g3 := z5 _ _ (z4 t3 _ upd_same)
      have g4 := z5 t4 _ upd_same
      have g5 := upd_same (H := upd (upd (upd (upd H' t1 (.tup [.str (Str.ofString "u"), .str (Str.ofString "v")])) t2 (.tup [.str (Str.ofString "v"), .str (Str.ofString "u")])) t3 (.tup [.str (Str.ofString "u"), .str (Str.ofString "w")])) t4 (.tup [.str (Str.ofString "w"), .str (Str.ofString "v")])) (a := tq) (o := .lst [.ref t1, .ref t2, .ref t3, .ref t4])
      have sz := ((((same_upd (o := .tup [.str (Str.ofString "u"), .str (Str.ofString "v")]) (Same.refl H') h1).trans z2).trans z3).trans z4).trans z5
      have ntq : tq ≠ p := (st.same ((((same_upd (o := .tup [.str (Str.ofString "u"), .str (Str.ofString "v")]) (Same.refl H') h1).trans z2).trans z3).trans z4)).pl.ne h5
      clear z2 z3 z4 z5
      generalize upd (upd (upd (upd (upd H' t1 (.tup [.str (Str.ofString "u"), .str (Str.ofString "v")])) t2 (.tup [.str (Str.ofString "v"), .str (Str.ofString "u")])) t3 (.tup [.str (Str.ofString "u"), .str (Str.ofString "w")])) t4 (.tup [.str (Str.ofString "w"), .str (Str.ofString "v")])) tq (.lst [.ref t1, .ref t2, .ref t3, .ref t4]) = G at g1 g2 g3 g4 g5 sz ⊢
      have stG := st.same sz
      (repeat array_get_dec)
      refine ⟨p, tq, l, _, rfl, stG.pl, g5, ntq, by simp, by rw [sizeLine_eq]; simp, fun pv H5 mv pl5 sb5 => ?_⟩
      have tk := stG.pl.tupK sb5
      have picked : ∃ t x y, pv = .ref t ∧ H5 t = some (.tup [.str (mkS [x]), .str (mkS [y])]) ∧ nameC x true ∧ nameC y true ∧ x ≠ y := by
        have uu : nameC 117 true := .inl ⟨.inl rfl, rfl⟩
        have vv : nameC 118 true := .inl ⟨.inr (.inl rfl), rfl⟩
        have ww : nameC 119 true := .inl ⟨.inr (.inr rfl), rfl⟩
        simp at mv
        rcases mv with rfl | rfl | rfl | rfl
        · exact ⟨t1, 117, 118, rfl, tk _ _ g1, uu, vv, by decide⟩
        · exact ⟨t2, 118, 117, rfl, tk _ _ g2, vv, uu, by decide⟩
        · exact ⟨t3, 117, 119, rfl, tk _ _ g3, uu, ww, by decide⟩
        · exact ⟨t4, 119, 118, rfl, tk _ _ g4, ww, vv, by decide⟩
      have st5 := stG.but pl5 sb5
      clear mv tk g1 g2 g3 g4 g5 sz sb5 stG st
      obtain ⟨t, x, y, rfl, ht, hx, hy, nxy⟩ := picked
      (repeat array_get_dec)
      refine ⟨p, l, 6, rfl, st5.pl, by omega, by omega, fun day H6 d0 d1 pl6 sb6 => ?_⟩
      have st6 := st5.but pl6 sb6
      clear ht sb6 pl5 st5
      (repeat array_get_dec)
      refine ⟨p, l, 5, rfl, st6.pl, by omega, by omega, fun n H7 n0 n1 pl7 sb7 => ?_⟩
      have st7 := st6.but pl7 sb7
      clear sb7 pl6 st6
      (repeat array_get_dec)
      refine ⟨p, l, 5, rfl, st7.pl, by omega, by omega, fun dd H8 e0 e1 pl8 sb8 => ?_⟩
      have st8 := st7.but pl8 sb8
      clear sb8 pl7 st7
      (repeat array_get_dec)
      refine ⟨by show 2 ≤ sizeLine; decide, fun tr htr => ?_⟩
      have st9 := st8.same (same_upd (o := .tup [.int (1 + n), .int (1 + dd)]) (Same.refl _) htr)
      have gtr := upd_same (H := H8) (a := tr) (o := .tup [.int (1 + n), .int (1 + dd)])
      generalize upd H8 tr (.tup [.int (1 + n), .int (1 + dd)]) = H9 at gtr st9 ⊢
      clear st8 pl8 htr
      obtain ⟨dxr, Xr, gi, _⟩ := id st9.rt
      (repeat array_get_dec)
      refine ⟨ra, x, y, rp, L, day, tr, 1 + n, 1 + dd, rfl, by omega, by omega, hx, hy, nxy, gtr, ⟨⟨by omega, by omega⟩, by omega, by omega⟩, st9.rt, by omega, fun HA rp' hrp' rtA frA => ?_⟩
      have gtrA := frA.tup gi _ _ gtr
      have plA := st9.pl.fre gi frA
      have ktA := st9.kt.fre gi st9.d1 frA
      obtain ⟨X, b1, b2, b3⟩ := st9.rw
      have b1A := frA _ _ (fun z => by rw [z, gi] at b1; cases b1) b1
      have b2A := b2.keep (frA.tup gi)
      have npA : rp' ≠ p := st9.pl.ne hrp'
      have kn := st9.kn
      have d1 := st9.d1
      have d3 := st9.d3
      have d4 := st9.d4
      clear b1 b2 gtr gi frA st9 hrp'
      (repeat array_get_dec)
      intro A hA
      have lx := nameC_lt hx
      have ly := nameC_lt hy
      have eXl : X.length = L.length := by rw [← List.length_map (f := Prod.snd), b3]
      have nAp : A ≠ p := plA.ne hA
      refine lc_list (K := K) (a := rr) (xs := X.map Prod.fst) (fun i H' => H' A = some (.lst (((X.take i).filter fun b => !sameK b.2 x y day).map Prod.fst)) ∧ ∀ b o, b ≠ A → HA b = some o → H' b = some o) ⟨upd_same, fun b o nb e => by rw [upd_ne nb]; exact e⟩ ?_ ?_ ?_
      · rintro i H' _ ⟨h1, h2⟩
        exact SqL.of (h2 _ _ (ne_of_none b1A hA) b1A)
      · rintro i v H' hv ⟨h1, h2⟩
        obtain ⟨b, hb, rfl⟩ := fst_get hv
        obtain ⟨⟨l1, l2⟩, q0, t0, eb, r1, r2⟩ := b2A b (List.mem_of_getElem? hb)
        have r1' := h2 _ _ (ne_of_none r1 hA) r1
        rw [eb]
        (repeat array_get_dec)
        refine w_sl3 r1' fun u hu2 => ?_
        (repeat array_get_dec)
        refine ⟨by show 3 ≤ sizeLine; rw [sizeLine_eq]; omega, fun u2 hu3 => ?_⟩
        have nu : u ≠ u2 := fun z => by rw [z, upd_same] at hu3; cases hu3
        refine w_ne3 l1 l2 lx ly (by rw [upd_ne nu]; exact upd_same) upd_same ?_
        have nAu : A ≠ u := ne_of_none h1 hu2
        have nAu2 : A ≠ u2 := ne_of_none (by rw [upd_ne nAu]; exact h1) hu3
        have h1' : upd (upd H' u (.tup [.str (mkS [b.2.a]), .str (mkS [b.2.b]), .int b.2.day])) u2 (.tup [.str (mkS [x]), .str (mkS [y]), .int day]) A = some (.lst (((X.take i).filter fun b => !sameK b.2 x y day).map Prod.fst)) := by rw [upd_ne nAu2, upd_ne nAu]; exact h1
        have h2' : ∀ b' o, b' ≠ A → HA b' = some o → upd (upd H' u (.tup [.str (mkS [b.2.a]), .str (mkS [b.2.b]), .int b.2.day])) u2 (.tup [.str (mkS [x]), .str (mkS [y]), .int day]) b' = some o := fun b' o nb e => by
          have e1 := h2 b' o nb e
          rw [upd_ne (ne_of_none (by rw [upd_ne (ne_of_none e1 hu2)]; exact e1) hu3), upd_ne (ne_of_none e1 hu2)]
          exact e1
        generalize upd (upd H' u (.tup [.str (mkS [b.2.a]), .str (mkS [b.2.b]), .int b.2.day])) u2 (.tup [.str (mkS [x]), .str (mkS [y]), .int day]) = H9 at h1' h2' ⊢
        have lz : (((X.take i).filter fun b => !sameK b.2 x y day).map Prod.fst).length < sizeLine := Nat.lt_of_le_of_lt fm_len (by rw [sizeLine_eq]; omega)
        rw [show (decide (b.2.a = x) && (decide (b.2.b = y) && decide (b.2.day = day))) = sameK b.2 x y day from rfl]
        refine ⟨_, rfl, ?_⟩
        refine ite2 (fun z => ?_) (fun z => ?_)
        · (repeat array_get_dec)
          exact ⟨by rw [upd_same, fm_yes hb z, eb], fun b' o nb e => by rw [upd_ne nb]; exact h2' b' o nb e⟩
        · exact ⟨by rw [h1', fm_no hb (by simpa using z)], h2'⟩
      · rintro HB ⟨h1, h2⟩
        rw [List.length_map, List.take_length] at h1
        have sB : Same HA HB := fun b o e => h2 b o (ne_of_none e hA) e
        have gtrB := sB _ _ gtrA
        (repeat array_get_dec)
        refine ⟨by show 4 ≤ sizeLine; decide, fun u hu2 => ?_⟩
        (repeat array_get_dec)
        refine ⟨by show 1 ≤ sizeLine; decide, fun u2 hu3 => ?_⟩
        have sC := same_upd (o := .tup [.str (mkS [x]), .str (mkS [y]), .int day, .ref tr]) sB hu2
        have k3 := upd_same (H := HB) (a := u) (o := .tup [.str (mkS [x]), .str (mkS [y]), .int day, .ref tr])
        have k2 : upd HB u (.tup [.str (mkS [x]), .str (mkS [y]), .int day, .ref tr]) A = some (.lst ((X.filter fun b => !sameK b.2 x y day).map Prod.fst)) := by rw [upd_ne (ne_of_none h1 hu2)]; exact h1
        generalize upd HB u (.tup [.str (mkS [x]), .str (mkS [y]), .int day, .ref tr]) = HC at sC k3 k2 hu3 ⊢
        have sD := same_upd (o := .lst [.ref u]) sC hu3
        have k3' := same_upd (o := .lst [.ref u]) (Same.refl HC) hu3 _ _ k3
        have k2' := same_upd (o := .lst [.ref u]) (Same.refl HC) hu3 _ _ k2
        have k4 := upd_same (H := HC) (a := u2) (o := .lst [.ref u])
        generalize upd HC u2 (.lst [.ref u]) = HD at sD k3' k2' k4 ⊢
        have fl := List.length_filter_le (fun b : V × Row => !sameK b.2 x y day) X
        refine w_catL k2' k4 (by rw [List.length_map, List.length_singleton]; omega) fun rr' hrr' => ?_
        have sE := same_upd (o := .lst ((X.filter fun b => !sameK b.2 x y day).map Prod.fst ++ [.ref u])) sD hrr'
        have rX : RowsV (upd HD rr' (.lst ((X.filter fun b => !sameK b.2 x y day).map Prod.fst ++ [.ref u]))) ((X.filter fun b => !sameK b.2 x y day) ++ [(V.ref u, ⟨x, y, day, 1 + n, 1 + dd⟩)]) := fun b m => by
          rcases List.mem_append.mp m with m | m
          · exact (b2A b (List.mem_filter.mp m).1).keep fun _ _ e => sE _ _ e
          · rw [List.mem_singleton.mp m]
            exact ⟨⟨lx, ly⟩, u, tr, rfl, by rw [upd_ne (ne_of_none k3' hrr')]; exact k3', sE _ _ gtrA⟩
        have nrr' : rr' ≠ p := (plA.keep sD).ne hrr'
        have k5 : upd HD rr' (.lst ((X.filter fun b => !sameK b.2 x y day).map Prod.fst ++ [.ref u])) rr' = some (.lst (((X.filter fun b => !sameK b.2 x y day) ++ [(V.ref u, (⟨x, y, day, 1 + n, 1 + dd⟩ : Row))]).map Prod.fst)) := by rw [List.map_append]; exact upd_same
        generalize upd HD rr' (.lst ((X.filter fun b => !sameK b.2 x y day).map Prod.fst ++ [.ref u])) = HE at sE rX k5 ⊢
        have eL : ((X.filter fun b => !sameK b.2 x y day) ++ [(V.ref u, (⟨x, y, day, 1 + n, 1 + dd⟩ : Row))]).map Prod.snd = putR L ⟨x, y, day, 1 + n, 1 + dd⟩ := by
          rw [List.map_append, ← b3]
          unfold putR
          rw [List.filter_map]
          rfl
        have lz : ((X.filter fun b => !sameK b.2 x y day) ++ [(V.ref u, (⟨x, y, day, 1 + n, 1 + dd⟩ : Row))]).length ≤ 100000 := by rw [List.length_append, List.length_singleton]; omega
        have lp := put_len L ⟨x, y, day, 1 + n, 1 + dd⟩
        have stE : St1 M.CR HE p l ra rp' rr' kc kp (putR L ⟨x, y, day, 1 + n, 1 + dd⟩) := ⟨plA.keep sE, rtA.same sE, ⟨_, k5, rX, eL⟩, ktA.same sE, d1, npA, nrr', d4, keysN_put kn _⟩
        obtain ⟨dxr, Xr, gi, _⟩ := id stE.rt
        generalize ((X.filter fun b => !sameK b.2 x y day) ++ [(V.ref u, (⟨x, y, day, 1 + n, 1 + dd⟩ : Row))]) = Xn at k5 rX eL lz
        (repeat array_get_dec)
        refine ⟨ra, rp', _, rfl, stE.rt, fun HF q1 X1 sF _ g1 g2 g3 => ?_⟩
        have k5' := sF _ _ k5
        (repeat array_get_dec)
        refine w_srtR k5' (rX.keep fun _ _ e => sF _ _ e) lz fun q2 Y hq2 mY eY => ?_
        have sG := same_upd (o := .lst (Y.map Prod.fst)) sF hq2
        have rY : RowsV (upd HF q2 (.lst (Y.map Prod.fst))) Y := fun b m => (rX b (mY b m)).keep fun _ _ e => sG _ _ e
        (repeat array_get_dec)
        refine ⟨_, _, .list ((srt (putR L ⟨x, y, day, 1 + n, 1 + dd⟩)).map encR), rfl, .lst (SqL.of (by rw [upd_ne (ne_of_none g1 hq2)]; exact g1)) ?_, .lst (SqL.of upd_same) ?_, okRows ?_, fun HH sH => ?_⟩
        · rw [← g3]
          exact rowsDp (g2.keep fun _ _ e => by rw [upd_ne (ne_of_none e hq2)]; exact e)
        · rw [← eL, ← eY]
          exact rowsDp rY
        · rw [(srt_perm _).length_eq]; omega
        · have stH := (stE.same sG).same sH
          (repeat array_get_dec)
          exact ⟨rp', rr', _, _, _, _, _, _, _, rfl, stH, by omega⟩
    · rintro σ H' ⟨rp, rr, L, v4, v5, v6, v7, v8, v9, rfl, st, hL⟩
      have hL' : L.length ≤ 6 := by omega
      (repeat array_get_dec)
      refine ⟨by show 3 ≤ sizeLine; decide, fun la hla => ?_⟩
      have stA := st.same (same_upd (o := .lst [.str (Str.ofString "u"), .str (Str.ofString "v"), .str (Str.ofString "w")]) (Same.refl _) hla)
      have gla := upd_same (H := H') (a := la) (o := .lst [.str (Str.ofString "u"), .str (Str.ofString "v"), .str (Str.ofString "w")])
      have nla : la ≠ p := st.pl.ne hla
      have uvw : ∀ (i : Nat) (v : V), [V.str (Str.ofString "u"), .str (Str.ofString "v"), .str (Str.ofString "w")][i]? = some v → ∃ c, v = .str (mkS [c]) ∧ nameC c true := fun i v h => by
        match i, h with
        | 0, h => exact ⟨117, (Option.some.inj h).symm, .inl ⟨.inl rfl, rfl⟩⟩
        | 1, h => exact ⟨118, (Option.some.inj h).symm, .inl ⟨.inr (.inl rfl), rfl⟩⟩
        | 2, h => exact ⟨119, (Option.some.inj h).symm, .inl ⟨.inr (.inr rfl), rfl⟩⟩
        | n + 3, h => simp at h
      generalize upd H' la (.lst [.str (Str.ofString "u"), .str (Str.ofString "v"), .str (Str.ofString "w")]) = HA at stA gla ⊢
      clear st hla
      (repeat array_get_dec)
      refine for_list (K := K) (a := la) (xs := [.str (Str.ofString "u"), .str (Str.ofString "v"), .str (Str.ofString "w")]) (fun i σ H' => ∃ (v4 v5 v6 v7 v8 v9 v10 : Option V), σ = [some (.ref p), some (.ref ra), some (.ref rr), some (.ref kc), v4, v5, v6, v7, v8, v9, v10] ∧ St1 M.CR H' p l ra rp rr kc kp L ∧ H' la = some (.lst [.str (Str.ofString "u"), .str (Str.ofString "v"), .str (Str.ofString "w")])) ⟨_, _, _, _, _, _, _, rfl, stA, gla⟩ ?_ ?_ ?_
      · rintro i σ H' _ ⟨v4, v5, v6, v7, v8, v9, v10, rfl, st, g⟩
        exact SqL.of g
      · rintro i v σ H' hv ⟨v4, v5, v6, v7, v8, v9, v10, rfl, st, g⟩
        obtain ⟨x, rfl, hx⟩ := uvw i v hv
        (repeat array_get_dec)
        refine ⟨by show 3 ≤ sizeLine; decide, fun lb hlb => ?_⟩
        have stB := st.same (same_upd (o := .lst [.str (Str.ofString "u"), .str (Str.ofString "v"), .str (Str.ofString "w")]) (Same.refl _) hlb)
        have gB := same_upd (o := .lst [.str (Str.ofString "u"), .str (Str.ofString "v"), .str (Str.ofString "w")]) (Same.refl _) hlb _ _ g
        have glb := upd_same (H := H') (a := lb) (o := .lst [.str (Str.ofString "u"), .str (Str.ofString "v"), .str (Str.ofString "w")])
        have nlb : lb ≠ p := st.pl.ne hlb
        generalize upd H' lb (.lst [.str (Str.ofString "u"), .str (Str.ofString "v"), .str (Str.ofString "w")]) = HB at stB gB glb ⊢
        clear st g hlb
        (repeat array_get_dec)
        refine for_list (K := K) (a := lb) (xs := [.str (Str.ofString "u"), .str (Str.ofString "v"), .str (Str.ofString "w")]) (fun i σ H' => ∃ (v4 v6 v7 v8 v9 v10 : Option V), σ = [some (.ref p), some (.ref ra), some (.ref rr), some (.ref kc), v4, some (.str (mkS [x])), v6, v7, v8, v9, v10] ∧ St1 M.CR H' p l ra rp rr kc kp L ∧ H' la = some (.lst [.str (Str.ofString "u"), .str (Str.ofString "v"), .str (Str.ofString "w")]) ∧ H' lb = some (.lst [.str (Str.ofString "u"), .str (Str.ofString "v"), .str (Str.ofString "w")])) ⟨_, _, _, _, _, _, rfl, stB, gB, glb⟩ ?_ ?_ ?_
        · rintro i σ H' _ ⟨v4, v6, v7, v8, v9, v10, rfl, st, ga, gb⟩
          exact SqL.of gb
        · rintro i v σ H' hv ⟨v4, v6, v7, v8, v9, v10, rfl, st, ga, gb⟩
          obtain ⟨y, rfl, hy⟩ := uvw i v hv
          have lx := nameC_lt hx
          have ly := nameC_lt hy
          (repeat array_get_dec)
          refine ⟨p, l, 7, rfl, st.pl, by omega, by omega, fun day H6 d0 d1 pl6 sb6 => ?_⟩
          have st6 := st.but pl6 sb6
          have ga6 := sb6 _ _ nla ga
          have gb6 := sb6 _ _ nlb gb
          clear sb6 pl6 st ga gb
          (repeat array_get_dec)
          obtain ⟨X, b1, b2, b3⟩ := st6.rw
          (repeat array_get_dec)
          refine for_list (K := K) (a := rr) (xs := X.map Prod.fst) (fun i σ H' => ∃ (v9 : Option V) (bv : V), σ = [some (.ref p), some (.ref ra), some (.ref rr), some (.ref kc), v4, some (.str (mkS [x])), some (.str (mkS [y])), some (.int day), v8, v9, some bv] ∧ BestV H' bv (((X.map Prod.snd).take i).foldl (K78.s1 x y day) none) ∧ Same H6 H') ⟨_, _, rfl, rfl, Same.refl _⟩ ?_ ?_ ?_
          · rintro i σ H' _ ⟨v9, bv, rfl, bh, sh⟩
            exact SqL.of (sh _ _ b1)
          · rintro i v σ H' hv ⟨v9, bv, rfl, bh, sh⟩
            obtain ⟨b, hb, rfl⟩ := fst_get hv
            obtain ⟨⟨l1, l2⟩, q0, t0, eb, r1, r2⟩ := b2 b (List.mem_of_getElem? hb)
            have r1' := sh _ _ r1
            have r2' := sh _ _ r2
            rw [fold_snoc hb]
            rw [eb]
            generalize ((X.map Prod.snd).take i).foldl (K78.s1 x y day) none = B at bh ⊢
            (repeat array_get_dec)
            refine ite2 (fun z1 => ?_) (fun z1 => ?_)
            · (repeat array_get_dec)
              refine w_sl2 r1' fun u hu2 => ?_
              (repeat array_get_dec)
              refine ⟨by show 2 ≤ sizeLine; decide, fun u2 hu3 => ?_⟩
              have nu : u ≠ u2 := fun z => by rw [z, upd_same] at hu3; cases hu3
              refine w_eq2 l1 l2 lx ly (by rw [upd_ne nu]; exact upd_same) upd_same ?_
              have s3 : Same H' (upd (upd H' u (.tup [.str (mkS [b.2.a]), .str (mkS [b.2.b])])) u2 (.tup [.str (mkS [x]), .str (mkS [y])])) := same_upd (same_upd (Same.refl _) hu2) hu3
              generalize upd (upd H' u (.tup [.str (mkS [b.2.a]), .str (mkS [b.2.b])])) u2 (.tup [.str (mkS [x]), .str (mkS [y])]) = H9 at s3 ⊢
              have r1'' := s3 _ _ r1'
              have r2'' := s3 _ _ r2'
              have bh' := bh.same s3
              have sh' := sh.trans s3
              rw [show (decide (b.2.a = x) && decide (b.2.b = y)) = isK b.2 x y from rfl]
              refine ⟨_, rfl, ?_⟩
              refine ite2 (fun z2 => ?_) (fun z2 => ?_)
              · cases B with
                | none =>
                  have bn : bv = .non := bh'
                  subst bn
                  (repeat array_get_dec)
                  refine ⟨by show 2 ≤ sizeLine; decide, fun u3 hu4 => ?_⟩
                  have s4 := same_upd (o := .tup [.int b.2.day, .ref t0]) (Same.refl _) hu4
                  (repeat array_get_dec)
                  exact ⟨_, _, rfl, by rw [s1_none z1 z2]; exact ⟨u3, t0, rfl, upd_same, s4 _ _ r2''⟩, sh'.trans s4⟩
                | some c =>
                  obtain ⟨q5, t5, rfl, g1, g2⟩ := id bh'
                  (repeat array_get_dec)
                  refine ite2 (fun z3 => ?_) (fun z3 => ?_)
                  · (repeat array_get_dec)
                    refine ⟨by show 2 ≤ sizeLine; decide, fun u3 hu4 => ?_⟩
                    have s4 := same_upd (o := .tup [.int b.2.day, .ref t0]) (Same.refl _) hu4
                    (repeat array_get_dec)
                    exact ⟨_, _, rfl, by rw [s1_yes z1 z2 z3]; exact ⟨u3, t0, rfl, upd_same, s4 _ _ r2''⟩, sh'.trans s4⟩
                  · (repeat array_get_dec)
                    exact ⟨_, _, rfl, by rw [s1_no3 (by simpa using z3)]; exact bh', sh'⟩
              · (repeat array_get_dec)
                exact ⟨_, _, rfl, by rw [s1_no2 (by simpa using z2)]; exact bh', sh'⟩
            · (repeat array_get_dec)
              exact ⟨_, _, rfl, by rw [s1_no (by simpa using z1)]; exact bh, sh⟩
          · rintro σ H' ⟨v9, bv, rfl, bh, sh⟩
            rw [show (X.map Prod.fst).length = (X.map Prod.snd).length by rw [List.length_map, List.length_map], List.take_length, b3] at bh
            have st7 := st6.same sh
            obtain ⟨X2, c1, c2, c3⟩ := st7.rw
            (repeat array_get_dec)
            refine for_list (K := K) (a := rr) (xs := X2.map Prod.fst) (fun i σ H2 => ∃ (v9 : Option V) (bv : V), σ = [some (.ref p), some (.ref ra), some (.ref rr), some (.ref kc), v4, some (.str (mkS [x])), some (.str (mkS [y])), some (.int day), v8, v9, some bv] ∧ BestV H2 bv (((X2.map Prod.snd).take i).foldl (K78.s2 x y day) (best1 L x y day)) ∧ Same H' H2) ⟨_, _, rfl, bh, Same.refl _⟩ ?_ ?_ ?_
            · rintro i σ H' _ ⟨v9, bv, rfl, bh, sh⟩
              exact SqL.of (sh _ _ c1)
            · rintro i v σ H' hv ⟨v9, bv, rfl, bh, sh⟩
              obtain ⟨b, hb, rfl⟩ := fst_get hv
              obtain ⟨⟨l1, l2⟩, q0, t0, eb, r1, r2⟩ := c2 b (List.mem_of_getElem? hb)
              have r1' := sh _ _ r1
              have r2' := sh _ _ r2
              rw [fold_snoc hb]
              rw [eb]
              generalize ((X2.map Prod.snd).take i).foldl (K78.s2 x y day) (best1 L x y day) = B at bh ⊢
              (repeat array_get_dec)
              refine ite2 (fun z1 => ?_) (fun z1 => ?_)
              · (repeat array_get_dec)
                refine w_sl2 r1' fun u hu2 => ?_
                (repeat array_get_dec)
                refine ⟨by show 2 ≤ sizeLine; decide, fun u2 hu3 => ?_⟩
                have nu : u ≠ u2 := fun z => by rw [z, upd_same] at hu3; cases hu3
                refine w_eq2 l1 l2 ly lx (by rw [upd_ne nu]; exact upd_same) upd_same ?_
                have s3 : Same H' (upd (upd H' u (.tup [.str (mkS [b.2.a]), .str (mkS [b.2.b])])) u2 (.tup [.str (mkS [y]), .str (mkS [x])])) := same_upd (same_upd (Same.refl _) hu2) hu3
                generalize upd (upd H' u (.tup [.str (mkS [b.2.a]), .str (mkS [b.2.b])])) u2 (.tup [.str (mkS [y]), .str (mkS [x])]) = H9 at s3 ⊢
                have r1'' := s3 _ _ r1'
                have r2'' := s3 _ _ r2'
                have bh' := bh.same s3
                have sh' := sh.trans s3
                rw [show (decide (b.2.a = y) && decide (b.2.b = x)) = isK b.2 y x from rfl]
                refine ⟨_, rfl, ?_⟩
                refine ite2 (fun z2 => ?_) (fun z2 => ?_)
                · cases B with
                  | none =>
                    have bn : bv = .non := bh'
                    subst bn
                    (repeat array_get_dec)
                    refine ⟨by show 2 ≤ sizeLine; decide, fun u4 hu5 => ?_⟩
                    (repeat array_get_dec)
                    refine ⟨by show 2 ≤ sizeLine; decide, fun u3 hu4 => ?_⟩
                    have s4 := same_upd (o := .tup [.int b.2.d, .int b.2.n]) (Same.refl _) hu5
                    have s5 := same_upd (o := .tup [.int b.2.day, .ref u4]) (Same.refl _) hu4
                    (repeat array_get_dec)
                    exact ⟨_, _, rfl, by rw [s2_none z1 z2]; exact ⟨u3, u4, rfl, upd_same, s5 _ _ upd_same⟩, (sh'.trans s4).trans s5⟩
                  | some c =>
                    obtain ⟨q5, t5, rfl, g1, g2⟩ := id bh'
                    (repeat array_get_dec)
                    refine ite2 (fun z3 => ?_) (fun z3 => ?_)
                    · (repeat array_get_dec)
                      refine ⟨by show 2 ≤ sizeLine; decide, fun u4 hu5 => ?_⟩
                      (repeat array_get_dec)
                      refine ⟨by show 2 ≤ sizeLine; decide, fun u3 hu4 => ?_⟩
                      have s4 := same_upd (o := .tup [.int b.2.d, .int b.2.n]) (Same.refl _) hu5
                      have s5 := same_upd (o := .tup [.int b.2.day, .ref u4]) (Same.refl _) hu4
                      (repeat array_get_dec)
                      exact ⟨_, _, rfl, by rw [s2_yes z1 z2 z3]; exact ⟨u3, u4, rfl, upd_same, s5 _ _ upd_same⟩, (sh'.trans s4).trans s5⟩
                    · (repeat array_get_dec)
                      exact ⟨_, _, rfl, by rw [s2_no3 (by simpa using z3)]; exact bh', sh'⟩
                · (repeat array_get_dec)
                  exact ⟨_, _, rfl, by rw [s2_no2 (by simpa using z2)]; exact bh', sh'⟩
              · (repeat array_get_dec)
                exact ⟨_, _, rfl, by rw [s2_no (by simpa using z1)]; exact bh, sh⟩
            · rintro σ H2 ⟨v9, bv, rfl, bh, sh2⟩
              rw [show (X2.map Prod.fst).length = (X2.map Prod.snd).length by rw [List.length_map, List.length_map], List.take_length, c3] at bh
              have bh2 : BestV H2 bv (best2 L x y day) := bh
              have st8 := st7.same sh2
              obtain ⟨dxr, Xr, gi, _⟩ := id st8.rt
              (repeat array_get_dec)
              refine ⟨ra, rp, L, x, y, day, rfl, lx, ly, st8.rt, st8.kn, fun exy HR q0 sR hq => ?_, fun nxy eB HR sR => ?_, fun nxy c eB HR q0 sR hq => ?_⟩
              · (repeat array_get_dec)
                refine iteT' (decide_eq_true (by rw [exy])) ?_
                (repeat array_get_dec)
                refine ⟨by show 2 ≤ sizeLine; decide, fun u hu3 => ?_⟩
                have sU := same_upd (o := .tup [.int 1, .int 1]) sR hu3
                (repeat array_get_dec)
                refine ⟨_, _, .tuple [.int 1, .int 1], rfl, (.tup (SqT.of (by rw [upd_ne (ne_of_none hq hu3)]; exact hq)) (.cons (.int _) (.cons (.int _) .nil))), (.tup (SqT.of upd_same) (.cons (.int _) (.cons (.int _) .nil))), ⟨by simp, fun z mz => by simp at mz; rcases mz with rfl | rfl <;> trivial⟩, fun HH sH => ?_⟩
                (repeat array_get_dec)
                exact ⟨_, _, _, _, _, _, rfl, (st8.same sU).same sH, sH _ _ (sU _ _ (sh2 _ _ (sh _ _ ga6))), sH _ _ (sU _ _ (sh2 _ _ (sh _ _ gb6)))⟩
              · rw [eB] at bh2
                have bn : bv = .non := bh2
                subst bn
                (repeat array_get_dec)
                refine iteF' (decide_eq_false fun z => nxy (by simpa using mkS_inj (V.str.inj z))) ?_
                (repeat array_get_dec)
                refine ⟨_, _, .none, rfl, .non, .non, trivial, fun HH sH => ?_⟩
                (repeat array_get_dec)
                exact ⟨_, _, _, _, _, _, rfl, (st8.same sR).same sH, sH _ _ (sR _ _ (sh2 _ _ (sh _ _ ga6))), sH _ _ (sR _ _ (sh2 _ _ (sh _ _ gb6)))⟩
              · rw [eB] at bh2
                obtain ⟨q5, t5, rfl, g1, g2⟩ := id bh2
                have g1' := sR _ _ g1
                have g2' := sR _ _ g2
                (repeat array_get_dec)
                refine iteF' (decide_eq_false fun z => nxy (by simpa using mkS_inj (V.str.inj z))) ?_
                (repeat array_get_dec)
                refine ⟨_, _, .tuple [.int c.2.1, .int c.2.2], rfl, (.tup (SqT.of hq) (.cons (.int _) (.cons (.int _) .nil))), (.tup (SqT.of g2') (.cons (.int _) (.cons (.int _) .nil))), ⟨by simp, fun z mz => by simp at mz; rcases mz with rfl | rfl <;> trivial⟩, fun HH sH => ?_⟩
                (repeat array_get_dec)
                exact ⟨_, _, _, _, _, _, rfl, (st8.same sR).same sH, sH _ _ (sR _ _ (sh2 _ _ (sh _ _ ga6))), sH _ _ (sR _ _ (sh2 _ _ (sh _ _ gb6)))⟩
        · rintro σ H' ⟨v4, v6, v7, v8, v9, v10, rfl, st, ga, gb⟩
          (repeat array_get_dec)
          exact ⟨_, _, _, _, _, _, _, rfl, st, ga⟩
      · rintro σ H' ⟨v4, v5, v6, v7, v8, v9, v10, rfl, st, g⟩
        obtain ⟨dxk, Xk, gk, _⟩ := id st.kt
        (repeat array_get_dec)
        refine ⟨kc, kp, [], rfl, st.kt, fun HF q1 X1 sF _ g1 g2 g3 => ?_⟩
        have eX1 : X1 = [] := by
          have : X1.length = 0 := by rw [← List.length_map (f := Prod.snd), g3]; simp [srt]
          exact List.length_eq_zero_iff.mp this
        rw [eX1] at g1
        (repeat array_get_dec)
        refine ⟨by show 0 ≤ sizeLine; decide, fun u hu3 => ?_⟩
        refine ⟨.list [], .list [], .lst (SqL.of (by rw [upd_ne (ne_of_none g1 hu3)]; exact g1)) .nil, .lst (SqL.of upd_same) .nil, by decide +kernel, by decide +kernel, ?_⟩
        exact q _
end
end K78

namespace K78
open PySem PySem.Spec PyProof.Rows L2
local macro_rules | `(tactic| array_mem_dec) => `(tactic| first | with_reducible assumption | with_reducible exact upd_same | ((with_reducible apply same_at); (with_reducible assumption); array_mem_dec) | ((with_reducible apply upd_atN); (with_reducible assumption); array_mem_dec) | ((with_reducible apply upd_at); (first | with_reducible assumption | (apply Ne.symm; with_reducible assumption)); array_mem_dec))
local macro_rules | `(tactic| array_get_dec) => `(tactic| first | (with_reducible refine w_seq ?_) | (with_reducible refine w_asg ?_) | (with_reducible refine w_drop ?_) | (with_reducible refine w_ret ?_) | (with_reducible refine w_retN ?_) | (with_reducible refine w_next ?_) | (with_reducible refine w_break ?_) | (with_reducible refine w_cont ?_) | (with_reducible refine w_ifS ?_) | (with_reducible refine w_sub ?_) | (with_reducible refine w_c ?_) | (with_reducible refine w_op ?_) | (with_reducible refine w_un ?_) | (with_reducible refine w_test ?_) | (with_reducible refine w_B ?_) | (with_reducible refine w_yes ?_) | (with_reducible refine w_not ?_) | (with_reducible refine w_and ?_) | (with_reducible refine w_or ?_) | (with_reducible refine w_andV ?_) | (with_reducible refine w_orV ?_) | (with_reducible refine w_notV ?_) | (with_reducible refine w_ifE ?_) | (with_reducible refine w_nil ?_) | (with_reducible refine w_cons ?_) | (with_reducible refine w_call ?_) | (with_reducible refine w_callS ?_) | (with_reducible refine w_cB ?_) | (with_reducible refine w_lst ?_) | (with_reducible refine w_tup ?_) | (with_reducible refine w_sl ?_) | (with_reducible refine w_noPart ?_) | (with_reducible refine w_part ?_) | (with_reducible refine w_bm ?_) | (with_reducible refine w_bm0 ?_) | (with_reducible refine w_strTy ?_) | (with_reducible refine w_bl ?_) | (with_reducible refine w_int1 ?_) | (with_reducible refine w_str1 ?_) | (with_reducible refine w_rI0 ?_) | (with_reducible refine w_rU ?_) | (with_reducible refine w_eqI ?_) | (with_reducible refine w_eqS ?_) | (with_reducible refine w_neI ?_) | (with_reducible refine w_neS ?_) | (with_reducible refine w_bl2 ?_) | (with_reducible refine w_isN ?_) | (with_reducible refine w_for ?_) | (with_reducible refine w_iRng1 ?_) | (with_reducible refine w_iRng2 ?_) | (with_reducible refine w_iList ?_) | (with_reducible refine w_iTup ?_) | (with_reducible refine w_iStr ?_) | (with_reducible refine w_lc ?_) | (with_reducible refine w_M1 ?_) | (with_reducible refine w_M0 ?_) | (with_reducible refine w_isS ?_) | ((with_reducible apply w_name); (simp only [wipe, List.map_cons, List.map_nil, List.foldl_cons, List.foldl_nil, List.set_cons_zero, List.set_cons_succ]; exact rfl)) | ((with_reducible apply w_var); exact rfl) | ((with_reducible apply w_lstTy); array_mem_dec) | ((with_reducible apply w_lenL); array_mem_dec) | ((with_reducible apply w_lenT); array_mem_dec) | ((with_reducible apply w_listOf); array_mem_dec) | ((with_reducible apply w_lenS); (first | (with_reducible assumption) | omega | (rw [sizeLine_eq]; omega))) | ((with_reducible apply w_slS); (first | (with_reducible assumption) | omega | (rw [sizeLine_eq]; omega))) | ((with_reducible apply w_wipe); exact rfl) | ((with_reducible apply w_acc); array_mem_dec; (try (first | (with_reducible assumption) | omega | (rw [sizeLine_eq]; omega)))) | ((with_reducible apply w_itl); array_mem_dec) | ((with_reducible apply w_itt); array_mem_dec) | ((with_reducible apply w_append); array_mem_dec; (try (first | (with_reducible assumption) | omega | (rw [sizeLine_eq]; omega)))) | ((with_reducible apply w_rng1); (first | (with_reducible assumption) | omega); (first | (with_reducible assumption) | omega)) | ((with_reducible apply w_ixL); array_mem_dec; (first | (with_reducible assumption) | exact rfl | (apply atI_nat; (with_reducible assumption)) | exact atI_last _ _)) | ((with_reducible apply w_ixT); array_mem_dec; (first | (with_reducible assumption) | exact rfl | (apply atI_nat; (with_reducible assumption)) | exact atI_last _ _)) | ((with_reducible apply w_iT); first | exact rfl | (with_reducible assumption)) | ((with_reducible apply w_iF); first | exact rfl | (with_reducible assumption)) | ((with_reducible apply w_isiI (b := true)); decide +kernel) | ((with_reducible apply w_isiI (b := false)); decide +kernel) | ((with_reducible apply w_isiB (b := true)); decide +kernel) | ((with_reducible apply w_isiB (b := false)); decide +kernel) | ((with_reducible apply w_isiS (b := true)); decide +kernel) | ((with_reducible apply w_isiS (b := false)); decide +kernel) | ((with_reducible apply w_isiN (b := true)); decide +kernel) | ((with_reducible apply w_isiN (b := false)); decide +kernel) | ((with_reducible apply w_isiL (b := true)); array_mem_dec; decide +kernel) | ((with_reducible apply w_isiL (b := false)); array_mem_dec; decide +kernel) | ((with_reducible apply w_isiT (b := true)); array_mem_dec; decide +kernel) | ((with_reducible apply w_isiT (b := false)); array_mem_dec; decide +kernel) | (with_reducible refine w_notT ?_) | (with_reducible refine w_chain ?_) | ((with_reducible apply w_trL); array_mem_dec) | ((with_reducible apply w_gTup); array_mem_dec; exact rfl) | ((with_reducible apply w_gLst); array_mem_dec; exact rfl) | (with_reducible refine w_gCons ?_) | (with_reducible refine w_gNil ?_) | (with_reducible refine w_Fld ?_) | (with_reducible refine w_sFld ?_) | (with_reducible refine w_dget ?_) | (with_reducible refine w_dIn ?_) | (with_reducible refine w_dNotIn ?_) | (with_reducible refine w_sDPut ?_) | (with_reducible refine w_dnewK ?_) | (with_reducible refine w_meth ?_) | (with_reducible refine w_make ?_) | (with_reducible refine w_methS ?_) | (with_reducible refine w_makeS ?_) | (with_reducible refine w_dpop ?_) | ((with_reducible apply w_fld1); array_mem_dec; (with_reducible assumption); (with_reducible assumption); exact rfl) | ((with_reducible apply w_sfld1); array_mem_dec; (with_reducible assumption); (with_reducible assumption); exact Nat.le_of_ble_eq_true rfl) | ((with_reducible apply w_meth1); array_mem_dec; exact rfl) | ((with_reducible apply w_dgetS); array_mem_dec; (with_reducible assumption)) | ((with_reducible apply w_dgetI); array_mem_dec; (with_reducible assumption)) | ((with_reducible apply w_dinS); array_mem_dec) | ((with_reducible apply w_dputI); array_mem_dec; (try (first | (with_reducible assumption) | omega | (rw [sizeLine_eq]; omega)))) | ((with_reducible apply w_dputS); array_mem_dec; (try (first | (with_reducible assumption) | omega | (rw [sizeLine_eq]; omega)))) | ((with_reducible apply w_isD); array_mem_dec) | ((with_reducible apply w_dictD); array_mem_dec) | ((with_reducible apply w_dpopS); array_mem_dec; (with_reducible assumption)))
/-! ### the law's walk -/
def spLaw (K : PySem.W.Frag) : Sp := fun vs H Q _ => ∃ (a : Addr) (ns : List Int), vs = [.ref a] ∧ SqL K H a (ns.map V.int) ∧ ns.length ≤ 63 ∧ ∀ H', Q (.bl true) H'
theorem PoolL.frame {H H' : Hp} {p l A : Addr} (h : PoolL H p l) (n1 : A ≠ p) (n2 : A ≠ l) (f : ∀ b o, b ≠ A → H b = some o → H' b = some o) : PoolL H' p l := by
  obtain ⟨ns, a1, b, c, d, h1, h2, h3⟩ := h
  exact ⟨ns, a1, b, c, d, f _ _ n1.symm h1, f _ _ n2.symm h2, h3⟩
theorem intsDp {K : PySem.W.Frag} {H : Hp} : ∀ {xs : List Int}, DpAll K H (iL xs) (xs.map PyData.int)
  | [] => .nil
  | _ :: _ => .cons (.int _) intsDp
theorem okInts {xs : List Int} (h : xs.length ≤ 1000000) : okD 3 (.list (xs.map PyData.int)) := ⟨by rw [List.length_map]; exact h, fun e m => by
  obtain ⟨w, _, rfl⟩ := List.mem_map.mp m
  trivial⟩
theorem judB_all {x : Int} {ws t : List Int} (h : judB x ws t = true) : ∀ y ∈ t, -1000000000 ≤ y ∧ y ≤ 1000000000 := by
  unfold judB at h
  rw [Bool.and_eq_true, Bool.and_eq_true, Bool.and_eq_true, Bool.and_eq_true, List.all_eq_true] at h
  intro y m
  have := h.1.1.2.1 y m
  rw [Bool.and_eq_true, decide_eq_true_eq, decide_eq_true_eq] at this
  exact this
theorem ixN_nat {n j : Nat} (h : j < n) : ixN n (j : Int) = some j := by
  unfold ixN
  rw [if_pos (by omega), if_pos (by omega)]
  simp
theorem iL_set (l : List Int) (j : Nat) (v : Int) : (iL l).set j (V.int v) = iL (l.set j v) := by unfold iL; rw [List.map_set]
theorem cut_drop1 (xs : List V) : cutV xs (some 1) none = xs.drop 1 := by
  unfold cutV
  rw [HT.sIx_none, show (some (1 : Int)) = some ((1 : Nat) : Int) from rfl, HT.sIx_nat]
  cases xs with
  | nil => rfl
  | cons a r => simp
theorem w_joinA {D : Ends} {t : TS} {σ : L2.St} {H : Hp} (Pp : L2.St → Hp → Prop) (h : ∀ D' : Ends, (∀ σ' HX, Pp σ' HX → D'.nx σ' HX) → t D' σ H) (k : ∀ σ' HX, Pp σ' HX → D.nx σ' HX) : t D σ H := h D k
theorem w_join {D : Ends} {t : TS} {σ : L2.St} {H : Hp} (Pp : Hp → Prop) (h : ∀ D' : Ends, (∀ HX, Pp HX → D'.nx σ HX) → t D' σ H) (k : ∀ HX, Pp HX → D.nx σ HX) : t D σ H := h D k
section
variable {P : Program} {w : World} {K : PySem.W.Frag} {mg : Str → Option Value} {base : Heap}
theorem ok_law (M : Nms K mg) : FnOk P w K mg base CX0 10 M.a_law M.d_law ["script"] (spLaw K) := by
  refine M.F_law.ok sc_law (fun vs H Q E h => ?_) (fun cdv A outer s H vs Q E hr h => ?_)
  · obtain ⟨a, ns, rfl, _⟩ := h
    rfl
  · have hu := hu1 hr
    have clR := M.clR
    have nR_rows := M.nR_rows
    refine ⟨_, (pss_cons (ps_set (i := 1) sc_law.nd rfl (Or.inr rfl) (pe_call (ok__law_pool M) (hr.mono (by decide)) rfl M.g__law_pool M.k__law_pool M.b__law_pool .nil pass0 (pa_cons (pv 0) pa_nil)))
    (pss_cons (ps_for PassesOwn.never rfl (pi_range1 (by rfl) M.T.b_range (pa_cons pe_int pa_nil)) (pg_name (i := 2) sc_law.nd rfl (Or.inl rfl)) (pss_cons (ps_set (i := 3) sc_law.nd rfl (Or.inr rfl) (pe_call (ok__law_pick M) (hr.mono (by decide)) rfl M.g__law_pick M.k__law_pick M.b__law_pick .nil pass0 (pa_cons (pv 1) (pa_cons (pe_lst (pa_cons (pe_call (ok__law_draw M) (hr.mono (by decide)) rfl M.g__law_draw M.k__law_draw M.b__law_draw .nil pass0 (pa_cons (pv 1) (pa_cons pe_int pa_nil))) (pa_cons (pe_call (ok__law_draw M) (hr.mono (by decide)) rfl M.g__law_draw M.k__law_draw M.b__law_draw .nil pass0 (pa_cons (pv 1) (pa_cons (pe_op op_pow pe_int pe_int) pa_nil))) (pa_cons (pe_op op_pow pe_int pe_int) pa_nil)))) pa_nil))))
    (pss_cons (ps_set (i := 4) sc_law.nd rfl (Or.inl rfl) (pe_tup (pa_cons (pe_op op_add pe_int (pe_call (ok__law_draw M) (hr.mono (by decide)) rfl M.g__law_draw M.k__law_draw M.b__law_draw .nil pass0 (pa_cons (pv 1) (pa_cons pe_int pa_nil)))) (pa_cons (pe_op op_add pe_int (pe_call (ok__law_draw M) (hr.mono (by decide)) rfl M.g__law_draw M.k__law_draw M.b__law_draw .nil pass0 (pa_cons (pv 1) (pa_cons pe_int pa_nil)))) pa_nil))))
    (pss_cons (ps_set (i := 5) sc_law.nd rfl (Or.inl rfl) (pe_op op_fdivW (pe_op op_mul (pv 3) (pe_ix (r := rIxT K) ix_tup (pv 4) pe_int (fun _ _ => rfl))) (pe_ix (r := rIxT K) ix_tup (pv 4) pe_int (fun _ _ => rfl))))
    (pss_cons (ps_if (pt_cmpR op_le (pv 5) (pe_op op_pow pe_int pe_int) (nomark _)) (pss_one (ps_if (PW.pt (pw_or (pt_not (pt_val (pe_call (ok__law_same M) (hr.mono (by decide)) rfl M.g__law_same M.k__law_same M.b__law_same .nil pass0 (pa_cons (pe_call (okL_changed M) (hr.mono (by decide)) rfl M.g_changed M.k_changed M.b_changed .nil pass0 (pa_cons (pv 3) (pa_cons (pv 4) pa_nil))) (pa_cons (pv 5) pa_nil))))) (pw_or (pt_not (pt_val (pe_call (ok__law_same M) (hr.mono (by decide)) rfl M.g__law_same M.k__law_same M.b__law_same .nil pass0 (pa_cons (pe_call (okL_changed M) (hr.mono (by decide)) rfl M.g_changed M.k_changed M.b_changed .nil pass0 (pa_cons (pe_op op_sub pe_int (pv 3)) (pa_cons (pv 4) pa_nil))) (pa_cons (pe_op op_sub pe_int (pv 5)) pa_nil))))) (pw_or1 (pt_not (pt_val (pe_call (ok__law_same M) (hr.mono (by decide)) rfl M.g__law_same M.k__law_same M.b__law_same .nil pass0 (pa_cons (pe_call (ok_rest_of M) (hr.mono (by decide)) rfl M.g_rest_of M.k_rest_of M.b_rest_of .nil pass0 (pa_cons (pv 3) (pa_cons (pv 4) pa_nil))) (pa_cons (pe_tup (pa_cons (pe_op op_sub (pe_op op_mul (pv 3) (pe_ix (r := rIxT K) ix_tup (pv 4) pe_int (fun _ _ => rfl))) (pe_op op_mul (pv 5) (pe_ix (r := rIxT K) ix_tup (pv 4) pe_int (fun _ _ => rfl)))) (pa_cons (pe_ix (r := rIxT K) ix_tup (pv 4) pe_int (fun _ _ => rfl)) pa_nil))) pa_nil))))))))) (pss_one (ps_ret pe_bl)) pss_nil)) (pss_one (ps_if (pt_cmpR op_ne (pe_call (ok__law_refused M) (hr.mono (by decide)) rfl M.g__law_refused M.k__law_refused M.b__law_refused .nil pass0 (pa_cons pe_int (pa_cons (pv 3) (pa_cons (pv 4) (pa_cons pe_int pa_nil))))) pe_str (nomark _)) (pss_one (ps_ret pe_bl)) pss_nil)))
    (pss_cons (ps_set (i := 6) sc_law.nd rfl (Or.inr rfl) (pe_op op_cat (pe_lc (own := [("j", 7)]) rfl sc_law.nd (pi_range1 (by rfl) M.T.b_range (pa_cons (pe_call (ok__law_draw M) (hr.mono (by decide)) rfl M.g__law_draw M.k__law_draw M.b__law_draw .nil pass0 (pa_cons (pv 1) (pa_cons pe_int pa_nil))) pa_nil)) (blkOk_by (N := ["script", "pool", "k", "amount", "rate", "much", "weights", "j", "told", "every", "due", "one", "rests", "at", "rest", "some", "i", "other", "wrong"]) (sc := defScope s_law) (own := [("j", 7)]) (by decide +kernel)) (fun _ _ _ _ _ => (pg_name (i := 7) sc_law.nd rfl (Or.inl rfl))) (fun _ _ _ _ _ => pts_nil) (fun _ _ _ _ _ => (pe_call (ok__law_draw M) (hr.mono (by decide)) rfl M.g__law_draw M.k__law_draw M.b__law_draw .nil pass0 (pa_cons (pv 1) (pa_cons pe_int pa_nil))))) (pe_lst (pa_cons (pe_op op_add pe_int (pe_call (ok__law_draw M) (hr.mono (by decide)) rfl M.g__law_draw M.k__law_draw M.b__law_draw .nil pass0 (pa_cons (pv 1) (pa_cons pe_int pa_nil)))) pa_nil))))
    (pss_cons (ps_set (i := 8) sc_law.nd rfl (Or.inl rfl) (pe_call (okL_shared M) (hr.mono (by decide)) rfl M.g_shared M.k_shared M.b_shared .nil pass0 (pa_cons (pv 3) (pa_cons (pe_callTy call_list_of (by rfl) M.T.b_list (by decide +kernel) (pa_cons (pv 6) pa_nil)) pa_nil))))
    (pss_cons (ps_set (i := 9) sc_law.nd rfl (Or.inr rfl) (pe_callB (cr_sum rfl) (by rfl) M.T.b_sum (by decide +kernel) (pa_cons (pv 6) pa_nil)))
    (pss_cons (ps_setLc (i := 10) (own := [("one", 11)]) rfl sc_law.nd rfl rfl (sw_true rfl rfl rfl (by decide +kernel)) (pi_list (pv 6)) (blkOk_by (N := ["script", "pool", "k", "amount", "rate", "much", "weights", "j", "told", "every", "due", "one", "rests", "at", "rest", "some", "i", "other", "wrong"]) (sc := defScope s_law) (own := [("one", 11)]) (by decide +kernel)) (fun _ _ _ _ _ => (pg_name (i := 11) sc_law.nd rfl (Or.inl rfl))) (fun _ _ _ _ _ => pts_nil) (fun _ _ _ _ _ => (pe_op op_fdivW (pe_op op_mul (pv 3) (pv 11)) (pv 9))))
    (pss_cons (ps_set (i := 12) sc_law.nd rfl (Or.inl rfl) (pe_callB (cr_sortedDt hr.units) (by rfl) M.T.b_sorted (by decide +kernel) (pa_cons (pe_lc (own := [("at", 13)]) rfl sc_law.nd (pi_range1 (by rfl) M.T.b_range (pa_cons (pe_callB call_len (by rfl) M.T.b_len (by decide +kernel) (pa_cons (pv 6) pa_nil)) pa_nil)) (blkOk_by (N := ["script", "pool", "k", "amount", "rate", "much", "weights", "j", "told", "every", "due", "one", "rests", "at", "rest", "some", "i", "other", "wrong"]) (sc := defScope s_law) (own := [("at", 13)]) (by decide +kernel)) (fun _ _ _ _ _ => (pg_name (i := 13) sc_law.nd rfl (Or.inl rfl))) (fun _ _ _ _ _ => pts_nil) (fun _ _ _ _ _ => (pe_tup (pa_cons (pe_op op_sub pe_int (pe_op op_modN (pe_callTy call_int1 (by rfl) M.T.b_int (by decide +kernel) (pa_cons (pe_op op_mul (pv 3) (pe_ix (r := rIxL K) ix_list (pv 6) (pv 13) (fun _ _ => rfl))) pa_nil)) (pv 9))) (pa_cons (pv 13) pa_nil))))) pa_nil)))
    (pss_cons (ps_for PassesOwn.never rfl (pi_list (pe_slice (r := rSlL K) sl_list (pv 12) po_none (po_some (pe_op op_sub (pv 3) (pe_callB (cr_sum rfl) (by rfl) M.T.b_sum (by decide +kernel) (pa_cons (pv 10) pa_nil)))))) (pg_tup rfl (pgs_cons (pg_name (i := 14) sc_law.nd rfl (Or.inl rfl)) (pgs_cons (pg_name (i := 13) sc_law.nd rfl (Or.inl rfl)) pgs_nil))) (pss_one (ps_asg (pe_op op_add (pe_ix (r := rIxL K) ix_list (pv 10) (pv 13) (fun _ _ => rfl)) pe_int) (pg_sub (pv 10) (pv 13) set_list))))
    (pss_cons (ps_if (PW.pt (pw_or (pt_not (pt_val (pe_call (ok__law_same M) (hr.mono (by decide)) rfl M.g__law_same M.k__law_same M.b__law_same .nil pass0 (pa_cons (pv 8) (pa_cons (pv 10) pa_nil))))) (pw_or (pt_cmpR op_isnot_bl (pe_call (ok_judge_shared M) (hr.mono (by decide)) rfl M.g_judge_shared M.k_judge_shared M.b_judge_shared .nil pass0 (pa_cons (pv 3) (pa_cons (pv 6) (pa_cons (pe_callTy call_list_of (by rfl) M.T.b_list (by decide +kernel) (pa_cons (pv 8) pa_nil)) pa_nil)))) pe_bl (nomark _)) (pw_or1 (pt_not (pt_val (pe_call (ok__law_same M) (hr.mono (by decide)) rfl M.g__law_same M.k__law_same M.b__law_same .nil pass0 (pa_cons (pe_call (okL_checked_weights M) (hr.mono (by decide)) rfl M.g_checked_weights M.k_checked_weights M.b_checked_weights .nil pass0 (pa_cons (pv 6) pa_nil)) (pa_cons (pv 6) pa_nil))))))))) (pss_one (ps_ret pe_bl)) pss_nil)
    (pss_one (ps_for PassesOwn.never rfl (pi_range1 (by rfl) M.T.b_range (pa_cons pe_int pa_nil)) (pg_name (i := 7) sc_law.nd rfl (Or.inl rfl)) (pss_cons (ps_set (i := 15) sc_law.nd rfl (Or.inl rfl) (pe_callTy call_list_of (by rfl) M.T.b_list (by decide +kernel) (pa_cons (pv 8) pa_nil)))
    (pss_cons (ps_for PassesOwn.never rfl (pi_range1 (by rfl) M.T.b_range (pa_cons (pe_call (ok__law_draw M) (hr.mono (by decide)) rfl M.g__law_draw M.k__law_draw M.b__law_draw .nil pass0 (pa_cons (pv 1) (pa_cons pe_int pa_nil))) pa_nil)) (pg_name (i := 16) sc_law.nd rfl (Or.inl rfl)) (pss_cons (ps_set (i := 13) sc_law.nd rfl (Or.inl rfl) (pe_ifExp (pt_cmpR op_gt (pe_callB call_len (by rfl) M.T.b_len (by decide +kernel) (pa_cons (pv 15) pa_nil)) pe_int (nomark _)) (pe_call (ok__law_draw M) (hr.mono (by decide)) rfl M.g__law_draw M.k__law_draw M.b__law_draw .nil pass0 (pa_cons (pv 1) (pa_cons (pe_callB call_len (by rfl) M.T.b_len (by decide +kernel) (pa_cons (pv 15) pa_nil)) pa_nil))) pe_int))
    (pss_cons (ps_set (i := 17) sc_law.nd rfl (Or.inl rfl) (pe_ifExp (pt_cmpR op_gt (pe_callB call_len (by rfl) M.T.b_len (by decide +kernel) (pa_cons (pv 15) pa_nil)) pe_int (nomark _)) (pe_call (ok__law_draw M) (hr.mono (by decide)) rfl M.g__law_draw M.k__law_draw M.b__law_draw .nil pass0 (pa_cons (pv 1) (pa_cons (pe_callB call_len (by rfl) M.T.b_len (by decide +kernel) (pa_cons (pv 15) pa_nil)) pa_nil))) pe_int))
    (pss_one (ps_if (PW.pt (pw_and (pt_cmpR op_gt (pe_callB call_len (by rfl) M.T.b_len (by decide +kernel) (pa_cons (pv 15) pa_nil)) pe_int (nomark _)) (pw_and1 (pt_cmpR op_gt (pe_call (ok__law_draw M) (hr.mono (by decide)) rfl M.g__law_draw M.k__law_draw M.b__law_draw .nil pass0 (pa_cons (pv 1) (pa_cons pe_int pa_nil))) pe_int (nomark _))))) (pss_cons (ps_asg (pe_op op_add (pe_ix (r := rIxL K) ix_list (pv 15) (pv 13) (fun _ _ => rfl)) pe_int) (pg_sub (pv 15) (pv 13) set_list))
    (pss_one (ps_asg (pe_op op_sub (pe_ix (r := rIxL K) ix_list (pv 15) (pv 17) (fun _ _ => rfl)) pe_int) (pg_sub (pv 15) (pv 17) set_list)))) (pss_one (ps_set (i := 15) sc_law.nd rfl (Or.inl rfl) (pe_call (ok__law_pick M) (hr.mono (by decide)) rfl M.g__law_pick M.k__law_pick M.b__law_pick .nil pass0 (pa_cons (pv 1) (pa_cons (pe_lst (pa_cons (pe_slice (r := rSlL K) sl_list (pv 15) (po_some pe_int) po_none) (pa_cons (pe_op op_cat (pv 15) (pe_lst (pa_cons pe_int pa_nil))) (pa_cons (pe_listRev rfl (by rfl) M.T.b_list (by rfl) M.T.b_reversed (pv 15)) pa_nil)))) pa_nil))))))))))
    (pss_one (ps_if (pt_not (pt_val (pe_call (ok__law_same M) (hr.mono (by decide)) rfl M.g__law_same M.k__law_same M.b__law_same .nil pass0 (pa_cons (pe_call (ok_judge_shared M) (hr.mono (by decide)) rfl M.g_judge_shared M.k_judge_shared M.b_judge_shared .nil pass0 (pa_cons (pv 3) (pa_cons (pv 6) (pa_cons (pv 15) pa_nil)))) (pa_cons (pe_call (ok__law_good M) (hr.mono (by decide)) rfl M.g__law_good M.k__law_good M.b__law_good .nil pass0 (pa_cons (pv 3) (pa_cons (pv 6) (pa_cons (pv 15) pa_nil)))) pa_nil))))) (pss_one (ps_ret pe_bl)) pss_nil))))))))))))))))))
    (pss_cons (ps_for PassesOwn.never rfl (pi_list (pe_lst (pa_cons (pe_tup (pa_cons pe_int (pa_cons pe_int pa_nil))) (pa_cons (pe_tup (pa_cons pe_int (pa_cons pe_int pa_nil))) (pa_cons (pe_tup (pa_cons pe_int (pa_cons pe_int pa_nil))) (pa_cons (pe_tup (pa_cons pe_int pa_nil)) (pa_cons (pe_lst (pa_cons pe_int (pa_cons pe_int pa_nil))) (pa_cons (pe_tup (pa_cons pe_bl (pa_cons pe_int pa_nil))) (pa_cons pe_int pa_nil))))))))) (pg_name (i := 18) sc_law.nd rfl (Or.inl rfl)) (pss_one (ps_if (PW.pt (pw_or (pt_cmpR op_ne (pe_call (ok__law_refused M) (hr.mono (by decide)) rfl M.g__law_refused M.k__law_refused M.b__law_refused .nil pass0 (pa_cons pe_int (pa_cons (pv 18) (pa_cons pe_int (pa_cons pe_int pa_nil))))) pe_str (nomark _)) (pw_or (pt_cmpR op_ne (pe_call (ok__law_refused M) (hr.mono (by decide)) rfl M.g__law_refused M.k__law_refused M.b__law_refused .nil pass0 (pa_cons pe_int (pa_cons pe_int (pa_cons (pv 18) (pa_cons pe_int pa_nil))))) pe_str (nomark _)) (pw_or1 (pt_cmpR op_ne (pe_call (ok__law_refused M) (hr.mono (by decide)) rfl M.g__law_refused M.k__law_refused M.b__law_refused .nil pass0 (pa_cons pe_int (pa_cons (pv 18) (pa_cons pe_int (pa_cons pe_int pa_nil))))) pe_str (nomark _)))))) (pss_one (ps_ret pe_bl)) pss_nil)))
    (pss_cons (ps_for PassesOwn.never rfl (pi_list (pe_lst (pa_cons (pe_lst pa_nil) (pa_cons (pe_lst (pa_cons pe_int pa_nil)) (pa_cons (pe_lst (pa_cons pe_int (pa_cons pe_int pa_nil))) (pa_cons (pe_lst (pa_cons (pe_un un_neg pe_int) (pa_cons pe_int pa_nil))) (pa_cons (pe_lst (pa_cons pe_bl pa_nil)) (pa_cons (pe_lst (pa_cons pe_int pa_nil)) (pa_cons (pe_lc (own := [("j", 7)]) rfl sc_law.nd (pi_range1 (by rfl) M.T.b_range (pa_cons pe_int pa_nil)) (blkOk_by (N := ["script", "pool", "k", "amount", "rate", "much", "weights", "j", "told", "every", "due", "one", "rests", "at", "rest", "some", "i", "other", "wrong"]) (sc := defScope s_law) (own := [("j", 7)]) (by decide +kernel)) (fun _ _ _ _ _ => (pg_name (i := 7) sc_law.nd rfl (Or.inl rfl))) (fun _ _ _ _ _ => pts_nil) (fun _ _ _ _ _ => pe_int)) pa_nil))))))))) (pg_name (i := 18) sc_law.nd rfl (Or.inl rfl)) (pss_one (ps_if (PW.pt (pw_or (pt_cmpR op_ne (pe_call (ok__law_refused M) (hr.mono (by decide)) rfl M.g__law_refused M.k__law_refused M.b__law_refused .nil pass0 (pa_cons pe_int (pa_cons (pv 18) (pa_cons pe_int (pa_cons pe_int pa_nil))))) pe_str (nomark _)) (pw_or1 (pt_cmpR op_ne (pe_call (ok__law_refused M) (hr.mono (by decide)) rfl M.g__law_refused M.k__law_refused M.b__law_refused .nil pass0 (pa_cons pe_int (pa_cons pe_int (pa_cons (pv 18) (pa_cons pe_int pa_nil))))) pe_str (nomark _))))) (pss_one (ps_ret pe_bl)) pss_nil)))
    (pss_cons (ps_if (PW.pt (pw_or (pt_cmpR op_ne (pe_call (ok__law_refused M) (hr.mono (by decide)) rfl M.g__law_refused M.k__law_refused M.b__law_refused .nil pass0 (pa_cons pe_int (pa_cons (pe_call (ok__law_pick M) (hr.mono (by decide)) rfl M.g__law_pick M.k__law_pick M.b__law_pick .nil pass0 (pa_cons (pv 1) (pa_cons (pe_lst (pa_cons (pe_op op_add (pe_op op_pow pe_int pe_int) pe_int) (pa_cons pe_bl pa_nil))) pa_nil))) (pa_cons (pe_tup (pa_cons pe_int (pa_cons pe_int pa_nil))) (pa_cons pe_int pa_nil))))) pe_str (nomark _)) (pw_or1 (pt_cmpR op_ne (pe_call (ok__law_refused M) (hr.mono (by decide)) rfl M.g__law_refused M.k__law_refused M.b__law_refused .nil pass0 (pa_cons pe_int (pa_cons (pe_call (ok__law_pick M) (hr.mono (by decide)) rfl M.g__law_pick M.k__law_pick M.b__law_pick .nil pass0 (pa_cons (pv 1) (pa_cons (pe_lst (pa_cons (pe_un un_neg pe_int) (pa_cons (pe_op op_add (pe_op op_pow pe_int pe_int) pe_int) (pa_cons pe_bl pa_nil)))) pa_nil))) (pa_cons (pe_lst (pa_cons pe_int pa_nil)) (pa_cons pe_int pa_nil))))) pe_str (nomark _))))) (pss_one (ps_ret pe_bl)) pss_nil)
    (pss_cons (ps_if (PW.pt (pw_or (pt_cmpR op_ne (pe_call (ok__law_refused M) (hr.mono (by decide)) rfl M.g__law_refused M.k__law_refused M.b__law_refused .nil pass0 (pa_cons pe_int (pa_cons (pe_call (ok__law_pick M) (hr.mono (by decide)) rfl M.g__law_pick M.k__law_pick M.b__law_pick .nil pass0 (pa_cons (pv 1) (pa_cons (pe_lst (pa_cons (pe_un un_neg pe_int) (pa_cons pe_int (pa_cons pe_bl pa_nil)))) pa_nil))) (pa_cons pe_str (pa_cons pe_str pa_nil))))) pe_str (nomark _)) (pw_or (pt_cmpR op_ne (pe_call (ok__law_refused M) (hr.mono (by decide)) rfl M.g__law_refused M.k__law_refused M.b__law_refused .nil pass0 (pa_cons pe_int (pa_cons pe_int (pa_cons pe_str (pa_cons pe_str pa_nil))))) pe_str (nomark _)) (pw_or1 (pt_cmpR op_ne (pe_call (ok__law_refused M) (hr.mono (by decide)) rfl M.g__law_refused M.k__law_refused M.b__law_refused .nil pass0 (pa_cons pe_int (pa_cons pe_int (pa_cons pe_str (pa_cons pe_str pa_nil))))) pe_str (nomark _)))))) (pss_one (ps_ret pe_bl)) pss_nil)
    (pss_one (ps_ret (pe_and (pe_call (ok__law_rates_right M) (hr.mono (by decide)) rfl M.g__law_rates_right M.k__law_rates_right M.b__law_rates_right .nil pass0 (pa_cons (pv 1) pa_nil)) (pe_one (pe_cmpR (op_eqD hr.units) (pe_call (okL_checked_rate M) (hr.mono (by decide)) rfl M.g_checked_rate M.k_checked_rate M.b_checked_rate .nil pass0 (pa_cons (pe_tup (pa_cons pe_int (pa_cons pe_int pa_nil))) pa_nil)) (pe_tup (pa_cons pe_int (pa_cons pe_int pa_nil))) (nomark _)))))))))))), ?_⟩
    try dsimp only [cxOf, Cx.nox]
    obtain ⟨a, ns, rfl, hS, hns, kQ⟩ := h
    refine w_start (σ' := [some (.ref a), none, none, none, none, none, none, none, none, none, none, none, none, none, none, none, none, none, none]) rfl ?_
    (repeat array_get_dec)
    refine ⟨a, ns, rfl, hS, hns, fun H0 p l s0 hp0 hl0 hP => ?_⟩
    (repeat array_get_dec)
    refine for_range (lo := 0) (n := 4) (fun i σ H' => ∃ v2 v3 v4 v5 v6 v7 v8 v9 v10 v11 v12 v13 v14 v15 v16 v17 v18 : Option V, σ = [some (.ref a), some (.ref p), v2, v3, v4, v5, v6, v7, v8, v9, v10, v11, v12, v13, v14, v15, v16, v17, v18] ∧ PoolL H' p l) ⟨_, _, _, _, _, _, _, _, _, _, _, _, _, _, _, _, _, rfl, hP⟩ ?_ ?_
    · rintro i σ H1 hi ⟨v2, v3, v4, v5, v6, v7, v8, v9, v10, v11, v12, v13, v14, v15, v16, v17, v18, rfl, pl1⟩
      (repeat array_get_dec)
      refine ⟨p, l, 60, rfl, pl1, by omega, by omega, fun d0 H2 d0a d0b pl2 sb2 => ?_⟩
      clear pl1 sb2
      (repeat array_get_dec)
      refine w_rI (show CPow 10 9 from ⟨by decide, by decide, by decide⟩) ?_
      rw [show (10 : Int) ^ (9 : Int).toNat = 1000000000 from rfl]
      (repeat array_get_dec)
      refine ⟨p, l, 1000000000, rfl, pl2, by omega, by omega, fun d1 H3 d1a d1b pl3 sb3 => ?_⟩
      clear pl2 sb3
      (repeat array_get_dec)
      refine w_rI (show CPow 10 9 from ⟨by decide, by decide, by decide⟩) ?_
      rw [show (10 : Int) ^ (9 : Int).toNat = 1000000000 from rfl]
      (repeat array_get_dec)
      refine ⟨by show 3 ≤ sizeLine; decide, fun q1 hq1 => ?_⟩
      (repeat array_get_dec)
      refine ⟨p, q1, l, _, rfl, pl3.new hq1, upd_same, pl3.ne hq1, by show 1 ≤ 3; decide, by show 3 ≤ sizeLine; decide, fun v H4 hv pl4 sb4 => ?_⟩
      obtain ⟨x, rfl, x0, x1⟩ : ∃ x : Int, v = .int x ∧ 0 ≤ x ∧ x ≤ 1000000000 := by
        simp only [List.mem_cons, List.not_mem_nil, or_false] at hv
        rcases hv with rfl | rfl | rfl
        · exact ⟨_, rfl, by omega, by omega⟩
        · exact ⟨_, rfl, by omega, by omega⟩
        · exact ⟨_, rfl, by omega, by omega⟩
      clear hv sb4 hq1 pl3
      (repeat array_get_dec)
      refine ⟨p, l, 9, rfl, pl4, by omega, by omega, fun ra H5 a0 a1 pl5 sb5 => ?_⟩
      clear pl4 sb5
      (repeat array_get_dec)
      refine ⟨p, l, 9, rfl, pl5, by omega, by omega, fun rb H6 b0 b1 pl6 sb6 => ?_⟩
      clear pl5 sb6
      (repeat array_get_dec)
      refine ⟨by show 2 ≤ sizeLine; decide, fun rt hrt => ?_⟩
      have pl7 := pl6.new (o := .tup [.int (1 + ra), .int (1 + rb)]) hrt
      have grt := upd_same (H := H6) (a := rt) (o := .tup [.int (1 + ra), .int (1 + rb)])
      generalize upd H6 rt (.tup [.int (1 + ra), .int (1 + rb)]) = H7 at pl7 grt ⊢
      clear pl6 hrt
      obtain ⟨rA, eA⟩ : ∃ rA, rA = 1 + ra := ⟨_, rfl⟩
      obtain ⟨rB, eB⟩ : ∃ rB, rB = 1 + rb := ⟨_, rfl⟩
      rw [← eA, ← eB] at grt
      have A1 : 1 ≤ rA ∧ rA ≤ 9 := by omega
      have B1 : 1 ≤ rB ∧ rB ≤ 9 := by omega
      clear eA eB a0 a1 b0 b1
      have gR : goodR rA rB := ⟨⟨by omega, by omega⟩, by omega, by omega⟩
      (repeat array_get_dec)
      refine w_rI (.inr ⟨by omega, by omega⟩) ?_
      (repeat array_get_dec)
      refine w_rI (wide_div (b := 20) (by omega) (show rB.natAbs < 1048576 by omega) (by decide) (by decide)) ?_
      array_get_dec
      array_get_dec
      refine w_join (t := tIfS _ _ _) (fun HX => PoolL HX p l) (fun D' kk => ?_) (fun HX plX => ?_)
      · (repeat array_get_dec)
        refine w_rI (show CPow 10 9 from ⟨by decide, by decide, by decide⟩) ?_
        rw [show (10 : Int) ^ (9 : Int).toNat = 1000000000 from rfl]
        have eC : chg x rA rB = x * rA / rB := by unfold chg absI; rw [if_neg (by omega)]
        have ax : absI (0 - x) = x := by unfold absI; split <;> omega
        have eC2 : chg (0 - x) rA rB = x * rA / rB := by unfold chg; rw [ax]
        have m0 : 0 ≤ x * rA / rB := Int.ediv_nonneg (Int.mul_nonneg x0 (by omega)) (by omega)
        (repeat array_get_dec)
        refine ite2 (fun c1 => ?_) (fun c1 => ?_)
        · have c1' : x * rA / rB ≤ 1000000000 := by simpa using c1
          (repeat array_get_dec)
          refine ⟨x, rt, rA, rB, rfl, by omega, by omega, grt, gR, by rw [eC]; exact c1', fun H8 s8 => ?_⟩
          rw [if_pos x0, eC]
          have grt8 := s8 _ _ grt
          (repeat array_get_dec)
          refine ⟨_, _, .int (x * rA / rB), rfl, .int _, .int _, trivial, fun H9 s9 => ?_⟩
          have grt9 := s9 _ _ grt8
          (repeat array_get_dec)
          refine ⟨0 - x, rt, rA, rB, rfl, by omega, by omega, grt9, gR, by rw [eC2]; exact c1', fun HA sA => ?_⟩
          rw [show (if 0 ≤ 0 - x then chg (0 - x) rA rB else -chg (0 - x) rA rB) = 0 - x * rA / rB from by
            rw [eC2]
            split
            · have : x = 0 := by omega
              rw [this, Int.zero_mul, Int.zero_ediv]; rfl
            · omega]
          have grtA := sA _ _ grt9
          (repeat array_get_dec)
          refine ⟨_, _, .int (0 - x * rA / rB), rfl, .int _, .int _, trivial, fun HB sB => ?_⟩
          have grtB := sB _ _ grtA
          (repeat array_get_dec)
          refine ⟨x, rt, rA, rB, rfl, by omega, by omega, grtB, gR, c1', fun HC q2 sC hq2 => ?_⟩
          have grtC := sC _ _ grtB
          (repeat array_get_dec)
          refine w_rI (.inr ⟨by omega, by omega⟩) ?_
          (repeat array_get_dec)
          refine w_rI (.inr ⟨by omega, by omega⟩) ?_
          (repeat array_get_dec)
          refine ⟨by show 2 ≤ sizeLine; decide, fun u hu5 => ?_⟩
          have sD := same_upd (o := .tup [.int (x * rA - x * rA / rB * rB), .int rB]) (((s8.trans s9).trans sA).trans (sB.trans sC)) hu5
          (repeat array_get_dec)
          refine ⟨_, _, .tuple [.int (x * rA - x * rA / rB * rB), .int rB], rfl, (.tup (SqT.of (by rw [upd_ne (ne_of_none hq2 hu5)]; exact hq2)) (.cons (.int _) (.cons (.int _) .nil))), (.tup (SqT.of upd_same) (.cons (.int _) (.cons (.int _) .nil))), ⟨by simp, fun z mz => by simp at mz; rcases mz with rfl | rfl <;> trivial⟩, fun HD sE => ?_⟩
          (repeat array_get_dec)
          exact kk _ ((pl7.keep sD).keep sE)
        · have c1' : ¬ x * rA / rB ≤ 1000000000 := by simpa using c1
          (repeat array_get_dec)
          refine ⟨0, .int x, .ref rt, .int 0, true, rfl, .inl ⟨rfl, fun Q E he => ⟨_, _, rfl, .inl ⟨x, rt, rA, rB, rfl, ?_, rfl, grt, gR, fun z => absurd z (by rw [eC]; exact c1'), fun _ H' s => he H' s⟩⟩⟩, fun H8 s8 => ?_⟩
          · show (decide _ && decide _) = true
            rw [decide_eq_true (show -1000000000 ≤ x by omega), decide_eq_true x1]
            rfl
          · rw [show refS true = V.str (Str.ofString "number") from rfl]
            (repeat array_get_dec)
            exact kk _ (pl7.keep s8)
      · (repeat array_get_dec)
        refine ⟨p, l, 5, rfl, plX, by omega, by omega, fun dn H9 n0 n1 pl9 sb9 => ?_⟩
        clear plX sb9 pl7 grt
        (repeat array_get_dec)
        intro A hA
        have nAp := pl9.ne hA
        have nAl := pl9.nel hA
        refine lc_range (fun i H' => ∃ zs : List Int, zs.length = i ∧ (∀ z ∈ zs, 0 ≤ z ∧ z ≤ 4) ∧ H' A = some (.lst (iL zs)) ∧ PoolL H' p l) ⟨[], rfl, fun z m => by simp at m, upd_same, pl9.new hA⟩ ?_ ?_
        · rintro i H' hi ⟨zs, e1, e2, e3, e4⟩
          (repeat array_get_dec)
          refine ⟨p, l, 5, rfl, e4, by omega, by omega, fun z H2 z0 z1 plz sbz => ?_⟩
          have e3' := sbz _ _ nAp e3
          have lz : (iL zs).length < sizeLine := by rw [iL_len, e1, sizeLine_eq]; omega
          (repeat array_get_dec)
          refine ⟨zs ++ [z], by rw [List.length_append, e1]; rfl, fun y m => ?_, by rw [upd_same]; unfold iL; rw [List.map_append]; rfl, plz.put nAp nAl⟩
          rcases List.mem_append.mp m with m | m
          · exact e2 y m
          · rw [List.mem_singleton.mp m]; omega
        · rintro H' ⟨zs, e1, e2, e3, e4⟩
          (repeat array_get_dec)
          refine ⟨p, l, 4, rfl, e4, by omega, by omega, fun dw H2 w0 w1 plw sbw => ?_⟩
          have e3' := sbw _ _ nAp e3
          clear sbw e3 e4 pl9 hA
          (repeat array_get_dec)
          refine ⟨by show 1 ≤ sizeLine; decide, fun u hu5 => ?_⟩
          have pl10 := plw.new (o := .lst [.int (1 + dw)]) hu5
          have e3'' := same_upd (o := .lst [.int (1 + dw)]) (Same.refl _) hu5 _ _ e3'
          have eu := upd_same (H := H2) (a := u) (o := .lst [.int (1 + dw)])
          generalize upd H2 u (.lst [.int (1 + dw)]) = H3 at pl10 e3'' eu ⊢
          have zl : zs.length ≤ 4 := by omega
          refine w_catL e3'' eu (by rw [iL_len]; show zs.length + 1 ≤ 100000; omega) fun tw htw => ?_
          have pl11 := pl10.new (o := .lst (iL zs ++ [.int (1 + dw)])) htw
          have gw : upd H3 tw (.lst (iL zs ++ [.int (1 + dw)])) tw = some (.lst (iL (zs ++ [1 + dw]))) := by rw [upd_same]; unfold iL; rw [List.map_append]; rfl
          have ntw : tw ≠ p := pl10.ne htw
          generalize upd H3 tw (.lst (iL zs ++ [.int (1 + dw)])) = H4 at pl11 gw ⊢
          clear plw hu5 e3' e3'' eu pl10 htw
          have hg : goodW (zs ++ [1 + dw]) := by
            have nn : 0 ≤ zs.sum := (sum_ge fun w m => (e2 w m).1).1
            refine ⟨by simp, by simp; omega, fun w m => ?_, ?_⟩
            · rcases List.mem_append.mp m with m | m
              · have := e2 w m; omega
              · rw [List.mem_singleton.mp m]; omega
            · rw [List.sum_append, List.sum_cons, List.sum_nil]; omega
          have wl : (zs ++ [1 + dw]).length ≤ 5 := by simp; omega
          generalize zs ++ [1 + dw] = ws at gw hg wl ⊢
          clear e1 e2 zl w0 w1 nAp nAl n0 n1
          (repeat array_get_dec)
          intro tc htc
          have s4 := same_upd (o := .lst (iL ws)) (Same.refl H4) htc
          (repeat array_get_dec)
          refine ⟨x, tc, ws, rfl, x0, x1, upd_same, hg, fun H5 tt s5 ftt htt => ?_⟩
          have pl5 := (pl11.keep s4).keep s5
          have gw5 := s5 _ _ (s4 _ _ gw)
          have ntt : tt ≠ p := (pl11.keep s4).ne ftt
          clear pl11 gw s4 s5 ftt htc
          (repeat array_get_dec)
          refine ⟨tw, ws, rfl, SqL.of gw5, ?_⟩
          (repeat array_get_dec)
          intro A hA
          obtain ⟨hs, hs2⟩ := goodW_sum hg
          refine lc_list (K := K) (a := tw) (xs := iL ws) (fun i H' => H' A = some (.lst (iL ((ws.take i).map fun w => x * w / ws.sum))) ∧ ∀ b o, b ≠ A → H5 b = some o → H' b = some o) ⟨upd_same, fun b o nb e => by rw [upd_ne nb]; exact e⟩ ?_ ?_ ?_
          · rintro i H' _ ⟨h1, h2⟩
            exact SqL.of (h2 _ _ (ne_of_none gw5 hA) gw5)
          · rintro i y H' hy ⟨h1, h2⟩
            obtain ⟨w, hw, rfl⟩ := iL_get hy
            have wb := hg.2.2.1 w (List.mem_of_getElem? hw)
            have lz : (iL ((ws.take i).map fun w => x * w / ws.sum)).length < sizeLine := Nat.lt_of_le_of_lt (by unfold iL; rw [List.length_map, List.length_map, List.length_take]; exact Nat.min_le_right _ _) (by rw [sizeLine_eq]; omega)
            (repeat array_get_dec)
            refine w_rI (.inr ⟨by omega, by omega⟩) ?_
            (repeat array_get_dec)
            refine w_rI (wide_div (b := 27) hs (show ws.sum.natAbs < 134217728 by omega) (by decide) (by decide)) ?_
            (repeat array_get_dec)
            refine ⟨?_, fun b o nb e => by rw [upd_ne nb]; exact h2 b o nb e⟩
            rw [upd_same, take_snoc hw]
            unfold iL
            rw [List.map_append, List.map_append]
            rfl
          · rintro H' ⟨h1, h2⟩
            have el : (iL ws).length = ws.length := List.length_map _
            have gw6 := h2 _ _ (ne_of_none gw5 hA) gw5
            have h1f : H' A = some (.lst (iL (flo x ws))) := by
              rw [el, List.take_length] at h1
              exact h1
            have s6 : Same H5 H' := fun b o e => h2 b o (ne_of_none e hA) e
            have nAp : A ≠ p := pl5.ne hA
            have nAl : A ≠ l := pl5.nel hA
            have nAtt : A ≠ tt := (ne_of_none htt hA).symm
            have nAtw : A ≠ tw := (ne_of_none gw5 hA).symm
            have pl6 := pl5.keep s6
            have htt6 := s6 _ _ htt
            clear h1 h2 s6 pl5 hA htt gw5
            (repeat array_get_dec)
            intro B hB
            refine lc_range (fun i H2 => ∃ zs : List (Addr × Int × Int), zs.map (fun z => z.2) = (prs x ws).take i ∧ H2 B = some (.lst (zs.map fun z => V.ref z.1)) ∧ (∀ z ∈ zs, H2 z.1 = some (.tup [.int z.2.1, .int z.2.2])) ∧ ∀ b o, b ≠ B → H' b = some o → H2 b = some o) ⟨[], rfl, upd_same, fun z m => by simp at m, fun b o nb e => by rw [upd_ne nb]; exact e⟩ ?_ ?_
            · rintro i H2 hi ⟨zs, e1, e2, e3, e4⟩
              have hi' : i < ws.length := by have := iL_len ws; omega
              have wb := hg.2.2.1 ws[i] (List.getElem_mem hi')
              have gw7 := e4 _ _ (ne_of_none gw6 hB) gw6
              have atw : atI (iL ws) (0 + (i : Int)) = some (V.int ws[i]) := by
                rw [Int.zero_add]
                refine atI_nat ?_
                unfold iL
                rw [List.getElem?_map, List.getElem?_eq_getElem hi']
                rfl
              have lz : zs.length = i := by
                have := congrArg List.length e1
                rw [List.length_map, List.length_take] at this
                have h3 : (prs x ws).length = ws.length := by unfold prs; simp
                omega
              have lz2 : (zs.map fun z => V.ref z.1).length < sizeLine := by rw [List.length_map, sizeLine_eq]; omega
              (repeat array_get_dec)
              refine w_rI (.inr ⟨by omega, by omega⟩) ?_
              (repeat array_get_dec)
              refine .inl ⟨_, rfl, ?_⟩
              (repeat array_get_dec)
              refine w_rI (show ws.sum ≠ 0 by omega) ?_
              (repeat array_get_dec)
              refine ⟨by show 2 ≤ sizeLine; decide, fun u hu2 => ?_⟩
              (repeat array_get_dec)
              have nB : u ≠ B := (ne_of_none e2 hu2).symm
              refine ⟨zs ++ [(u, -(rem x ws ws[i]), (i : Int))], ?_, by rw [upd_same, List.map_append]; rfl, fun z m => ?_, fun b o nb e => ?_⟩
              · have h3 : (prs x ws)[i]? = some (-(rem x ws (ws.getD i 0)), (i : Int)) := by unfold prs; rw [List.getElem?_map, List.getElem?_range hi']; rfl
                rw [take_snoc h3, List.map_append, e1, List.getD_eq_getElem?_getD, List.getElem?_eq_getElem hi']
                rfl
              · rcases List.mem_append.mp m with m | m
                · have := e3 z m
                  rw [upd_ne (fun w => by rw [w, e2] at this; cases this), upd_ne (ne_of_none this hu2)]
                  exact this
                · obtain rfl := List.mem_singleton.mp m
                  show upd _ B _ u = _
                  rw [upd_ne nB, upd_same, Int.zero_add, Int.zero_sub]
                  unfold rem
                  rw [← Int.fmod_eq_emod_of_nonneg _ (by omega)]
              · rw [upd_ne nb, upd_ne (ne_of_none (e4 b o nb e) hu2)]
                exact e4 b o nb e
            · rintro H2 ⟨zs, e1, e2, e3, e4⟩
              have ea : zs.map (fun z => z.2) = prs x ws := by rw [e1]; exact List.take_of_length_le (by have := iL_len ws; unfold prs; rw [List.length_map, List.length_range]; omega)
              have hzl : zs.length = ws.length := by
                have := congrArg List.length ea
                rw [List.length_map] at this
                rw [this]; unfold prs; simp
              (repeat array_get_dec)
              refine ⟨B, zs.map fun z => (V.ref z.1, encP z.2), rfl, SqL.of (by rw [List.map_map]; exact e2), fun b m => ?_, ?_, ?_, by rw [List.length_map, sizeLine_eq]; omega, fun S hS => ?_⟩
              · obtain ⟨z, mz, rfl⟩ := List.mem_map.mp m
                exact ⟨.tup (SqT.of (e3 z mz)) (.cons (.int _) (.cons (.int _) .nil)), Nat.le_of_ble_eq_true rfl⟩
              · rw [List.map_map]
                exact PySem.W.AllAlike.of (enc := fun z : Addr × Int × Int => encP z.2) fun _ _ => rfl
              · rw [List.map_map]
                exact PySem.W.Sortable.tuples (enc := fun z : Addr × Int × Int => encP z.2) fun _ => ⟨_, _, rfl⟩
              have es1 : ((zs.map fun z => (V.ref z.1, encP z.2)).mergeSort (PySem.W.dataLe false fun b => b.2)) = (zs.mergeSort fun a b => leP a.2 b.2).map fun z => (V.ref z.1, encP z.2) := (PySem.W.sort_maps (r := fun a b : Addr × Int × Int => leP a.2 b.2) (s := PySem.W.dataLe false fun b : V × PyData => b.2) (fun z : Addr × Int × Int => (V.ref z.1, encP z.2)) (l := zs) fun a _ b _ => rfl).symm
              rw [es1, List.map_map, show ((fun b : V × PyData => b.1) ∘ fun z : Addr × Int × Int => (V.ref z.1, encP z.2)) = fun z => V.ref z.1 from rfl]
              have es2 : (zs.mergeSort fun a b => leP a.2 b.2).map (fun z => z.2) = ordr x ws := by
                unfold ordr
                rw [← ea]
                exact PySem.W.sort_maps (r := fun a b : Addr × Int × Int => leP a.2 b.2) (s := leP) (fun z : Addr × Int × Int => z.2) (l := zs) fun a _ b _ => rfl
              have e3s : ∀ z ∈ zs.mergeSort fun a b => leP a.2 b.2, H2 z.1 = some (.tup [.int z.2.1, .int z.2.2]) := fun z m => e3 z ((List.mergeSort_perm zs _).mem_iff.mp m)
              generalize zs.mergeSort (fun a b => leP a.2 b.2) = ys at es2 e3s
              have hA2 := e4 _ _ (ne_of_none h1f hB) h1f
              have nAS : A ≠ S := ne_of_none hA2 hS
              (repeat array_get_dec)
              refine ⟨A, flo x ws, rfl, SqL.of (upd_atN hS hA2), ?_⟩
              (repeat array_get_dec)
              refine ⟨S, _, rfl, SqL.of upd_same, fun U hU => ?_⟩
              rw [show x - (flo x ws).sum = cnt x ws from rfl, cut_take _ _ (cnt_nn hs)]
              (repeat array_get_dec)
              have fU : upd (upd H2 S (.lst (ys.map fun z => V.ref z.1))) U (.lst ((ys.map fun z => V.ref z.1).take (cnt x ws).toNat)) A = some (.lst (iL (flo x ws))) := upd_atN hU (upd_atN hS hA2)
              have nUA : U ≠ A := fun z => by rw [z, upd_atN hS hA2] at hU; cases hU
              have kn := cnt_lt (x := x) hs
              have k0 := cnt_nn (x := x) hs
              have yl : ys.length = ws.length := by
                have := congrArg List.length es2
                rw [List.length_map, ordr_len] at this
                exact this
              have big : ∀ b o, b ≠ A → H' b = some o → upd (upd H2 S (.lst (ys.map fun z => V.ref z.1))) U (.lst ((ys.map fun z => V.ref z.1).take (cnt x ws).toNat)) b = some o := fun b o nb e => by
                by_cases nB : b = B
                · rw [nB] at e; rw [hB] at e; cases e
                · exact upd_atN hU (upd_atN hS (e4 b o nB e))
              refine for_list (K := K) (a := U) (xs := (ys.map fun z => V.ref z.1).take (cnt x ws).toNat) (fun i σ H3 => ∃ v2 v4 v5 v7 v9 v11 v12 v13 v14 v15 v16 v17 v18 : Option V, σ = [some (.ref a), some (.ref p), v2, some (.int x), v4, v5, some (.ref tw), v7, some (.ref tt), v9, some (.ref A), v11, v12, v13, v14, v15, v16, v17, v18] ∧ H3 A = some (.lst (iL (((ordr x ws).take i).foldl inc (flo x ws)))) ∧ ∀ b o, b ≠ A → upd (upd H2 S (.lst (ys.map fun z => V.ref z.1))) U (.lst ((ys.map fun z => V.ref z.1).take (cnt x ws).toNat)) b = some o → H3 b = some o) ⟨_, _, _, _, _, _, _, _, _, _, _, _, _, rfl, fU, fun b o _ e => e⟩ ?_ ?_ ?_
              · rintro i σ H3 _ ⟨v2, v4, v5, v7, v9, v11, v12, v13, v14, v15, v16, v17, v18, rfl, k1, k2⟩
                exact SqL.of (k2 _ _ nUA upd_same)
              · rintro i y σ H3 hy ⟨v2, v4, v5, v7, v9, v11, v12, v13, v14, v15, v16, v17, v18, rfl, k1, k2⟩
                have hik : i < (cnt x ws).toNat := by
                  have := (List.getElem?_eq_some_iff.mp hy).1
                  rw [List.length_take] at this
                  omega
                have hiy : i < ys.length := by omega
                obtain rfl : y = V.ref ys[i].1 := by
                  rw [List.getElem?_take_of_lt hik, List.getElem?_map, List.getElem?_eq_getElem hiy] at hy
                  exact (Option.some.inj hy).symm
                have ho : (ordr x ws)[i]? = some ys[i].2 := by rw [← es2, List.getElem?_map, List.getElem?_eq_getElem hiy]; rfl
                have w1 := e3s _ (List.getElem_mem hiy)
                have w2 := k2 _ _ (fun z => by rw [z, hA2] at w1; cases w1) (upd_atN hU (upd_atN hS w1))
                have oa := ordr_at (x := x) (ws := ws) (List.mem_of_getElem? ho)
                have op : (0 : Int) ≤ ys[i].2.2 := by
                  obtain ⟨q, mq, eq⟩ := List.mem_map.mp (ordr_perm.mem_iff.mp (List.mem_of_getElem? ho))
                  rw [← eq]
                  show (0 : Int) ≤ (q : Int)
                  omega
                generalize ys[i].2 = pr at ho w2 oa op
                have ll : ((((ordr x ws).take i).foldl inc (flo x ws))).length = ws.length := by rw [incs_len]; unfold flo; rw [List.length_map]
                generalize hL : ((ordr x ws).take i).foldl inc (flo x ws) = L at k1 ll
                obtain ⟨jn, hjn⟩ : ∃ jn : Nat, pr.2 = (jn : Int) := ⟨pr.2.toNat, by omega⟩
                have hjl : jn < L.length := by rw [hjn] at oa; have := oa.1; rw [Int.toNat_natCast] at this; omega
                have at1 : atI (iL L) pr.2 = some (V.int (L.getD jn 0)) := by
                  rw [hjn]
                  refine atI_nat ?_
                  unfold iL
                  rw [List.getElem?_map, List.getD_eq_getElem?_getD, List.getElem?_eq_getElem hjl]
                  rfl
                (repeat array_get_dec)
                refine ⟨A, _, _, jn, rfl, rfl, k1, ?_, ?_⟩
                · rw [hjn]
                  unfold iL
                  rw [List.length_map]
                  unfold ixN
                  rw [if_pos (by omega), if_pos (by omega)]
                  simp
                · refine ⟨_, _, _, _, _, _, _, _, _, _, _, _, _, rfl, ?_, fun b o nb e => by rw [upd_ne nb]; exact k2 b o nb e⟩
                  rw [upd_same, take_snoc ho, List.foldl_append, hL]
                  show _ = some (HO.lst (iL (inc L pr)))
                  unfold iL inc
                  rw [hjn, Int.toNat_natCast, List.map_set]
              · rintro σ H3 ⟨v2, v4, v5, v7, v9, v11, v12, v13, v14, v15, v16, v17, v18, rfl, k1, k2⟩
                have ek : ((ys.map fun z => V.ref z.1).take (cnt x ws).toNat).length = (cnt x ws).toNat := by rw [List.length_take, List.length_map]; omega
                rw [ek] at k1
                have k1' : H3 A = some (.lst (iL (shr x ws))) := k1
                have fr : ∀ b o, b ≠ A → H' b = some o → H3 b = some o := fun b o nb e => k2 b o nb (big b o nb e)
                have pl7 := pl6.frame nAp nAl fr
                have gw7 := fr _ _ nAtw.symm gw6
                have htt7 := fr _ _ nAtt.symm htt6
                clear k1 k2 fr big fU e4 e3s e3 e2 es2 ea hU hS hB pl6 gw6 htt6 h1f hA2
                have jg := shr_good x0 (fun w m => (hg.2.2.1 w m).1) hs x1
                have jl := shr_len (x := x) (ws := ws)
                generalize shr x ws = sh at k1' htt7 jg jl
                (repeat array_get_dec)
                refine ⟨_, _, .list (sh.map .int), rfl, .lst (SqL.of htt7) intsDp, .lst (SqL.of k1') intsDp, okInts (by omega), fun H8 s8 => ?_⟩
                have pl8 := pl7.keep s8
                have gw8 := s8 _ _ gw7
                have htt8 := s8 _ _ htt7
                clear s8 pl7 gw7 htt7 k1'
                (repeat array_get_dec)
                intro tc htc
                have s9 := same_upd (o := .lst (iL sh)) (Same.refl H8) htc
                have gtc := upd_same (H := H8) (a := tc) (o := .lst (iL sh))
                have pl9 := pl8.keep s9
                have gw9 := s9 _ _ gw8
                have htt9 := s9 _ _ htt8
                generalize upd H8 tc (.lst (iL sh)) = H9 at gtc pl9 gw9 htt9 ⊢
                clear s9 htc pl8 gw8 htt8
                have shb := judB_all jg
                (repeat array_get_dec)
                refine ⟨x, tw, tc, ws, sh, rfl, x0, x1, gw9, hg, gtc, by omega, fun y m => by have := shb y m; omega, fun HA sA => ?_⟩
                rw [jg]
                have plA := pl9.keep sA
                have gwA := sA _ _ gw9
                have httA := sA _ _ htt9
                clear sA pl9 gw9 htt9 gtc
                (repeat array_get_dec)
                refine ⟨tw, ws, rfl, gwA, hg, fun HB q1 sB fq hq1 => ?_⟩
                have plB := plA.keep sB
                have gwB := sB _ _ gwA
                have httB := sB _ _ httA
                (repeat array_get_dec)
                refine ⟨_, _, .list (ws.map .int), rfl, .lst (SqL.of hq1) intsDp, .lst (SqL.of gwB) intsDp, okInts (by omega), fun HC sC => ?_⟩
                have plC := plB.keep sC
                have gwC := sC _ _ gwB
                have httC := sC _ _ httB
                clear sC sB plB gwB httB plA gwA httA hq1 fq
                (repeat array_get_dec)
                refine for_range (lo := 0) (n := 4) (fun i σ H' => ∃ v2 v4 v5 v7 v9 v10 v11 v12 v13 v14 v15 v16 v17 v18 : Option V, σ = [some (.ref a), some (.ref p), v2, some (.int x), v4, v5, some (.ref tw), v7, some (.ref tt), v9, v10, v11, v12, v13, v14, v15, v16, v17, v18] ∧ PoolL H' p l ∧ H' tw = some (.lst (iL ws)) ∧ H' tt = some (.lst (iL sh))) ⟨_, _, _, _, _, _, _, _, _, _, _, _, _, _, rfl, plC, gwC, httC⟩ ?_ ?_
                · rintro i σ HD hi ⟨v2, v4, v5, v7, v9, v10, v11, v12, v13, v14, v15, v16, v17, v18, rfl, plD, gwD, httD⟩
                  (repeat array_get_dec)
                  intro so hso
                  have plE := plD.new (o := .lst (iL sh)) hso
                  have gwE := same_upd (o := .lst (iL sh)) (Same.refl HD) hso _ _ gwD
                  have httE := same_upd (o := .lst (iL sh)) (Same.refl HD) hso _ _ httD
                  have gso := upd_same (H := HD) (a := so) (o := .lst (iL sh))
                  have nso : so ≠ p ∧ so ≠ tw ∧ so ≠ tt ∧ so ≠ l := ⟨plD.ne hso, (ne_of_none gwD hso).symm, (ne_of_none httD hso).symm, plD.nel hso⟩
                  generalize upd HD so (.lst (iL sh)) = HE at plE gwE httE gso ⊢
                  clear plD gwD httD hso
                  (repeat array_get_dec)
                  refine ⟨p, l, 3, rfl, plE, by omega, by omega, fun dm HF m0 m1 plF sbF => ?_⟩
                  have gwF := sbF _ _ ntw gwE
                  have httF := sbF _ _ ntt httE
                  have gsoF := sbF _ _ nso.1 gso
                  clear sbF plE gwE httE gso
                  (repeat array_get_dec)
                  refine for_range (lo := 0) (n := dm.toNat) (fun i σ H' => ∃ (so : Addr) (sm : List Int) (v2 v4 v5 v7 v9 v10 v11 v12 v13 v14 v16 v17 v18 : Option V), σ = [some (.ref a), some (.ref p), v2, some (.int x), v4, v5, some (.ref tw), v7, some (.ref tt), v9, v10, v11, v12, v13, v14, some (.ref so), v16, v17, v18] ∧ PoolL H' p l ∧ H' tw = some (.lst (iL ws)) ∧ H' tt = some (.lst (iL sh)) ∧ H' so = some (.lst (iL sm)) ∧ (so ≠ p ∧ so ≠ tw ∧ so ≠ tt ∧ so ≠ l) ∧ sm.length ≤ 5 + i ∧ ∀ y ∈ sm, -1000000000 - (i : Int) ≤ y ∧ y ≤ 1000000000 + (i : Int)) ⟨so, sh, _, _, _, _, _, _, _, _, _, _, _, _, _, rfl, plF, gwF, httF, gsoF, nso, by omega, fun y m => by have := shb y m; omega⟩ ?_ ?_
                  · rintro i σ HG hi ⟨so, sm, v2, v4, v5, v7, v9, v10, v11, v12, v13, v14, v16, v17, v18, rfl, plG, gwG, httG, gsoG, nso, hl, hb⟩
                    array_get_dec
                    array_get_dec
                    refine w_joinA (t := tAsg _ _) (fun σ' HX => ∃ v : Int, σ' = [some (.ref a), some (.ref p), v2, some (.int x), v4, v5, some (.ref tw), v7, some (.ref tt), v9, v10, v11, v12, some (.int v), v14, some (.ref so), some (.int (0 + (i : Int))), v17, v18] ∧ (0 < sm.length → 0 ≤ v ∧ v < (sm.length : Int)) ∧ PoolL HX p l ∧ HX tw = some (.lst (iL ws)) ∧ HX tt = some (.lst (iL sh)) ∧ HX so = some (.lst (iL sm))) (fun D' kk => ?_) ?_
                    · (repeat array_get_dec)
                      have el := iL_len sm
                      refine ite2 (fun z => ?_) (fun z => ?_)
                      · have z' := of_decide_eq_true z
                        (repeat array_get_dec)
                        refine ⟨p, l, _, rfl, plG, by omega, by omega, fun v HX q0 q1 plx sbx => ?_⟩
                        (repeat array_get_dec)
                        exact kk _ _ ⟨v, rfl, fun _ => ⟨q0, by omega⟩, plx, sbx _ _ ntw gwG, sbx _ _ ntt httG, sbx _ _ nso.1 gsoG⟩
                      · have z' : ¬ (0 : Int) < ((iL sm).length : Int) := by simpa using z
                        (repeat array_get_dec)
                        exact kk _ _ ⟨0, rfl, fun w => by omega, plG, gwG, httG, gsoG⟩
                    clear plG gwG httG gsoG
                    rintro σ HG ⟨at1v, rfl, hat, plG, gwG, httG, gsoG⟩
                    array_get_dec
                    refine w_joinA (t := tAsg _ _) (fun σ' HX => ∃ v : Int, σ' = [some (.ref a), some (.ref p), v2, some (.int x), v4, v5, some (.ref tw), v7, some (.ref tt), v9, v10, v11, v12, some (.int at1v), v14, some (.ref so), some (.int (0 + (i : Int))), some (.int v), v18] ∧ (0 < sm.length → 0 ≤ v ∧ v < (sm.length : Int)) ∧ PoolL HX p l ∧ HX tw = some (.lst (iL ws)) ∧ HX tt = some (.lst (iL sh)) ∧ HX so = some (.lst (iL sm))) (fun D' kk => ?_) ?_
                    · (repeat array_get_dec)
                      have el := iL_len sm
                      refine ite2 (fun z => ?_) (fun z => ?_)
                      · have z' := of_decide_eq_true z
                        (repeat array_get_dec)
                        refine ⟨p, l, _, rfl, plG, by omega, by omega, fun v HX q0 q1 plx sbx => ?_⟩
                        (repeat array_get_dec)
                        exact kk _ _ ⟨v, rfl, fun _ => ⟨q0, by omega⟩, plx, sbx _ _ ntw gwG, sbx _ _ ntt httG, sbx _ _ nso.1 gsoG⟩
                      · have z' : ¬ (0 : Int) < ((iL sm).length : Int) := by simpa using z
                        (repeat array_get_dec)
                        exact kk _ _ ⟨0, rfl, fun w => by omega, plG, gwG, httG, gsoG⟩
                    clear plG gwG httG gsoG
                    rintro σ HG ⟨ot1v, rfl, hot, plG, gwG, httG, gsoG⟩
                    (repeat array_get_dec)
                    have el := iL_len sm
                    refine ite2 (fun z => ?_) (fun z => ?_)
                    · have z' : 0 < sm.length := by have := of_decide_eq_true z; omega
                      obtain ⟨a0, a1⟩ := hat z'
                      obtain ⟨b0, b1⟩ := hot z'
                      (repeat array_get_dec)
                      refine ⟨p, l, 3, rfl, plG, by omega, by omega, fun zz HX q0 q1 plX sbX => ?_⟩
                      have gwX := sbX _ _ ntw gwG
                      have httX := sbX _ _ ntt httG
                      have gsoX := sbX _ _ nso.1 gsoG
                      clear plG gwG httG gsoG sbX
                      (repeat array_get_dec)
                      refine ite2 (fun z2 => ?_) (fun z2 => ?_)
                      · obtain ⟨ja, rfl⟩ : ∃ ja : Nat, at1v = (ja : Int) := ⟨at1v.toNat, by omega⟩
                        obtain ⟨jb, rfl⟩ : ∃ jb : Nat, ot1v = (jb : Int) := ⟨ot1v.toNat, by omega⟩
                        have atA : atI (iL sm) (ja : Int) = some (V.int (sm.getD ja 0)) := iL_at (by omega)
                        have bA := getD_le (a := -1000000000 - (i : Int)) (b := 1000000000 + (i : Int)) hb (by omega) ja
                        (repeat array_get_dec)
                        refine ⟨so, _, _, ja, rfl, rfl, gsoX, ixN_nat (by rw [iL_len]; omega), ?_⟩
                        rw [iL_set]
                        have plY := plX.put (o := .lst (iL (sm.set ja (sm.getD ja 0 + 1)))) nso.1 nso.2.2.2
                        have gwY : upd HX so (.lst (iL (sm.set ja (sm.getD ja 0 + 1)))) tw = some (.lst (iL ws)) := by rw [upd_ne nso.2.1.symm]; exact gwX
                        have httY : upd HX so (.lst (iL (sm.set ja (sm.getD ja 0 + 1)))) tt = some (.lst (iL sh)) := by rw [upd_ne nso.2.2.1.symm]; exact httX
                        have gsoY := upd_same (H := HX) (a := so) (o := .lst (iL (sm.set ja (sm.getD ja 0 + 1))))
                        have hb2 : ∀ y ∈ sm.set ja (sm.getD ja 0 + 1), -1000000000 - (i : Int) ≤ y ∧ y ≤ 1000000000 + ((i + 1 : Nat) : Int) := fun y m => by
                          rcases List.mem_or_eq_of_mem_set m with m | m
                          · have := hb y m; omega
                          · rw [m]; omega
                        have hl2 : (sm.set ja (sm.getD ja 0 + 1)).length = sm.length := List.length_set
                        generalize upd HX so (.lst (iL (sm.set ja (sm.getD ja 0 + 1)))) = HY at plY gwY httY gsoY ⊢
                        generalize sm.set ja (sm.getD ja 0 + 1) = sm2 at gsoY hb2 hl2
                        have atB : atI (iL sm2) (jb : Int) = some (V.int (sm2.getD jb 0)) := iL_at (by omega)
                        have bB := getD_le (a := -1000000000 - (i : Int)) (b := 1000000000 + ((i + 1 : Nat) : Int)) hb2 (by omega) jb
                        (repeat array_get_dec)
                        refine ⟨so, _, _, jb, rfl, rfl, gsoY, ixN_nat (by rw [iL_len]; omega), ?_⟩
                        rw [iL_set]
                        refine ⟨so, sm2.set jb (sm2.getD jb 0 - 1), _, _, _, _, _, _, _, _, _, _, _, _, _, rfl, plY.put nso.1 nso.2.2.2, by rw [upd_ne nso.2.1.symm]; exact gwY, by rw [upd_ne nso.2.2.1.symm]; exact httY, upd_same, nso, by rw [List.length_set]; omega, fun y m => ?_⟩
                        rcases List.mem_or_eq_of_mem_set m with m | m
                        · have := hb2 y m; omega
                        · rw [m]; omega
                      · (repeat array_get_dec)
                        refine ⟨so, iL sm, rfl, SqL.of gsoX, fun r1 hr1 => ?_⟩
                        rw [cut_drop1]
                        have y1 := same_upd (o := .lst ((iL sm).drop 1)) (Same.refl HX) hr1
                        (repeat array_get_dec)
                        refine ⟨by show 1 ≤ sizeLine; decide, fun r2 hr2 => ?_⟩
                        have y2 := same_upd (o := .lst [.int 0]) (Same.refl _) hr2
                        refine w_catL (y2 _ _ (y1 _ _ gsoX)) upd_same (by rw [iL_len]; show sm.length + 1 ≤ 100000; omega) fun r3 hr3 => ?_
                        have y3 := same_upd (o := .lst (iL sm ++ [.int 0])) (Same.refl _) hr3
                        (repeat array_get_dec)
                        refine w_listRev ?_
                        (repeat array_get_dec)
                        refine ⟨so, iL sm, rfl, SqL.of (y3 _ _ (y2 _ _ (y1 _ _ gsoX))), fun r4 hr4 => ?_⟩
                        have y4 := same_upd (o := .lst (iL sm).reverse) (Same.refl _) hr4
                        (repeat array_get_dec)
                        refine ⟨by show 3 ≤ sizeLine; decide, fun r5 hr5 => ?_⟩
                        have y5 := same_upd (o := .lst [.ref r1, .ref r3, .ref r4]) (Same.refl _) hr5
                        have g1 := y5 _ _ (y4 _ _ (y3 _ _ (y2 r1 _ upd_same)))
                        have g3 := y5 _ _ (y4 r3 _ upd_same)
                        have g4 := y5 r4 _ upd_same
                        have yy := (((y1.trans y2).trans y3).trans y4).trans y5
                        have gone : ∀ r, (r = r1 ∨ r = r3 ∨ r = r4) → HX r = none := fun r z => by
                          rcases z with z | z | z
                          · rw [z]; exact hr1
                          · cases e : HX r with
                            | none => rfl
                            | some o => rw [← z, y2 _ _ (y1 _ _ e)] at hr3; cases hr3
                          · cases e : HX r with
                            | none => rfl
                            | some o => rw [← z, y3 _ _ (y2 _ _ (y1 _ _ e))] at hr4; cases hr4
                        have n5 : r5 ≠ p := (((plX.keep y1).keep y2).keep (y3.trans y4)).ne hr5
                        have g5 := upd_same (H := upd (upd (upd (upd HX r1 (.lst ((iL sm).drop 1))) r2 (.lst [.int 0])) r3 (.lst (iL sm ++ [.int 0]))) r4 (.lst (iL sm).reverse)) (a := r5) (o := .lst [.ref r1, .ref r3, .ref r4])
                        generalize upd (upd (upd (upd (upd HX r1 (.lst ((iL sm).drop 1))) r2 (.lst [.int 0])) r3 (.lst (iL sm ++ [.int 0]))) r4 (.lst (iL sm).reverse)) r5 (.lst [.ref r1, .ref r3, .ref r4]) = HQ at g1 g3 g4 g5 yy ⊢
                        clear y1 y2 y3 y4 y5 hr1 hr2 hr3 hr4 hr5
                        (repeat array_get_dec)
                        refine ⟨p, r5, l, _, rfl, plX.keep yy, g5, n5, by show 1 ≤ 3; decide, by show 3 ≤ sizeLine; decide, fun v HR hv plR sbR => ?_⟩
                        have gwR := sbR _ _ ntw (yy _ _ gwX)
                        have httR := sbR _ _ ntt (yy _ _ httX)
                        obtain ⟨so', sm', rfl, go, hgo, hl', hb'⟩ : ∃ (so' : Addr) (sm' : List Int), v = .ref so' ∧ HX so' = none ∧ HR so' = some (.lst (iL sm')) ∧ sm'.length ≤ 5 + (i + 1) ∧ ∀ y ∈ sm', -1000000000 - ((i + 1 : Nat) : Int) ≤ y ∧ y ≤ 1000000000 + ((i + 1 : Nat) : Int) := by
                          have nz : ∀ r, (r = r1 ∨ r = r3 ∨ r = r4) → r ≠ p := fun r z => plX.ne (gone r z)
                          simp only [List.mem_cons, List.not_mem_nil, or_false] at hv
                          rcases hv with rfl | rfl | rfl
                          · refine ⟨r1, sm.drop 1, rfl, gone _ (.inl rfl), ?_, by rw [List.length_drop]; omega, fun y m => by have := hb y (List.mem_of_mem_drop m); omega⟩
                            rw [sbR _ _ (nz r1 (.inl rfl)) g1]
                            unfold iL
                            rw [List.map_drop]
                          · refine ⟨r3, sm ++ [0], rfl, gone _ (.inr (.inl rfl)), ?_, by rw [List.length_append, List.length_singleton]; omega, fun y m => ?_⟩
                            · rw [sbR _ _ (nz r3 (.inr (.inl rfl))) g3]
                              unfold iL
                              rw [List.map_append]
                              rfl
                            · rcases List.mem_append.mp m with m | m
                              · have := hb y m; omega
                              · rw [List.mem_singleton.mp m]; omega
                          · refine ⟨r4, sm.reverse, rfl, gone _ (.inr (.inr rfl)), ?_, by rw [List.length_reverse]; omega, fun y m => by have := hb y (List.mem_reverse.mp m); omega⟩
                            rw [sbR _ _ (nz r4 (.inr (.inr rfl))) g4]
                            unfold iL
                            rw [List.map_reverse]
                        (repeat array_get_dec)
                        exact ⟨so', sm', _, _, _, _, _, _, _, _, _, _, _, _, _, rfl, plR, gwR, httR, hgo, ⟨plX.ne go, (ne_of_none gwX go).symm, (ne_of_none httX go).symm, plX.nel go⟩, hl', hb'⟩
                    · (repeat array_get_dec)
                      refine ⟨so, iL sm, rfl, SqL.of gsoG, fun r1 hr1 => ?_⟩
                      rw [cut_drop1]
                      have y1 := same_upd (o := .lst ((iL sm).drop 1)) (Same.refl HG) hr1
                      (repeat array_get_dec)
                      refine ⟨by show 1 ≤ sizeLine; decide, fun r2 hr2 => ?_⟩
                      have y2 := same_upd (o := .lst [.int 0]) (Same.refl _) hr2
                      refine w_catL (y2 _ _ (y1 _ _ gsoG)) upd_same (by rw [iL_len]; show sm.length + 1 ≤ 100000; omega) fun r3 hr3 => ?_
                      have y3 := same_upd (o := .lst (iL sm ++ [.int 0])) (Same.refl _) hr3
                      (repeat array_get_dec)
                      refine w_listRev ?_
                      (repeat array_get_dec)
                      refine ⟨so, iL sm, rfl, SqL.of (y3 _ _ (y2 _ _ (y1 _ _ gsoG))), fun r4 hr4 => ?_⟩
                      have y4 := same_upd (o := .lst (iL sm).reverse) (Same.refl _) hr4
                      (repeat array_get_dec)
                      refine ⟨by show 3 ≤ sizeLine; decide, fun r5 hr5 => ?_⟩
                      have y5 := same_upd (o := .lst [.ref r1, .ref r3, .ref r4]) (Same.refl _) hr5
                      have g1 := y5 _ _ (y4 _ _ (y3 _ _ (y2 r1 _ upd_same)))
                      have g3 := y5 _ _ (y4 r3 _ upd_same)
                      have g4 := y5 r4 _ upd_same
                      have yy := (((y1.trans y2).trans y3).trans y4).trans y5
                      have gone : ∀ r, (r = r1 ∨ r = r3 ∨ r = r4) → HG r = none := fun r z => by
                        rcases z with z | z | z
                        · rw [z]; exact hr1
                        · cases e : HG r with
                          | none => rfl
                          | some o => rw [← z, y2 _ _ (y1 _ _ e)] at hr3; cases hr3
                        · cases e : HG r with
                          | none => rfl
                          | some o => rw [← z, y3 _ _ (y2 _ _ (y1 _ _ e))] at hr4; cases hr4
                      have n5 : r5 ≠ p := (((plG.keep y1).keep y2).keep (y3.trans y4)).ne hr5
                      have g5 := upd_same (H := upd (upd (upd (upd HG r1 (.lst ((iL sm).drop 1))) r2 (.lst [.int 0])) r3 (.lst (iL sm ++ [.int 0]))) r4 (.lst (iL sm).reverse)) (a := r5) (o := .lst [.ref r1, .ref r3, .ref r4])
                      generalize upd (upd (upd (upd (upd HG r1 (.lst ((iL sm).drop 1))) r2 (.lst [.int 0])) r3 (.lst (iL sm ++ [.int 0]))) r4 (.lst (iL sm).reverse)) r5 (.lst [.ref r1, .ref r3, .ref r4]) = HQ at g1 g3 g4 g5 yy ⊢
                      clear y1 y2 y3 y4 y5 hr1 hr2 hr3 hr4 hr5
                      (repeat array_get_dec)
                      refine ⟨p, r5, l, _, rfl, plG.keep yy, g5, n5, by show 1 ≤ 3; decide, by show 3 ≤ sizeLine; decide, fun v HR hv plR sbR => ?_⟩
                      have gwR := sbR _ _ ntw (yy _ _ gwG)
                      have httR := sbR _ _ ntt (yy _ _ httG)
                      obtain ⟨so', sm', rfl, go, hgo, hl', hb'⟩ : ∃ (so' : Addr) (sm' : List Int), v = .ref so' ∧ HG so' = none ∧ HR so' = some (.lst (iL sm')) ∧ sm'.length ≤ 5 + (i + 1) ∧ ∀ y ∈ sm', -1000000000 - ((i + 1 : Nat) : Int) ≤ y ∧ y ≤ 1000000000 + ((i + 1 : Nat) : Int) := by
                        have nz : ∀ r, (r = r1 ∨ r = r3 ∨ r = r4) → r ≠ p := fun r z => plG.ne (gone r z)
                        simp only [List.mem_cons, List.not_mem_nil, or_false] at hv
                        rcases hv with rfl | rfl | rfl
                        · refine ⟨r1, sm.drop 1, rfl, gone _ (.inl rfl), ?_, by rw [List.length_drop]; omega, fun y m => by have := hb y (List.mem_of_mem_drop m); omega⟩
                          rw [sbR _ _ (nz r1 (.inl rfl)) g1]
                          unfold iL
                          rw [List.map_drop]
                        · refine ⟨r3, sm ++ [0], rfl, gone _ (.inr (.inl rfl)), ?_, by rw [List.length_append, List.length_singleton]; omega, fun y m => ?_⟩
                          · rw [sbR _ _ (nz r3 (.inr (.inl rfl))) g3]
                            unfold iL
                            rw [List.map_append]
                            rfl
                          · rcases List.mem_append.mp m with m | m
                            · have := hb y m; omega
                            · rw [List.mem_singleton.mp m]; omega
                        · refine ⟨r4, sm.reverse, rfl, gone _ (.inr (.inr rfl)), ?_, by rw [List.length_reverse]; omega, fun y m => by have := hb y (List.mem_reverse.mp m); omega⟩
                          rw [sbR _ _ (nz r4 (.inr (.inr rfl))) g4]
                          unfold iL
                          rw [List.map_reverse]
                      (repeat array_get_dec)
                      exact ⟨so', sm', _, _, _, _, _, _, _, _, _, _, _, _, _, rfl, plR, gwR, httR, hgo, ⟨plG.ne go, (ne_of_none gwG go).symm, (ne_of_none httG go).symm, plG.nel go⟩, hl', hb'⟩
                  · rintro σ HG ⟨so, sm, v2, v4, v5, v7, v9, v10, v11, v12, v13, v14, v16, v17, v18, rfl, plG, gwG, httG, gsoG, nso, hl, hb⟩
                    have hs5 : sm.length ≤ 100 := by omega
                    have hb5 : ∀ y ∈ sm, -2000000000 ≤ y ∧ y ≤ 2000000000 := fun y m => by have := hb y m; omega
                    (repeat array_get_dec)
                    refine ⟨x, tw, so, ws, sm, rfl, x0, x1, gwG, hg, gsoG, hs5, hb5, fun HI sI => ?_⟩
                    (repeat array_get_dec)
                    refine ⟨x, tw, so, ws, sm, rfl, x0, x1, sI _ _ gwG, hg, sI _ _ gsoG, hs5, hb5, fun HJ sJ => ?_⟩
                    rw [jud_goo x0 x1 (fun w m => (hg.2.2.1 w m).1) hs]
                    (repeat array_get_dec)
                    refine ⟨_, _, .bool (gooB x ws sm), rfl, .bl _, .bl _, trivial, fun HK sK => ?_⟩
                    (repeat array_get_dec)
                    have sT := (sI.trans sJ).trans sK
                    exact ⟨_, _, _, _, _, _, _, _, _, _, _, _, _, _, rfl, plG.keep sT, sT _ _ gwG, sT _ _ httG⟩
                · rintro σ HD ⟨v2, v4, v5, v7, v9, v10, v11, v12, v13, v14, v15, v16, v17, v18, rfl, plD, gwD, httD⟩
                  (repeat array_get_dec)
                  exact ⟨_, _, _, _, _, _, _, _, _, _, _, _, _, _, _, _, _, rfl, plD⟩
    · rintro σ H1 ⟨v2, v3, v4, v5, v6, v7, v8, v9, v10, v11, v12, v13, v14, v15, v16, v17, v18, rfl, pl1⟩
      (repeat array_get_dec)
      refine ⟨by show 2 ≤ sizeLine; decide, fun t1 ht1 => ?_⟩
      have yt1 := same_upd (o := .tup [.int 0, .int 1]) (Same.refl (H1)) ht1
      (repeat array_get_dec)
      refine ⟨by show 2 ≤ sizeLine; decide, fun t2 ht2 => ?_⟩
      have yt2 := same_upd (o := .tup [.int 1, .int 0]) (Same.refl (upd (H1) t1 (.tup [.int 0, .int 1]))) ht2
      (repeat array_get_dec)
      refine ⟨by show 2 ≤ sizeLine; decide, fun t3 ht3 => ?_⟩
      have yt3 := same_upd (o := .tup [.int 1, .int 1000001]) (Same.refl (upd (upd (H1) t1 (.tup [.int 0, .int 1])) t2 (.tup [.int 1, .int 0]))) ht3
      (repeat array_get_dec)
      refine ⟨by show 1 ≤ sizeLine; decide, fun t4 ht4 => ?_⟩
      have yt4 := same_upd (o := .tup [.int 1]) (Same.refl (upd (upd (upd (H1) t1 (.tup [.int 0, .int 1])) t2 (.tup [.int 1, .int 0])) t3 (.tup [.int 1, .int 1000001]))) ht4
      (repeat array_get_dec)
      refine ⟨by show 2 ≤ sizeLine; decide, fun t5 ht5 => ?_⟩
      have yt5 := same_upd (o := .lst [.int 1, .int 1]) (Same.refl (upd (upd (upd (upd (H1) t1 (.tup [.int 0, .int 1])) t2 (.tup [.int 1, .int 0])) t3 (.tup [.int 1, .int 1000001])) t4 (.tup [.int 1]))) ht5
      (repeat array_get_dec)
      refine ⟨by show 2 ≤ sizeLine; decide, fun t6 ht6 => ?_⟩
      have yt6 := same_upd (o := .tup [.bl true, .int 1]) (Same.refl (upd (upd (upd (upd (upd (H1) t1 (.tup [.int 0, .int 1])) t2 (.tup [.int 1, .int 0])) t3 (.tup [.int 1, .int 1000001])) t4 (.tup [.int 1])) t5 (.lst [.int 1, .int 1]))) ht6
      (repeat array_get_dec)
      refine ⟨by show 7 ≤ sizeLine; decide, fun q hq => ?_⟩
      have yq := same_upd (o := .lst [.ref t1, .ref t2, .ref t3, .ref t4, .ref t5, .ref t6, .int 5]) (Same.refl (upd (upd (upd (upd (upd (upd (H1) t1 (.tup [.int 0, .int 1])) t2 (.tup [.int 1, .int 0])) t3 (.tup [.int 1, .int 1000001])) t4 (.tup [.int 1])) t5 (.lst [.int 1, .int 1])) t6 (.tup [.bl true, .int 1]))) hq
      have gt1 : (upd (upd (upd (upd (upd (upd (upd (H1) t1 (.tup [.int 0, .int 1])) t2 (.tup [.int 1, .int 0])) t3 (.tup [.int 1, .int 1000001])) t4 (.tup [.int 1])) t5 (.lst [.int 1, .int 1])) t6 (.tup [.bl true, .int 1])) q (.lst [.ref t1, .ref t2, .ref t3, .ref t4, .ref t5, .ref t6, .int 5])) t1 = some (.tup [.int 0, .int 1]) := (yq _ _ (yt6 _ _ (yt5 _ _ (yt4 _ _ (yt3 _ _ (yt2 t1 _ upd_same))))))
      have gt2 : (upd (upd (upd (upd (upd (upd (upd (H1) t1 (.tup [.int 0, .int 1])) t2 (.tup [.int 1, .int 0])) t3 (.tup [.int 1, .int 1000001])) t4 (.tup [.int 1])) t5 (.lst [.int 1, .int 1])) t6 (.tup [.bl true, .int 1])) q (.lst [.ref t1, .ref t2, .ref t3, .ref t4, .ref t5, .ref t6, .int 5])) t2 = some (.tup [.int 1, .int 0]) := (yq _ _ (yt6 _ _ (yt5 _ _ (yt4 _ _ (yt3 t2 _ upd_same)))))
      have gt3 : (upd (upd (upd (upd (upd (upd (upd (H1) t1 (.tup [.int 0, .int 1])) t2 (.tup [.int 1, .int 0])) t3 (.tup [.int 1, .int 1000001])) t4 (.tup [.int 1])) t5 (.lst [.int 1, .int 1])) t6 (.tup [.bl true, .int 1])) q (.lst [.ref t1, .ref t2, .ref t3, .ref t4, .ref t5, .ref t6, .int 5])) t3 = some (.tup [.int 1, .int 1000001]) := (yq _ _ (yt6 _ _ (yt5 _ _ (yt4 t3 _ upd_same))))
      have gt4 : (upd (upd (upd (upd (upd (upd (upd (H1) t1 (.tup [.int 0, .int 1])) t2 (.tup [.int 1, .int 0])) t3 (.tup [.int 1, .int 1000001])) t4 (.tup [.int 1])) t5 (.lst [.int 1, .int 1])) t6 (.tup [.bl true, .int 1])) q (.lst [.ref t1, .ref t2, .ref t3, .ref t4, .ref t5, .ref t6, .int 5])) t4 = some (.tup [.int 1]) := (yq _ _ (yt6 _ _ (yt5 t4 _ upd_same)))
      have gt5 : (upd (upd (upd (upd (upd (upd (upd (H1) t1 (.tup [.int 0, .int 1])) t2 (.tup [.int 1, .int 0])) t3 (.tup [.int 1, .int 1000001])) t4 (.tup [.int 1])) t5 (.lst [.int 1, .int 1])) t6 (.tup [.bl true, .int 1])) q (.lst [.ref t1, .ref t2, .ref t3, .ref t4, .ref t5, .ref t6, .int 5])) t5 = some (.lst [.int 1, .int 1]) := (yq _ _ (yt6 t5 _ upd_same))
      have gt6 : (upd (upd (upd (upd (upd (upd (upd (H1) t1 (.tup [.int 0, .int 1])) t2 (.tup [.int 1, .int 0])) t3 (.tup [.int 1, .int 1000001])) t4 (.tup [.int 1])) t5 (.lst [.int 1, .int 1])) t6 (.tup [.bl true, .int 1])) q (.lst [.ref t1, .ref t2, .ref t3, .ref t4, .ref t5, .ref t6, .int 5])) t6 = some (.tup [.bl true, .int 1]) := (yq t6 _ upd_same)
      have gq : (upd (upd (upd (upd (upd (upd (upd (H1) t1 (.tup [.int 0, .int 1])) t2 (.tup [.int 1, .int 0])) t3 (.tup [.int 1, .int 1000001])) t4 (.tup [.int 1])) t5 (.lst [.int 1, .int 1])) t6 (.tup [.bl true, .int 1])) q (.lst [.ref t1, .ref t2, .ref t3, .ref t4, .ref t5, .ref t6, .int 5])) q = some (.lst [.ref t1, .ref t2, .ref t3, .ref t4, .ref t5, .ref t6, .int 5]) := upd_same
      have yy : Same H1 (upd (upd (upd (upd (upd (upd (upd (H1) t1 (.tup [.int 0, .int 1])) t2 (.tup [.int 1, .int 0])) t3 (.tup [.int 1, .int 1000001])) t4 (.tup [.int 1])) t5 (.lst [.int 1, .int 1])) t6 (.tup [.bl true, .int 1])) q (.lst [.ref t1, .ref t2, .ref t3, .ref t4, .ref t5, .ref t6, .int 5])) := (Same.trans (Same.trans (Same.trans (Same.trans (Same.trans (Same.trans yt1 yt2) yt3) yt4) yt5) yt6) yq)
      generalize upd (upd (upd (upd (upd (upd (upd (H1) t1 (.tup [.int 0, .int 1])) t2 (.tup [.int 1, .int 0])) t3 (.tup [.int 1, .int 1000001])) t4 (.tup [.int 1])) t5 (.lst [.int 1, .int 1])) t6 (.tup [.bl true, .int 1])) q (.lst [.ref t1, .ref t2, .ref t3, .ref t4, .ref t5, .ref t6, .int 5]) = HQ at gt1 gt2 gt3 gt4 gt5 gt6 gq yy ⊢
      have plQ := pl1.keep yy
      clear yq hq yt6 ht6 yt5 ht5 yt4 ht4 yt3 ht3 yt2 ht2 yt1 ht1 yy pl1
      have tb : ∀ (t : Addr) (xs : List V), HQ t = some (.tup xs) → xs.length ≤ 100 → (∀ x ∈ xs, numV x) → (xs.length = 2 → ∃ x ∈ xs, okN 1 1000000 x = false) → badR HQ (.ref t) := fun t xs h1 h2 h3 h4 => .inr (.inr ⟨t, xs, rfl, h1, h2, h3, h4⟩)
      have bad : ∀ (i : Nat) (v : V), [V.ref t1, .ref t2, .ref t3, .ref t4, .ref t5, .ref t6, .int 5][i]? = some v → badR HQ v := fun i v h => by
        match i, h with
        | 0, h => rw [← Option.some.inj h]; exact tb _ _ gt1 (by decide) (by simp [numV]) fun _ => ⟨.int 0, by simp, rfl⟩
        | 1, h => rw [← Option.some.inj h]; exact tb _ _ gt2 (by decide) (by simp [numV]) fun _ => ⟨.int 0, by simp, rfl⟩
        | 2, h => rw [← Option.some.inj h]; exact tb _ _ gt3 (by decide) (by simp [numV]) fun _ => ⟨.int 1000001, by simp, by decide⟩
        | 3, h => rw [← Option.some.inj h]; exact tb _ _ gt4 (by decide) (by simp [numV]) fun z => absurd z (by decide)
        | 4, h => rw [← Option.some.inj h]; exact .inr (.inl ⟨_, _, rfl, gt5⟩)
        | 5, h => rw [← Option.some.inj h]; exact tb _ _ gt6 (by decide) (by simp [numV]) fun _ => ⟨.bl true, by simp, rfl⟩
        | 6, h => rw [← Option.some.inj h]; exact .inl ⟨_, rfl⟩
        | n + 7, h => simp at h
      (repeat array_get_dec)
      refine for_list (K := K) (a := q) (xs := [V.ref t1, .ref t2, .ref t3, .ref t4, .ref t5, .ref t6, .int 5]) (fun i σ H' => ∃ v2 v3 v4 v5 v6 v7 v8 v9 v10 v11 v12 v13 v14 v15 v16 v17 v18 : Option V, σ = [some (.ref a), some (.ref p), v2, v3, v4, v5, v6, v7, v8, v9, v10, v11, v12, v13, v14, v15, v16, v17, v18] ∧ Same HQ H') ⟨_, _, _, _, _, _, _, _, _, _, _, _, _, _, _, _, _, rfl, Same.refl _⟩ ?_ ?_ ?_
      · rintro i σ H' _ ⟨v2, v3, v4, v5, v6, v7, v8, v9, v10, v11, v12, v13, v14, v15, v16, v17, v18, rfl, sh⟩
        exact SqL.of (sh _ _ gq)
      · rintro i v σ H' hv ⟨v2, v3, v4, v5, v6, v7, v8, v9, v10, v11, v12, v13, v14, v15, v16, v17, v18, rfl, sh⟩
        have bd := (bad i v hv).keep sh
        (repeat array_get_dec)
        refine ⟨1, v, .int 0, .int 0, false, rfl, .inr (.inl ⟨rfl, rfl, bd⟩), fun H8 s8 => ?_⟩
        rw [show refS false = V.str (Str.ofString "paper") from rfl]
        (repeat array_get_dec)
        have bd8 := bd.keep s8
        refine ⟨0, .int 5, v, .int 0, false, rfl, .inl ⟨rfl, fun Q E he => ⟨_, _, rfl, .inr (.inr ⟨.inl ⟨_, rfl⟩, rfl, bd8, fun H' s => he H' s⟩)⟩⟩, fun H9 s9 => ?_⟩
        rw [show refS false = V.str (Str.ofString "paper") from rfl]
        (repeat array_get_dec)
        refine ⟨5, v, .int 0, .int 0, false, rfl, .inr (.inr (.inr (.inr (.inr ⟨rfl, rfl, bd8.keep s9⟩)))), fun HA sA => ?_⟩
        rw [show refS false = V.str (Str.ofString "paper") from rfl]
        (repeat array_get_dec)
        exact ⟨_, _, _, _, _, _, _, _, _, _, _, _, _, _, _, _, _, rfl, ((sh.trans s8).trans s9).trans sA⟩
      rintro σ H2 ⟨v2, v3, v4, v5, v6, v7, v8, v9, v10, v11, v12, v13, v14, v15, v16, v17, v18, rfl, sh⟩
      have pl2 := plQ.keep sh
      clear bad tb sh plQ gt1 gt2 gt3 gt4 gt5 gt6 gq
      (repeat array_get_dec)
      refine ⟨by show 0 ≤ sizeLine; decide, fun l1 hl1 => ?_⟩
      have yl1 := same_upd (o := .lst []) (Same.refl (H2)) hl1
      (repeat array_get_dec)
      refine ⟨by show 1 ≤ sizeLine; decide, fun l2 hl2 => ?_⟩
      have yl2 := same_upd (o := .lst [.int 0]) (Same.refl (upd (H2) l1 (.lst []))) hl2
      (repeat array_get_dec)
      refine ⟨by show 2 ≤ sizeLine; decide, fun l3 hl3 => ?_⟩
      have yl3 := same_upd (o := .lst [.int 0, .int 0]) (Same.refl (upd (upd (H2) l1 (.lst [])) l2 (.lst [.int 0]))) hl3
      (repeat array_get_dec)
      refine ⟨by show 2 ≤ sizeLine; decide, fun l4 hl4 => ?_⟩
      have yl4 := same_upd (o := .lst [.int (-1), .int 2]) (Same.refl (upd (upd (upd (H2) l1 (.lst [])) l2 (.lst [.int 0])) l3 (.lst [.int 0, .int 0]))) hl4
      (repeat array_get_dec)
      refine ⟨by show 1 ≤ sizeLine; decide, fun l5 hl5 => ?_⟩
      have yl5 := same_upd (o := .lst [.bl true]) (Same.refl (upd (upd (upd (upd (H2) l1 (.lst [])) l2 (.lst [.int 0])) l3 (.lst [.int 0, .int 0])) l4 (.lst [.int (-1), .int 2]))) hl5
      (repeat array_get_dec)
      refine ⟨by show 1 ≤ sizeLine; decide, fun l6 hl6 => ?_⟩
      have yl6 := same_upd (o := .lst [.int 1000001]) (Same.refl (upd (upd (upd (upd (upd (H2) l1 (.lst [])) l2 (.lst [.int 0])) l3 (.lst [.int 0, .int 0])) l4 (.lst [.int (-1), .int 2])) l5 (.lst [.bl true]))) hl6
      have gl1 : (upd (upd (upd (upd (upd (upd (H2) l1 (.lst [])) l2 (.lst [.int 0])) l3 (.lst [.int 0, .int 0])) l4 (.lst [.int (-1), .int 2])) l5 (.lst [.bl true])) l6 (.lst [.int 1000001])) l1 = some (.lst []) := (yl6 _ _ (yl5 _ _ (yl4 _ _ (yl3 _ _ (yl2 l1 _ upd_same)))))
      have gl2 : (upd (upd (upd (upd (upd (upd (H2) l1 (.lst [])) l2 (.lst [.int 0])) l3 (.lst [.int 0, .int 0])) l4 (.lst [.int (-1), .int 2])) l5 (.lst [.bl true])) l6 (.lst [.int 1000001])) l2 = some (.lst [.int 0]) := (yl6 _ _ (yl5 _ _ (yl4 _ _ (yl3 l2 _ upd_same))))
      have gl3 : (upd (upd (upd (upd (upd (upd (H2) l1 (.lst [])) l2 (.lst [.int 0])) l3 (.lst [.int 0, .int 0])) l4 (.lst [.int (-1), .int 2])) l5 (.lst [.bl true])) l6 (.lst [.int 1000001])) l3 = some (.lst [.int 0, .int 0]) := (yl6 _ _ (yl5 _ _ (yl4 l3 _ upd_same)))
      have gl4 : (upd (upd (upd (upd (upd (upd (H2) l1 (.lst [])) l2 (.lst [.int 0])) l3 (.lst [.int 0, .int 0])) l4 (.lst [.int (-1), .int 2])) l5 (.lst [.bl true])) l6 (.lst [.int 1000001])) l4 = some (.lst [.int (-1), .int 2]) := (yl6 _ _ (yl5 l4 _ upd_same))
      have gl5 : (upd (upd (upd (upd (upd (upd (H2) l1 (.lst [])) l2 (.lst [.int 0])) l3 (.lst [.int 0, .int 0])) l4 (.lst [.int (-1), .int 2])) l5 (.lst [.bl true])) l6 (.lst [.int 1000001])) l5 = some (.lst [.bl true]) := (yl6 l5 _ upd_same)
      have gl6 : (upd (upd (upd (upd (upd (upd (H2) l1 (.lst [])) l2 (.lst [.int 0])) l3 (.lst [.int 0, .int 0])) l4 (.lst [.int (-1), .int 2])) l5 (.lst [.bl true])) l6 (.lst [.int 1000001])) l6 = some (.lst [.int 1000001]) := upd_same
      have yy : Same H2 (upd (upd (upd (upd (upd (upd (H2) l1 (.lst [])) l2 (.lst [.int 0])) l3 (.lst [.int 0, .int 0])) l4 (.lst [.int (-1), .int 2])) l5 (.lst [.bl true])) l6 (.lst [.int 1000001])) := (Same.trans (Same.trans (Same.trans (Same.trans (Same.trans yl1 yl2) yl3) yl4) yl5) yl6)
      generalize upd (upd (upd (upd (upd (upd (H2) l1 (.lst [])) l2 (.lst [.int 0])) l3 (.lst [.int 0, .int 0])) l4 (.lst [.int (-1), .int 2])) l5 (.lst [.bl true])) l6 (.lst [.int 1000001]) = HQ at gl1 gl2 gl3 gl4 gl5 gl6 yy ⊢
      have plQ := pl2.keep yy
      clear yl6 hl6 yl5 hl5 yl4 hl4 yl3 hl3 yl2 hl2 yl1 hl1 yy pl2
      (repeat array_get_dec)
      intro A hA
      refine lc_range (fun i H' => H' A = some (.lst (iL (List.replicate i 1))) ∧ ∀ b o, b ≠ A → HQ b = some o → H' b = some o) ⟨upd_same, fun b o nb e => by rw [upd_ne nb]; exact e⟩ ?_ ?_
      · rintro i H' hi ⟨h1, h2⟩
        have lz : (iL (List.replicate i 1)).length < sizeLine := by rw [iL_len, List.length_replicate, sizeLine_eq]; omega
        (repeat array_get_dec)
        refine ⟨by rw [upd_same, List.replicate_succ']; unfold iL; rw [List.map_append]; rfl, fun b o nb e => by rw [upd_ne nb]; exact h2 b o nb e⟩
      rintro HR ⟨h1, h2⟩
      have sR : Same HQ HR := fun b o e => h2 b o (ne_of_none e hA) e
      (repeat array_get_dec)
      refine ⟨by show 7 ≤ sizeLine; decide, fun q hq => ?_⟩
      have sS := same_upd (o := .lst [.ref l1, .ref l2, .ref l3, .ref l4, .ref l5, .ref l6, .ref A]) (Same.refl HR) hq
      have gA := sS _ _ h1
      have gq := upd_same (H := HR) (a := q) (o := .lst [.ref l1, .ref l2, .ref l3, .ref l4, .ref l5, .ref l6, .ref A])
      have sT := sR.trans sS
      generalize upd HR q (.lst [.ref l1, .ref l2, .ref l3, .ref l4, .ref l5, .ref l6, .ref A]) = HT at gA gq sT ⊢
      have plT := plQ.keep sT
      clear sR sS h1 h2 hq hA
      have bad : ∀ (i : Nat) (v : V), [V.ref l1, .ref l2, .ref l3, .ref l4, .ref l5, .ref l6, .ref A][i]? = some v → ∃ t xs, v = .ref t ∧ HT t = some (.lst xs) ∧ badW xs := fun i v h => by
        match i, h with
        | 0, h => exact ⟨l1, _, (Option.some.inj h).symm, sT _ _ gl1, by simp, by simp, fun z => by simp at z⟩
        | 1, h => exact ⟨l2, _, (Option.some.inj h).symm, sT _ _ gl2, by simp, by simp [numV], fun _ _ => .inr ⟨[0], rfl, by simp, rfl⟩⟩
        | 2, h => exact ⟨l3, _, (Option.some.inj h).symm, sT _ _ gl3, by simp, by simp [numV], fun _ _ => .inr ⟨[0, 0], rfl, by simp, rfl⟩⟩
        | 3, h => exact ⟨l4, _, (Option.some.inj h).symm, sT _ _ gl4, by simp, by simp [numV], fun _ _ => .inl ⟨.int (-1), by simp, by decide⟩⟩
        | 4, h => exact ⟨l5, _, (Option.some.inj h).symm, sT _ _ gl5, by simp, by simp [numV], fun _ _ => .inl ⟨.bl true, by simp, rfl⟩⟩
        | 5, h => exact ⟨l6, _, (Option.some.inj h).symm, sT _ _ gl6, by simp, by simp [numV], fun _ _ => .inl ⟨.int 1000001, by simp, by decide⟩⟩
        | 6, h => exact ⟨A, _, (Option.some.inj h).symm, gA, by rw [iL_len, List.length_replicate]; omega, iL_num _, fun _ z => by rw [iL_len, List.length_replicate] at z; omega⟩
        | n + 7, h => simp at h
      (repeat array_get_dec)
      refine for_list (K := K) (a := q) (xs := [V.ref l1, .ref l2, .ref l3, .ref l4, .ref l5, .ref l6, .ref A]) (fun i σ H' => ∃ v2 v3 v4 v5 v6 v7 v8 v9 v10 v11 v12 v13 v14 v15 v16 v17 v18 : Option V, σ = [some (.ref a), some (.ref p), v2, v3, v4, v5, v6, v7, v8, v9, v10, v11, v12, v13, v14, v15, v16, v17, v18] ∧ Same HT H') ⟨_, _, _, _, _, _, _, _, _, _, _, _, _, _, _, _, _, rfl, Same.refl _⟩ ?_ ?_ ?_
      · rintro i σ H' _ ⟨v2, v3, v4, v5, v6, v7, v8, v9, v10, v11, v12, v13, v14, v15, v16, v17, v18, rfl, sh⟩
        exact SqL.of (sh _ _ gq)
      · rintro i v σ H' hv ⟨v2, v3, v4, v5, v6, v7, v8, v9, v10, v11, v12, v13, v14, v15, v16, v17, v18, rfl, sh⟩
        obtain ⟨t, xs, rfl, ht, bw⟩ := bad i v hv
        have ht1 := sh _ _ ht
        (repeat array_get_dec)
        refine ⟨2, .ref t, .int 0, .int 0, false, rfl, .inr (.inr (.inl ⟨rfl, rfl, t, xs, rfl, ht1, bw⟩)), fun H8 s8 => ?_⟩
        rw [show refS false = V.str (Str.ofString "paper") from rfl]
        (repeat array_get_dec)
        have ht8 := s8 _ _ ht1
        refine ⟨3, .int 5, .ref t, .int 0, false, rfl, .inr (.inr (.inr (.inl ⟨rfl, fun Q E he => ⟨_, t, rfl, .inr (.inl ⟨xs, ht8, bw, fun H' s => he H' s⟩)⟩⟩))), fun H9 s9 => ?_⟩
        rw [show refS false = V.str (Str.ofString "paper") from rfl]
        (repeat array_get_dec)
        exact ⟨_, _, _, _, _, _, _, _, _, _, _, _, _, _, _, _, _, rfl, (sh.trans s8).trans s9⟩
      rintro σ H3 ⟨v2, v3, v4, v5, v6, v7, v8, v9, v10, v11, v12, v13, v14, v15, v16, v17, v18, rfl, sh⟩
      have pl3 := plT.keep sh
      clear bad sh plT plQ sT gl1 gl2 gl3 gl4 gl5 gl6 gA gq
      (repeat array_get_dec)
      refine w_rI (show CPow 10 9 from ⟨by decide, by decide, by decide⟩) ?_
      rw [show (10 : Int) ^ (9 : Int).toNat = 1000000000 from rfl]
      (repeat array_get_dec)
      refine ⟨by show 2 ≤ sizeLine; decide, fun q1 hq1 => ?_⟩
      (repeat array_get_dec)
      refine ⟨p, q1, l, _, rfl, pl3.new hq1, upd_same, pl3.ne hq1, by show 1 ≤ 2; decide, by show 2 ≤ sizeLine; decide, fun va H4 mva pl4 sbH4 => ?_⟩
      have bva : numV va ∧ okN (-1000000000) 1000000000 va = false := by
        simp only [List.mem_cons, List.not_mem_nil, or_false] at mva
        rcases mva with rfl | rfl
        · exact ⟨.inl ⟨_, rfl⟩, by decide⟩
        · exact ⟨.inr ⟨_, rfl⟩, rfl⟩
      clear mva sbH4 hq1 pl3
      (repeat array_get_dec)
      refine ⟨by show 2 ≤ sizeLine; decide, fun t1 ht1 => ?_⟩
      have pl5 := pl4.new (o := .tup [.int 1, .int 1]) ht1
      (repeat array_get_dec)
      refine ⟨0, va, .ref t1, .int 0, true, rfl, .inl ⟨rfl, fun Q E he => ⟨_, _, rfl, .inr (.inl ⟨bva.1, bva.2, fun H' s => he H' s⟩)⟩⟩, fun H6 s6 => ?_⟩
      rw [show refS true = V.str (Str.ofString "number") from rfl]
      have pl6 := pl5.keep s6
      clear pl5 pl4 s6 ht1
      (repeat array_get_dec)
      refine w_rI (show CPow 10 9 from ⟨by decide, by decide, by decide⟩) ?_
      rw [show (10 : Int) ^ (9 : Int).toNat = 1000000000 from rfl]
      (repeat array_get_dec)
      refine ⟨by show 3 ≤ sizeLine; decide, fun q2 hq2 => ?_⟩
      (repeat array_get_dec)
      refine ⟨p, q2, l, _, rfl, pl6.new hq2, upd_same, pl6.ne hq2, by show 1 ≤ 3; decide, by show 3 ≤ sizeLine; decide, fun vb H7 mvb pl7 sbH7 => ?_⟩
      have bvb : numV vb ∧ okN 0 1000000000 vb = false := by
        simp only [List.mem_cons, List.not_mem_nil, or_false] at mvb
        rcases mvb with rfl | rfl | rfl
        · exact ⟨.inl ⟨_, rfl⟩, by decide⟩
        · exact ⟨.inl ⟨_, rfl⟩, by decide⟩
        · exact ⟨.inr ⟨_, rfl⟩, rfl⟩
      clear mvb sbH7 hq2 pl6
      (repeat array_get_dec)
      refine ⟨by show 1 ≤ sizeLine; decide, fun t2 ht2 => ?_⟩
      have pl8 := pl7.new (o := .lst [.int 1]) ht2
      (repeat array_get_dec)
      refine ⟨3, vb, .ref t2, .int 0, true, rfl, .inr (.inr (.inr (.inl ⟨rfl, fun Q E he => ⟨_, t2, rfl, .inr (.inr ⟨[1], upd_same, ⟨by decide, by decide, by simp, by decide⟩, bvb.1, bvb.2, fun H' s => he H' s⟩)⟩⟩))), fun H9 s9 => ?_⟩
      rw [show refS true = V.str (Str.ofString "number") from rfl]
      have pl9 := pl8.keep s9
      clear pl8 pl7 s9 ht2
      (repeat array_get_dec)
      refine ⟨by show 3 ≤ sizeLine; decide, fun q3 hq3 => ?_⟩
      (repeat array_get_dec)
      refine ⟨p, q3, l, _, rfl, pl9.new hq3, upd_same, pl9.ne hq3, by show 1 ≤ 3; decide, by show 3 ≤ sizeLine; decide, fun vc HA mvc plA sbHA => ?_⟩
      have bvc : numV vc ∧ okN 0 100000 vc = false := by
        simp only [List.mem_cons, List.not_mem_nil, or_false] at mvc
        rcases mvc with rfl | rfl | rfl
        · exact ⟨.inl ⟨_, rfl⟩, by decide⟩
        · exact ⟨.inl ⟨_, rfl⟩, by decide⟩
        · exact ⟨.inr ⟨_, rfl⟩, rfl⟩
      clear mvc sbHA hq3 pl9
      have nu : nameC 117 true := .inl ⟨.inl rfl, rfl⟩
      have nv : nameC 118 true := .inl ⟨.inr (.inl rfl), rfl⟩
      have nU : nameC 85 false := .inr ⟨rfl, rfl⟩
      (repeat array_get_dec)
      refine ⟨4, vc, .str (Str.ofString "u"), .str (Str.ofString "v"), true, rfl, .inr (.inr (.inr (.inr (.inl ⟨rfl, 117, 118, true, true, rfl, rfl, bvc.1, nu, nv, .inl ⟨bvc.2, rfl⟩⟩)))), fun HB sB => ?_⟩
      rw [show refS true = V.str (Str.ofString "number") from rfl]
      (repeat array_get_dec)
      refine ⟨4, .int 1, .str (Str.ofString "u"), .str (Str.ofString "u"), false, rfl, .inr (.inr (.inr (.inr (.inl ⟨rfl, 117, 117, true, true, rfl, rfl, .inl ⟨_, rfl⟩, nu, nu, .inr ⟨by decide, .inr (.inr rfl), rfl⟩⟩)))), fun HC sC => ?_⟩
      rw [show refS false = V.str (Str.ofString "paper") from rfl]
      (repeat array_get_dec)
      refine ⟨4, .int 1, .str (Str.ofString "U"), .str (Str.ofString "v"), false, rfl, .inr (.inr (.inr (.inr (.inl ⟨rfl, 85, 118, false, true, rfl, rfl, .inl ⟨_, rfl⟩, nU, nv, .inr ⟨by decide, .inl rfl, rfl⟩⟩)))), fun HD sD => ?_⟩
      rw [show refS false = V.str (Str.ofString "paper") from rfl]
      have plD := ((plA.keep sB).keep sC).keep sD
      (repeat array_get_dec)
      refine ⟨p, l, rfl, plD, fun HE => ?_⟩
      (repeat array_get_dec)
      refine ⟨by show 2 ≤ sizeLine; decide, fun t3 ht3 => ?_⟩
      (repeat array_get_dec)
      refine ⟨t3, 3, 4, rfl, upd_same, ⟨⟨by decide, by decide⟩, by decide, by decide⟩, fun HF sF => ?_⟩
      have g3 := sF _ _ upd_same
      (repeat array_get_dec)
      refine ⟨by show 2 ≤ sizeLine; decide, fun t4 ht4 => ?_⟩
      refine ⟨.tuple [.int 3, .int 4], .tuple [.int 3, .int 4], .tup (SqT.of (by rw [upd_ne (ne_of_none g3 ht4)]; exact g3)) (.cons (.int _) (.cons (.int _) .nil)), .tup (SqT.of upd_same) (.cons (.int _) (.cons (.int _) .nil)), by decide +kernel, by decide +kernel, ?_⟩
      exact kQ _
end
end K78

namespace K78
open PySem PySem.Spec PyProof.Rows L2
/-! ### what the top has written, the head -/
theorem all_mk {P : Program} {w : World} {K : PySem.W.Frag} {h : Heap} {mg : Str → Option Value} {fa f1 f2 T2 f3 f4 f5 f6 f7 f8 f9 f10 f11 f12 f13 f14 f15 f16 f17 f18 f19 f20 f21 f22 f23 CR CE CP CN : Addr} (X : K.In h) (G : h.Ns mainGlobals mg) (hfa : mg "law" = some (.ref fa))
    {od1 an1 od2 an2 oD2 od3 an3 od4 an4 od5 an5 od6 an6 od7 an7 od8 an8 od9 an9 od10 an10 od11 an11 od12 an12 od13 an13 od14 an14 od15 an15 od16 an16 od17 an17 od18 an18 od19 an19 od20 an20 od21 an21 od22 an22 od23 an23 : Option Addr} {sl1 sl2 sT2 sl3 sl4 sl5 sl6 sl7 sl8 sl9 sl10 sl11 sl12 sl13 sl14 sl15 sl16 sl17 sl18 sl19 sl20 sl21 sl22 sl23 : Array (Option Value)} {oc1 kV1 dc1 pm1 cd1 ct1 oc2 kV2 dc2 pm2 cd2 ct2 oT2 oc3 kV3 dc3 pm3 cd3 ct3 oc4 kV4 dc4 pm4 cd4 ct4 oc5 kV5 dc5 pm5 cd5 ct5 oc6 kV6 dc6 pm6 cd6 ct6 oc7 kV7 dc7 pm7 cd7 ct7 oc8 kV8 dc8 pm8 cd8 ct8 oc9 kV9 dc9 pm9 cd9 ct9 oc10 kV10 dc10 pm10 cd10 ct10 oc11 kV11 dc11 pm11 cd11 ct11 oc12 kV12 dc12 pm12 cd12 ct12 oc13 kV13 dc13 pm13 cd13 ct13 oc14 kV14 dc14 pm14 cd14 ct14 oc15 kV15 dc15 pm15 cd15 ct15 oc16 kV16 dc16 pm16 cd16 ct16 oc17 kV17 dc17 pm17 cd17 ct17 oc18 kV18 dc18 pm18 cd18 ct18 oc19 kV19 dc19 pm19 cd19 ct19 oc20 kV20 dc20 pm20 cd20 ct20 oc21 kV21 dc21 pm21 cd21 ct21 oc22 kV22 dc22 pm22 cd22 ct22 oc23 kV23 dc23 pm23 cd23 ct23 : Value}
    {t2_0 t2_1 t_LETTERS t_LONGEST t_AMOUNT t_MOST : Tok}
    {nT2 : Nat}
    (a1 : PySem.W.nsIn K mainGlobals "is_name" = some (some (.ref f1)))
    (a2 : PySem.W.nsIn K mainGlobals "is_number" = some (some (.ref f2)))
    (a3 : PySem.W.nsIn K mainGlobals "is_amount" = some (some (.ref f3)))
    (a4 : PySem.W.nsIn K mainGlobals "checked_rate" = some (some (.ref f4)))
    (a5 : PySem.W.nsIn K mainGlobals "changed" = some (some (.ref f5)))
    (a6 : PySem.W.nsIn K mainGlobals "rest_of" = some (some (.ref f6)))
    (a7 : PySem.W.nsIn K mainGlobals "checked_weights" = some (some (.ref f7)))
    (a8 : PySem.W.nsIn K mainGlobals "shared" = some (some (.ref f8)))
    (a9 : PySem.W.nsIn K mainGlobals "judge_shared" = some (some (.ref f9)))
    (a15 : PySem.W.nsIn K mainGlobals "_law_same" = some (some (.ref f15)))
    (a16 : PySem.W.nsIn K mainGlobals "_law_pool" = some (some (.ref f16)))
    (a17 : PySem.W.nsIn K mainGlobals "_law_draw" = some (some (.ref f17)))
    (a18 : PySem.W.nsIn K mainGlobals "_law_pick" = some (some (.ref f18)))
    (a19 : PySem.W.nsIn K mainGlobals "_law_refusal" = some (some (.ref f19)))
    (a20 : PySem.W.nsIn K mainGlobals "_law_good" = some (some (.ref f20)))
    (a21 : PySem.W.nsIn K mainGlobals "_law_refused" = some (some (.ref f21)))
    (a22 : PySem.W.nsIn K mainGlobals "_law_rates_right" = some (some (.ref f22)))
    (a23 : PySem.W.nsIn K mainGlobals "law" = some (some (.ref f23)))
    (g_CR : PySem.W.nsIn K mainGlobals "Rates" = some (some (.ref CR)))
    (aE : PySem.W.nsIn K mainGlobals "DeskError" = some (some (.ref CE)))
    (a_CP : PySem.W.nsIn K mainGlobals "InvalidPaper" = some (some (.ref CP)))
    (a_CN : PySem.W.nsIn K mainGlobals "InvalidNumber" = some (some (.ref CN)))
    (z_len : PySem.W.nsIn K mainGlobals "len" = some none)
    (z_isinstance : PySem.W.nsIn K mainGlobals "isinstance" = some none)
    (z_str : PySem.W.nsIn K mainGlobals "str" = some none)
    (z_int : PySem.W.nsIn K mainGlobals "int" = some none)
    (z_list : PySem.W.nsIn K mainGlobals "list" = some none)
    (z_tuple : PySem.W.nsIn K mainGlobals "tuple" = some none)
    (z_bool : PySem.W.nsIn K mainGlobals "bool" = some none)
    (z_range : PySem.W.nsIn K mainGlobals "range" = some none)
    (z_abs : PySem.W.nsIn K mainGlobals "abs" = some none)
    (z_ord : PySem.W.nsIn K mainGlobals "ord" = some none)
    (z_sorted : PySem.W.nsIn K mainGlobals "sorted" = some none)
    (z_dict : PySem.W.nsIn K mainGlobals "dict" = some none)
    (z_ValueError : PySem.W.nsIn K mainGlobals "ValueError" = some none)
    (z_sum : PySem.W.nsIn K mainGlobals "sum" = some none)
    (z_max : PySem.W.nsIn K mainGlobals "max" = some none)
    (z_min : PySem.W.nsIn K mainGlobals "min" = some none)
    (z_reversed : PySem.W.nsIn K mainGlobals "reversed" = some none)
    (n_LETTERS : PySem.W.nsIn K mainGlobals "LETTERS" = some (some (.str (Str.ofString "abcdefghijklmnopqrstuvwxyz") t_LETTERS)))
    (n_LONGEST : PySem.W.nsIn K mainGlobals "LONGEST" = some (some (.int 12 t_LONGEST)))
    (n_AMOUNT : PySem.W.nsIn K mainGlobals "AMOUNT" = some (some (.int 1000000000 t_AMOUNT)))
    (n_MOST : PySem.W.nsIn K mainGlobals "MOST" = some (some (.int 1000000 t_MOST)))
    (l1 : K.lookup f1 = some ⟨oc1, od1, .func (PySem.W.fnOf "is_name" "is_name" (defArgs s_is_name) (defBody s_is_name) (defScope s_is_name) .none kV1 dc1 pm1 an1 cd1 ct1), sl1⟩)
    (c1 : PySem.W.codeIn K cd1 "is_name" = true)
    (k1 : PySem.W.keepIn K (.ref f1) = true)
    (l2 : K.lookup f2 = some ⟨oc2, od2, .func (PySem.W.fnOf "is_number" "is_number" (defArgs s_is_number) (defBody s_is_number) (defScope s_is_number) (.ref T2) kV2 dc2 pm2 an2 cd2 ct2), sl2⟩)
    (c2 : PySem.W.codeIn K cd2 "is_number" = true)
    (k2 : PySem.W.keepIn K (.ref f2) = true)
    (d2 : K.lookup T2 = some ⟨oT2, oD2, .seq #[.int 0 t2_0, .int 1000000 t2_1] nT2, sT2⟩)
    (l3 : K.lookup f3 = some ⟨oc3, od3, .func (PySem.W.fnOf "is_amount" "is_amount" (defArgs s_is_amount) (defBody s_is_amount) (defScope s_is_amount) .none kV3 dc3 pm3 an3 cd3 ct3), sl3⟩)
    (c3 : PySem.W.codeIn K cd3 "is_amount" = true)
    (k3 : PySem.W.keepIn K (.ref f3) = true)
    (l4 : K.lookup f4 = some ⟨oc4, od4, .func (PySem.W.fnOf "checked_rate" "checked_rate" (defArgs s_checked_rate) (defBody s_checked_rate) (defScope s_checked_rate) .none kV4 dc4 pm4 an4 cd4 ct4), sl4⟩)
    (c4 : PySem.W.codeIn K cd4 "checked_rate" = true)
    (k4 : PySem.W.keepIn K (.ref f4) = true)
    (l5 : K.lookup f5 = some ⟨oc5, od5, .func (PySem.W.fnOf "changed" "changed" (defArgs s_changed) (defBody s_changed) (defScope s_changed) .none kV5 dc5 pm5 an5 cd5 ct5), sl5⟩)
    (c5 : PySem.W.codeIn K cd5 "changed" = true)
    (k5 : PySem.W.keepIn K (.ref f5) = true)
    (l6 : K.lookup f6 = some ⟨oc6, od6, .func (PySem.W.fnOf "rest_of" "rest_of" (defArgs s_rest_of) (defBody s_rest_of) (defScope s_rest_of) .none kV6 dc6 pm6 an6 cd6 ct6), sl6⟩)
    (c6 : PySem.W.codeIn K cd6 "rest_of" = true)
    (k6 : PySem.W.keepIn K (.ref f6) = true)
    (l7 : K.lookup f7 = some ⟨oc7, od7, .func (PySem.W.fnOf "checked_weights" "checked_weights" (defArgs s_checked_weights) (defBody s_checked_weights) (defScope s_checked_weights) .none kV7 dc7 pm7 an7 cd7 ct7), sl7⟩)
    (c7 : PySem.W.codeIn K cd7 "checked_weights" = true)
    (k7 : PySem.W.keepIn K (.ref f7) = true)
    (l8 : K.lookup f8 = some ⟨oc8, od8, .func (PySem.W.fnOf "shared" "shared" (defArgs s_shared) (defBody s_shared) (defScope s_shared) .none kV8 dc8 pm8 an8 cd8 ct8), sl8⟩)
    (c8 : PySem.W.codeIn K cd8 "shared" = true)
    (k8 : PySem.W.keepIn K (.ref f8) = true)
    (l9 : K.lookup f9 = some ⟨oc9, od9, .func (PySem.W.fnOf "judge_shared" "judge_shared" (defArgs s_judge_shared) (defBody s_judge_shared) (defScope s_judge_shared) .none kV9 dc9 pm9 an9 cd9 ct9), sl9⟩)
    (c9 : PySem.W.codeIn K cd9 "judge_shared" = true)
    (k9 : PySem.W.keepIn K (.ref f9) = true)
    (a10 : PySem.W.findIn K (.ref CR) "__init__" = some (some (.ref f10)))
    (i10 : PySem.W.isFn K (.ref f10) = true)
    (l10 : K.lookup f10 = some ⟨oc10, od10, .func (PySem.W.fnOf "__init__" "Rates.__init__" (defArgs s_Rates___init__) (defBody s_Rates___init__) (defScope s_Rates___init__) .none kV10 dc10 pm10 an10 cd10 ct10), sl10⟩)
    (c10 : PySem.W.codeIn K cd10 "Rates.__init__" = true)
    (k10 : PySem.W.keepIn K (.ref f10) = true)
    (a11 : PySem.W.findIn K (.ref CR) "tell" = some (some (.ref f11)))
    (i11 : PySem.W.isFn K (.ref f11) = true)
    (l11 : K.lookup f11 = some ⟨oc11, od11, .func (PySem.W.fnOf "tell" "Rates.tell" (defArgs s_Rates_tell) (defBody s_Rates_tell) (defScope s_Rates_tell) .none kV11 dc11 pm11 an11 cd11 ct11), sl11⟩)
    (c11 : PySem.W.codeIn K cd11 "Rates.tell" = true)
    (k11 : PySem.W.keepIn K (.ref f11) = true)
    (a12 : PySem.W.findIn K (.ref CR) "rate" = some (some (.ref f12)))
    (i12 : PySem.W.isFn K (.ref f12) = true)
    (l12 : K.lookup f12 = some ⟨oc12, od12, .func (PySem.W.fnOf "rate" "Rates.rate" (defArgs s_Rates_rate) (defBody s_Rates_rate) (defScope s_Rates_rate) .none kV12 dc12 pm12 an12 cd12 ct12), sl12⟩)
    (c12 : PySem.W.codeIn K cd12 "Rates.rate" = true)
    (k12 : PySem.W.keepIn K (.ref f12) = true)
    (a13 : PySem.W.findIn K (.ref CR) "rows" = some (some (.ref f13)))
    (i13 : PySem.W.isFn K (.ref f13) = true)
    (l13 : K.lookup f13 = some ⟨oc13, od13, .func (PySem.W.fnOf "rows" "Rates.rows" (defArgs s_Rates_rows) (defBody s_Rates_rows) (defScope s_Rates_rows) .none kV13 dc13 pm13 an13 cd13 ct13), sl13⟩)
    (c13 : PySem.W.codeIn K cd13 "Rates.rows" = true)
    (k13 : PySem.W.keepIn K (.ref f13) = true)
    (a14 : PySem.W.findIn K (.ref CR) "copy" = some (some (.ref f14)))
    (i14 : PySem.W.isFn K (.ref f14) = true)
    (l14 : K.lookup f14 = some ⟨oc14, od14, .func (PySem.W.fnOf "copy" "Rates.copy" (defArgs s_Rates_copy) (defBody s_Rates_copy) (defScope s_Rates_copy) .none kV14 dc14 pm14 an14 cd14 ct14), sl14⟩)
    (c14 : PySem.W.codeIn K cd14 "Rates.copy" = true)
    (k14 : PySem.W.keepIn K (.ref f14) = true)
    (l15 : K.lookup f15 = some ⟨oc15, od15, .func (PySem.W.fnOf "_law_same" "_law_same" (defArgs s__law_same) (defBody s__law_same) (defScope s__law_same) .none kV15 dc15 pm15 an15 cd15 ct15), sl15⟩)
    (c15 : PySem.W.codeIn K cd15 "_law_same" = true)
    (k15 : PySem.W.keepIn K (.ref f15) = true)
    (l16 : K.lookup f16 = some ⟨oc16, od16, .func (PySem.W.fnOf "_law_pool" "_law_pool" (defArgs s__law_pool) (defBody s__law_pool) (defScope s__law_pool) .none kV16 dc16 pm16 an16 cd16 ct16), sl16⟩)
    (c16 : PySem.W.codeIn K cd16 "_law_pool" = true)
    (k16 : PySem.W.keepIn K (.ref f16) = true)
    (l17 : K.lookup f17 = some ⟨oc17, od17, .func (PySem.W.fnOf "_law_draw" "_law_draw" (defArgs s__law_draw) (defBody s__law_draw) (defScope s__law_draw) .none kV17 dc17 pm17 an17 cd17 ct17), sl17⟩)
    (c17 : PySem.W.codeIn K cd17 "_law_draw" = true)
    (k17 : PySem.W.keepIn K (.ref f17) = true)
    (l18 : K.lookup f18 = some ⟨oc18, od18, .func (PySem.W.fnOf "_law_pick" "_law_pick" (defArgs s__law_pick) (defBody s__law_pick) (defScope s__law_pick) .none kV18 dc18 pm18 an18 cd18 ct18), sl18⟩)
    (c18 : PySem.W.codeIn K cd18 "_law_pick" = true)
    (k18 : PySem.W.keepIn K (.ref f18) = true)
    (l19 : K.lookup f19 = some ⟨oc19, od19, .func (PySem.W.fnOf "_law_refusal" "_law_refusal" (defArgs s__law_refusal) (defBody s__law_refusal) (defScope s__law_refusal) .none kV19 dc19 pm19 an19 cd19 ct19), sl19⟩)
    (c19 : PySem.W.codeIn K cd19 "_law_refusal" = true)
    (k19 : PySem.W.keepIn K (.ref f19) = true)
    (l20 : K.lookup f20 = some ⟨oc20, od20, .func (PySem.W.fnOf "_law_good" "_law_good" (defArgs s__law_good) (defBody s__law_good) (defScope s__law_good) .none kV20 dc20 pm20 an20 cd20 ct20), sl20⟩)
    (c20 : PySem.W.codeIn K cd20 "_law_good" = true)
    (k20 : PySem.W.keepIn K (.ref f20) = true)
    (l21 : K.lookup f21 = some ⟨oc21, od21, .func (PySem.W.fnOf "_law_refused" "_law_refused" (defArgs s__law_refused) (defBody s__law_refused) (defScope s__law_refused) .none kV21 dc21 pm21 an21 cd21 ct21), sl21⟩)
    (c21 : PySem.W.codeIn K cd21 "_law_refused" = true)
    (k21 : PySem.W.keepIn K (.ref f21) = true)
    (l22 : K.lookup f22 = some ⟨oc22, od22, .func (PySem.W.fnOf "_law_rates_right" "_law_rates_right" (defArgs s__law_rates_right) (defBody s__law_rates_right) (defScope s__law_rates_right) .none kV22 dc22 pm22 an22 cd22 ct22), sl22⟩)
    (c22 : PySem.W.codeIn K cd22 "_law_rates_right" = true)
    (k22 : PySem.W.keepIn K (.ref f22) = true)
    (l23 : K.lookup f23 = some ⟨oc23, od23, .func (PySem.W.fnOf "law" "law" (defArgs s_law) (defBody s_law) (defScope s_law) .none kV23 dc23 pm23 an23 cd23 ct23), sl23⟩)
    (c23 : PySem.W.codeIn K cd23 "law" = true)
    (k23 : PySem.W.keepIn K (.ref f23) = true)
    (pg_CR : PySem.W.plainGet K CR Str.empty = true)
    (hd_CR : PySem.W.hasDictIn K CR = true)
    (po_CR : PySem.W.plainOver K CR = true)
    (sa_CR : PySem.W.findIn K (.ref CR) "__setattr__" = some (some (.builtin "object.__setattr__")))
    (mk_CR : PySem.W.makesIn K CR = true)
    (kc_CR : PySem.W.keepIn K (.ref CR) = true)
    (n_CR_rows : PySem.W.findIn K (.ref CR) "_rows" = some none)
    (bE : PySem.W.subIn K (.ref CE) (.type "BaseException") = some true)
    (tE : PySem.W.typeIn K (.ref CE) = some (.type "type"))
    (hE : PySem.W.hasDictIn K CE = true)
    (x_CP : PySem.W.excIn K CP [.type "ValueError", .type "Exception", .type "BaseException", .type "object"] "ValueError.__new__" = true)
    (k_CP : PySem.W.keepIn K (.ref CP) = true)
    (b_CP : PySem.W.subIn K (.ref CP) (.type "BaseException") = some true)
    (t_CP : PySem.W.typeIn K (.ref CP) = some (.type "type"))
    (sD_CP : PySem.W.subIn K (.ref CP) (.ref CE) = some true)
    (sV_CP : PySem.W.subIn K (.ref CP) (.type "ValueError") = some true)
    (eg_CP : PySem.W.findIn K (.ref CP) "__getattribute__" = some (some (.builtin "BaseException.__getattribute__")))
    (ek_CP : PySem.W.findIn K (.ref CP) "__getattr__" = some none)
    (ed_CP : PySem.W.hasDictIn K CP = true)
    (ea_CP : PySem.W.findIn K (.ref CP) "__class__" = some (some (.builtin "object.__class__")))
    (en_CP : PySem.W.specialIn K (.builtin "object.__class__") "__get__" = some (some (.builtin "getset_descriptor.__get__")))
    (et_CP : PySem.W.takesIn K (.builtin "object.__class__") = some true)
    (em_CP : PySem.W.mroIn K CP (.type "object") = some true)
    (x_CN : PySem.W.excIn K CN [.type "ValueError", .type "Exception", .type "BaseException", .type "object"] "ValueError.__new__" = true)
    (k_CN : PySem.W.keepIn K (.ref CN) = true)
    (b_CN : PySem.W.subIn K (.ref CN) (.type "BaseException") = some true)
    (t_CN : PySem.W.typeIn K (.ref CN) = some (.type "type"))
    (sD_CN : PySem.W.subIn K (.ref CN) (.ref CE) = some true)
    (sV_CN : PySem.W.subIn K (.ref CN) (.type "ValueError") = some true)
    (eg_CN : PySem.W.findIn K (.ref CN) "__getattribute__" = some (some (.builtin "BaseException.__getattribute__")))
    (ek_CN : PySem.W.findIn K (.ref CN) "__getattr__" = some none)
    (ed_CN : PySem.W.hasDictIn K CN = true)
    (ea_CN : PySem.W.findIn K (.ref CN) "__class__" = some (some (.builtin "object.__class__")))
    (en_CN : PySem.W.specialIn K (.builtin "object.__class__") "__get__" = some (some (.builtin "getset_descriptor.__get__")))
    (et_CN : PySem.W.takesIn K (.builtin "object.__class__") = some true)
    (em_CN : PySem.W.mroIn K CN (.type "object") = some true)
    (p_notNP : PySem.W.kitOne K (.ref CP) (.ref CN) = some false)
    (p_notPN : PySem.W.kitOne K (.ref CN) (.ref CP) = some false)
    : ∃ fd : FuncData, (∀ (s : Shared) (v : Value), BindsTo s fd ⟨[v], []⟩ [("script", v)]) ∧ ∀ base : Heap, K.In base → base.Ns mainGlobals mg → FnOk P w K mg base CX0 10 fa fd ["script"] (spLaw K) := by
  have e := hfa.symm.trans (PySem.W.mg_of X G a23)
  cases e
  have T : Blt mg := ⟨PySem.W.mg_none_of X G z_len, PySem.W.mg_none_of X G z_isinstance, PySem.W.mg_none_of X G z_str, PySem.W.mg_none_of X G z_int, PySem.W.mg_none_of X G z_list, PySem.W.mg_none_of X G z_tuple, PySem.W.mg_none_of X G z_bool, PySem.W.mg_none_of X G z_range, PySem.W.mg_none_of X G z_abs, PySem.W.mg_none_of X G z_ord, PySem.W.mg_none_of X G z_sorted, PySem.W.mg_none_of X G z_dict, PySem.W.mg_none_of X G z_ValueError, PySem.W.mg_none_of X G z_sum, PySem.W.mg_none_of X G z_max, PySem.W.mg_none_of X G z_min, PySem.W.mg_none_of X G z_reversed⟩
  have F1 := fun_mk (st := s_is_name) l1 c1 k1
  have b1 := F1.binds (ps := ["word"]) fun _ _ _ _ _ _ us hl => match us, hl with | [_], _ => rfl
  have F2 : FunD K "is_number" "is_number" (defArgs s_is_number) (defBody s_is_number) (defScope s_is_number) [.int 0, .int 1000000] [] f2 (PySem.W.fnOf "is_number" "is_number" (defArgs s_is_number) (defBody s_is_number) (defScope s_is_number) (.ref T2) kV2 dc2 pm2 an2 cd2 ct2) := ⟨⟨_, _, _, _, _, _, _, _, _, _, rfl, l2, c2, .inr ⟨by simp, _, _, [.int 0 t2_0, .int 1000000 t2_1], _, rfl, d2, rfl, .cons ⟨_, rfl⟩ (.cons ⟨_, rfl⟩ (.nil))⟩, .inl rfl⟩, k2⟩
  have b2 : Binds K (PySem.W.fnOf "is_number" "is_number" (defArgs s_is_number) (defBody s_is_number) (defScope s_is_number) (.ref T2) kV2 dc2 pm2 an2 cd2 ct2) ["value", "least", "most"] [] := by
    obtain ⟨ds, v, b⟩ := F2.binds1 (ps := ["value", "least", "most"]) 3 2 (by simp) rfl fun T kV doc pm an cdv ct us its hl hi => match us, its, hl, hi with | [_, _, _], [_, _], _, _ => ⟨_, rfl, rfl⟩
    cases v
    exact b
  have F3 := fun_mk (st := s_is_amount) l3 c3 k3
  have b3 := F3.binds (ps := ["value"]) fun _ _ _ _ _ _ us hl => match us, hl with | [_], _ => rfl
  have F4 := fun_mk (st := s_checked_rate) l4 c4 k4
  have b4 := F4.binds (ps := ["rate"]) fun _ _ _ _ _ _ us hl => match us, hl with | [_], _ => rfl
  have F5 := fun_mk (st := s_changed) l5 c5 k5
  have b5 := F5.binds (ps := ["amount", "rate"]) fun _ _ _ _ _ _ us hl => match us, hl with | [_, _], _ => rfl
  have F6 := fun_mk (st := s_rest_of) l6 c6 k6
  have b6 := F6.binds (ps := ["amount", "rate"]) fun _ _ _ _ _ _ us hl => match us, hl with | [_, _], _ => rfl
  have F7 := fun_mk (st := s_checked_weights) l7 c7 k7
  have b7 := F7.binds (ps := ["weights"]) fun _ _ _ _ _ _ us hl => match us, hl with | [_], _ => rfl
  have F8 := fun_mk (st := s_shared) l8 c8 k8
  have b8 := F8.binds (ps := ["amount", "weights"]) fun _ _ _ _ _ _ us hl => match us, hl with | [_, _], _ => rfl
  have F9 := fun_mk (st := s_judge_shared) l9 c9 k9
  have b9 := F9.binds (ps := ["amount", "weights", "told"]) fun _ _ _ _ _ _ us hl => match us, hl with | [_, _, _], _ => rfl
  have F10 := fun_mk (st := s_Rates___init__) l10 c10 k10
  have b10 := F10.binds (ps := ["self"]) fun _ _ _ _ _ _ us hl => match us, hl with | [_], _ => rfl
  have F11 := fun_mk (st := s_Rates_tell) l11 c11 k11
  have b11 := F11.binds (ps := ["self", "day", "one", "other", "rate"]) fun _ _ _ _ _ _ us hl => match us, hl with | [_, _, _, _, _], _ => rfl
  have F12 := fun_mk (st := s_Rates_rate) l12 c12 k12
  have b12 := F12.binds (ps := ["self", "one", "other", "day"]) fun _ _ _ _ _ _ us hl => match us, hl with | [_, _, _, _], _ => rfl
  have F13 := fun_mk (st := s_Rates_rows) l13 c13 k13
  have b13 := F13.binds (ps := ["self"]) fun _ _ _ _ _ _ us hl => match us, hl with | [_], _ => rfl
  have F14 := fun_mk (st := s_Rates_copy) l14 c14 k14
  have b14 := F14.binds (ps := ["self"]) fun _ _ _ _ _ _ us hl => match us, hl with | [_], _ => rfl
  have F15 := fun_mk (st := s__law_same) l15 c15 k15
  have b15 := F15.binds (ps := ["actual", "due"]) fun _ _ _ _ _ _ us hl => match us, hl with | [_, _], _ => rfl
  have F16 := fun_mk (st := s__law_pool) l16 c16 k16
  have b16 := F16.binds (ps := ["script"]) fun _ _ _ _ _ _ us hl => match us, hl with | [_], _ => rfl
  have F17 := fun_mk (st := s__law_draw) l17 c17 k17
  have b17 := F17.binds (ps := ["pool", "many"]) fun _ _ _ _ _ _ us hl => match us, hl with | [_, _], _ => rfl
  have F18 := fun_mk (st := s__law_pick) l18 c18 k18
  have b18 := F18.binds (ps := ["pool", "rows"]) fun _ _ _ _ _ _ us hl => match us, hl with | [_, _], _ => rfl
  have F19 := fun_mk (st := s__law_refusal) l19 c19 k19
  have b19 := F19.binds (ps := ["problem"]) fun _ _ _ _ _ _ us hl => match us, hl with | [_], _ => rfl
  have F20 := fun_mk (st := s__law_good) l20 c20 k20
  have b20 := F20.binds (ps := ["amount", "weights", "told"]) fun _ _ _ _ _ _ us hl => match us, hl with | [_, _, _], _ => rfl
  have F21 := fun_mk (st := s__law_refused) l21 c21 k21
  have b21 := F21.binds (ps := ["choice", "one", "two", "three"]) fun _ _ _ _ _ _ us hl => match us, hl with | [_, _, _, _], _ => rfl
  have F22 := fun_mk (st := s__law_rates_right) l22 c22 k22
  have b22 := F22.binds (ps := ["pool"]) fun _ _ _ _ _ _ us hl => match us, hl with | [_], _ => rfl
  have F23 := fun_mk (st := s_law) l23 c23 k23
  have b23 := F23.binds (ps := ["script"]) fun _ _ _ _ _ _ us hl => match us, hl with | [_], _ => rfl
  have X_CP : ErrT K mg "InvalidPaper" CP := ⟨PySem.W.mg_of X G a_CP, x_CP, k_CP, b_CP, t_CP⟩
  have kV_CP : PySem.W.kitOne K (.ref CP) (.type "ValueError") = some true := by
    show (if (Value.ref CP == Value.type "ValueError") = true then some true else PySem.W.kitCls K (.ref CP) (.type "ValueError")) = some true
    rw [show (Value.ref CP == Value.type "ValueError") = false from rfl, if_neg Bool.false_ne_true]
    show (if PySem.W.kitMeta "ValueError" = true then PySem.W.subIn K (.ref CP) (.type "ValueError") else none) = some true
    rw [if_pos (show PySem.W.kitMeta "ValueError" = true by decide +kernel)]
    exact sV_CP
  have kC_CP : PySem.W.kitOne K (.ref CP) (.ref CP) = some true := if_pos (by simp)
  have Y_CP : CatchT K mg CE CP := ⟨PySem.W.mg_of X G aE, PySem.W.exm_ref bE hE tE sD_CP, ⟨eg_CP, ek_CP, b_CP, ed_CP, ea_CP, en_CP, et_CP, em_CP⟩, kC_CP, kV_CP, PySem.W.mg_none_of X G z_ValueError⟩
  have X_CN : ErrT K mg "InvalidNumber" CN := ⟨PySem.W.mg_of X G a_CN, x_CN, k_CN, b_CN, t_CN⟩
  have kV_CN : PySem.W.kitOne K (.ref CN) (.type "ValueError") = some true := by
    show (if (Value.ref CN == Value.type "ValueError") = true then some true else PySem.W.kitCls K (.ref CN) (.type "ValueError")) = some true
    rw [show (Value.ref CN == Value.type "ValueError") = false from rfl, if_neg Bool.false_ne_true]
    show (if PySem.W.kitMeta "ValueError" = true then PySem.W.subIn K (.ref CN) (.type "ValueError") else none) = some true
    rw [if_pos (show PySem.W.kitMeta "ValueError" = true by decide +kernel)]
    exact sV_CN
  have kC_CN : PySem.W.kitOne K (.ref CN) (.ref CN) = some true := if_pos (by simp)
  have Y_CN : CatchT K mg CE CN := ⟨PySem.W.mg_of X G aE, PySem.W.exm_ref bE hE tE sD_CN, ⟨eg_CN, ek_CN, b_CN, ed_CN, ea_CN, en_CN, et_CN, em_CN⟩, kC_CN, kV_CN, PySem.W.mg_none_of X G z_ValueError⟩
  let M : Nms K mg := { T := T, a_is_name := f1, d_is_name := PySem.W.fnOf "is_name" "is_name" (defArgs s_is_name) (defBody s_is_name) (defScope s_is_name) .none kV1 dc1 pm1 an1 cd1 ct1, b_is_name := b1, k_is_name := k1, F_is_name := F1, g_is_name := PySem.W.mg_of X G a1, a_is_number := f2, d_is_number := PySem.W.fnOf "is_number" "is_number" (defArgs s_is_number) (defBody s_is_number) (defScope s_is_number) (.ref T2) kV2 dc2 pm2 an2 cd2 ct2, b_is_number := b2, k_is_number := k2, F_is_number := ⟨_, F2⟩, g_is_number := PySem.W.mg_of X G a2, a_is_amount := f3, d_is_amount := PySem.W.fnOf "is_amount" "is_amount" (defArgs s_is_amount) (defBody s_is_amount) (defScope s_is_amount) .none kV3 dc3 pm3 an3 cd3 ct3, b_is_amount := b3, k_is_amount := k3, F_is_amount := F3, g_is_amount := PySem.W.mg_of X G a3, a_checked_rate := f4, d_checked_rate := PySem.W.fnOf "checked_rate" "checked_rate" (defArgs s_checked_rate) (defBody s_checked_rate) (defScope s_checked_rate) .none kV4 dc4 pm4 an4 cd4 ct4, b_checked_rate := b4, k_checked_rate := k4, F_checked_rate := F4, g_checked_rate := PySem.W.mg_of X G a4, a_changed := f5, d_changed := PySem.W.fnOf "changed" "changed" (defArgs s_changed) (defBody s_changed) (defScope s_changed) .none kV5 dc5 pm5 an5 cd5 ct5, b_changed := b5, k_changed := k5, F_changed := F5, g_changed := PySem.W.mg_of X G a5, a_rest_of := f6, d_rest_of := PySem.W.fnOf "rest_of" "rest_of" (defArgs s_rest_of) (defBody s_rest_of) (defScope s_rest_of) .none kV6 dc6 pm6 an6 cd6 ct6, b_rest_of := b6, k_rest_of := k6, F_rest_of := F6, g_rest_of := PySem.W.mg_of X G a6, a_checked_weights := f7, d_checked_weights := PySem.W.fnOf "checked_weights" "checked_weights" (defArgs s_checked_weights) (defBody s_checked_weights) (defScope s_checked_weights) .none kV7 dc7 pm7 an7 cd7 ct7, b_checked_weights := b7, k_checked_weights := k7, F_checked_weights := F7, g_checked_weights := PySem.W.mg_of X G a7, a_shared := f8, d_shared := PySem.W.fnOf "shared" "shared" (defArgs s_shared) (defBody s_shared) (defScope s_shared) .none kV8 dc8 pm8 an8 cd8 ct8, b_shared := b8, k_shared := k8, F_shared := F8, g_shared := PySem.W.mg_of X G a8, a_judge_shared := f9, d_judge_shared := PySem.W.fnOf "judge_shared" "judge_shared" (defArgs s_judge_shared) (defBody s_judge_shared) (defScope s_judge_shared) .none kV9 dc9 pm9 an9 cd9 ct9, b_judge_shared := b9, k_judge_shared := k9, F_judge_shared := F9, g_judge_shared := PySem.W.mg_of X G a9, a_Rates___init__ := f10, d_Rates___init__ := PySem.W.fnOf "__init__" "Rates.__init__" (defArgs s_Rates___init__) (defBody s_Rates___init__) (defScope s_Rates___init__) .none kV10 dc10 pm10 an10 cd10 ct10, b_Rates___init__ := b10, k_Rates___init__ := k10, F_Rates___init__ := F10, a_Rates_tell := f11, d_Rates_tell := PySem.W.fnOf "tell" "Rates.tell" (defArgs s_Rates_tell) (defBody s_Rates_tell) (defScope s_Rates_tell) .none kV11 dc11 pm11 an11 cd11 ct11, b_Rates_tell := b11, k_Rates_tell := k11, F_Rates_tell := F11, a_Rates_rate := f12, d_Rates_rate := PySem.W.fnOf "rate" "Rates.rate" (defArgs s_Rates_rate) (defBody s_Rates_rate) (defScope s_Rates_rate) .none kV12 dc12 pm12 an12 cd12 ct12, b_Rates_rate := b12, k_Rates_rate := k12, F_Rates_rate := F12, a_Rates_rows := f13, d_Rates_rows := PySem.W.fnOf "rows" "Rates.rows" (defArgs s_Rates_rows) (defBody s_Rates_rows) (defScope s_Rates_rows) .none kV13 dc13 pm13 an13 cd13 ct13, b_Rates_rows := b13, k_Rates_rows := k13, F_Rates_rows := F13, a_Rates_copy := f14, d_Rates_copy := PySem.W.fnOf "copy" "Rates.copy" (defArgs s_Rates_copy) (defBody s_Rates_copy) (defScope s_Rates_copy) .none kV14 dc14 pm14 an14 cd14 ct14, b_Rates_copy := b14, k_Rates_copy := k14, F_Rates_copy := F14, a__law_same := f15, d__law_same := PySem.W.fnOf "_law_same" "_law_same" (defArgs s__law_same) (defBody s__law_same) (defScope s__law_same) .none kV15 dc15 pm15 an15 cd15 ct15, b__law_same := b15, k__law_same := k15, F__law_same := F15, g__law_same := PySem.W.mg_of X G a15, a__law_pool := f16, d__law_pool := PySem.W.fnOf "_law_pool" "_law_pool" (defArgs s__law_pool) (defBody s__law_pool) (defScope s__law_pool) .none kV16 dc16 pm16 an16 cd16 ct16, b__law_pool := b16, k__law_pool := k16, F__law_pool := F16, g__law_pool := PySem.W.mg_of X G a16, a__law_draw := f17, d__law_draw := PySem.W.fnOf "_law_draw" "_law_draw" (defArgs s__law_draw) (defBody s__law_draw) (defScope s__law_draw) .none kV17 dc17 pm17 an17 cd17 ct17, b__law_draw := b17, k__law_draw := k17, F__law_draw := F17, g__law_draw := PySem.W.mg_of X G a17, a__law_pick := f18, d__law_pick := PySem.W.fnOf "_law_pick" "_law_pick" (defArgs s__law_pick) (defBody s__law_pick) (defScope s__law_pick) .none kV18 dc18 pm18 an18 cd18 ct18, b__law_pick := b18, k__law_pick := k18, F__law_pick := F18, g__law_pick := PySem.W.mg_of X G a18, a__law_refusal := f19, d__law_refusal := PySem.W.fnOf "_law_refusal" "_law_refusal" (defArgs s__law_refusal) (defBody s__law_refusal) (defScope s__law_refusal) .none kV19 dc19 pm19 an19 cd19 ct19, b__law_refusal := b19, k__law_refusal := k19, F__law_refusal := F19, g__law_refusal := PySem.W.mg_of X G a19, a__law_good := f20, d__law_good := PySem.W.fnOf "_law_good" "_law_good" (defArgs s__law_good) (defBody s__law_good) (defScope s__law_good) .none kV20 dc20 pm20 an20 cd20 ct20, b__law_good := b20, k__law_good := k20, F__law_good := F20, g__law_good := PySem.W.mg_of X G a20, a__law_refused := f21, d__law_refused := PySem.W.fnOf "_law_refused" "_law_refused" (defArgs s__law_refused) (defBody s__law_refused) (defScope s__law_refused) .none kV21 dc21 pm21 an21 cd21 ct21, b__law_refused := b21, k__law_refused := k21, F__law_refused := F21, g__law_refused := PySem.W.mg_of X G a21, a__law_rates_right := f22, d__law_rates_right := PySem.W.fnOf "_law_rates_right" "_law_rates_right" (defArgs s__law_rates_right) (defBody s__law_rates_right) (defScope s__law_rates_right) .none kV22 dc22 pm22 an22 cd22 ct22, b__law_rates_right := b22, k__law_rates_right := k22, F__law_rates_right := F22, g__law_rates_right := PySem.W.mg_of X G a22, a_law := fa, d_law := PySem.W.fnOf "law" "law" (defArgs s_law) (defBody s_law) (defScope s_law) .none kV23 dc23 pm23 an23 cd23 ct23, b_law := b23, k_law := k23, F_law := F23, g_law := PySem.W.mg_of X G a23, CR := CR, gR := PySem.W.mg_of X G g_CR, clR := ⟨pg_CR, hd_CR, po_CR, sa_CR⟩, mkR := ⟨mk_CR, a10, i10, kc_CR⟩, nR_rows := n_CR_rows, m_Rates_tell := ⟨a11, i11, k11⟩, m_Rates_rate := ⟨a12, i12, k12⟩, m_Rates_rows := ⟨a13, i13, k13⟩, m_Rates_copy := ⟨a14, i14, k14⟩, CE := CE, CP := CP, XP := X_CP, YP := Y_CP, CN := CN, XN := X_CN, YN := Y_CN, notNP := p_notNP, notPN := p_notPN, cLET := ⟨_, PySem.W.mg_of X G n_LETTERS⟩, cLON := ⟨_, PySem.W.mg_of X G n_LONGEST⟩, cAM := ⟨_, PySem.W.mg_of X G n_AMOUNT⟩, cMO := ⟨_, PySem.W.mg_of X G n_MOST⟩ }
  exact ⟨M.d_law, fun s v => .of_eq rfl, fun base _ _ => ok_law M⟩
theorem walk {l : PySem.W.OpenLaw} {q : Program} {loose : List Str} {XP : (Str → Option Value) → Heap → Prop} {YP : World → Heap → Prop} {d : DefRec} {K : Params → PySem.W.Frag} (hn : l.most = some 63) (hdf : d.params.defaults = [])
    (hY : ∀ (w : World) (h : Heap), YP w h → (K w.params).In h)
    (F : ∀ (w : World) (mg : Str → Option Value) (fa : Addr) (h : Heap), (K w.params).In h → h.Ns mainGlobals mg → mg d.name = some (.ref fa) →
      ∃ fd : FuncData, (∀ (s : Shared) (u : Value), BindsTo s fd ⟨[u], []⟩ [("script", u)]) ∧ ∀ base : Heap, (K w.params).In base → base.Ns mainGlobals mg → FnOk l.prog w (K w.params) mg base CX0 10 fa fd ["script"] (spLaw (K w.params))) :
    PySem.W.WalkO q loose XP YP l.row.toRowW d [] (fun f vs => PySem.call f vs) :=
  L2.walk_of (n := 63) (k := 10) (x := "script") (CX := fun _ => CX0) (sp := fun w => spLaw (K w.params)) hn (by decide) hdf ⟨rfl, by decide, by decide⟩ hY F (fun _ _ a ns hl _ hS => ⟨a, ns, rfl, hS, hl, fun _ => rfl⟩) fun _ _ _ _ _ z => z
end K78


open PySem PySem.W PyProof.Rows in
set_option maxRecDepth 100000 in
set_option maxHeartbeats 0 in
theorem PySem.Challenge.cw_desksagree_k78_shares_that_lose_nothing_holds : PySem.Challenge.rw_desksagree_k78_shares_that_lose_nothing.Holds := by
  w_on; o_law; k_head; (case hw => w_witness2)
  k_fill
  refine K78.walk (l := PySem.Challenge.rw_desksagree_k78_shares_that_lose_nothing) rfl rfl (fun w h Y => PySem.W.kIn_of Y) ?F
  case F =>
    intro w mg fa h KX G hmg
    refine' K78.all_mk KX G hmg ?a1 ?a2 ?a3 ?a4 ?a5 ?a6 ?a7 ?a8 ?a9 ?a15 ?a16 ?a17 ?a18 ?a19 ?a20 ?a21 ?a22 ?a23 ?g_CR ?aE ?a_CP ?a_CN ?z_len ?z_isinstance ?z_str ?z_int ?z_list ?z_tuple ?z_bool ?z_range ?z_abs ?z_ord ?z_sorted ?z_dict ?z_ValueError ?z_sum ?z_max ?z_min ?z_reversed ?n_LETTERS ?n_LONGEST ?n_AMOUNT ?n_MOST ?l1 ?c1 ?k1 ?l2 ?c2 ?k2 ?d2 ?l3 ?c3 ?k3 ?l4 ?c4 ?k4 ?l5 ?c5 ?k5 ?l6 ?c6 ?k6 ?l7 ?c7 ?k7 ?l8 ?c8 ?k8 ?l9 ?c9 ?k9 ?a10 ?i10 ?l10 ?c10 ?k10 ?a11 ?i11 ?l11 ?c11 ?k11 ?a12 ?i12 ?l12 ?c12 ?k12 ?a13 ?i13 ?l13 ?c13 ?k13 ?a14 ?i14 ?l14 ?c14 ?k14 ?l15 ?c15 ?k15 ?l16 ?c16 ?k16 ?l17 ?c17 ?k17 ?l18 ?c18 ?k18 ?l19 ?c19 ?k19 ?l20 ?c20 ?k20 ?l21 ?c21 ?k21 ?l22 ?c22 ?k22 ?l23 ?c23 ?k23 ?pg_CR ?hd_CR ?po_CR ?sa_CR ?mk_CR ?kc_CR ?n_CR_rows ?bE ?tE ?hE ?x_CP ?k_CP ?b_CP ?t_CP ?sD_CP ?sV_CP ?eg_CP ?ek_CP ?ed_CP ?ea_CP ?en_CP ?et_CP ?em_CP ?x_CN ?k_CN ?b_CN ?t_CN ?sD_CN ?sV_CN ?eg_CN ?ek_CN ?ed_CN ?ea_CN ?en_CN ?et_CN ?em_CN ?p_notNP ?p_notPN
    (case a1 => k_is)
    (case a2 => k_is)
    (case a3 => k_is)
    (case a4 => k_is)
    (case a5 => k_is)
    (case a6 => k_is)
    (case a7 => k_is)
    (case a8 => k_is)
    (case a9 => k_is)
    (case a15 => k_is)
    (case a16 => k_is)
    (case a17 => k_is)
    (case a18 => k_is)
    (case a19 => k_is)
    (case a20 => k_is)
    (case a21 => k_is)
    (case a22 => k_is)
    (case a23 => k_is)
    (case g_CR => k_is)
    (case aE => k_is)
    (case a_CP => k_is)
    (case a_CN => k_is)
    (case z_len => k_is)
    (case z_isinstance => k_is)
    (case z_str => k_is)
    (case z_int => k_is)
    (case z_list => k_is)
    (case z_tuple => k_is)
    (case z_bool => k_is)
    (case z_range => k_is)
    (case z_abs => k_is)
    (case z_ord => k_is)
    (case z_sorted => k_is)
    (case z_dict => k_is)
    (case z_ValueError => k_is)
    (case z_sum => k_is)
    (case z_max => k_is)
    (case z_min => k_is)
    (case z_reversed => k_is)
    (case n_LETTERS => k_is)
    (case n_LONGEST => k_is)
    (case n_AMOUNT => k_is)
    (case n_MOST => k_is)
    (case l1 => k_is)
    (case c1 => k_is)
    (case k1 => k_is)
    (case l2 => k_is)
    (case c2 => k_is)
    (case k2 => k_is)
    (case d2 => k_is)
    (case l3 => k_is)
    (case c3 => k_is)
    (case k3 => k_is)
    (case l4 => k_is)
    (case c4 => k_is)
    (case k4 => k_is)
    (case l5 => k_is)
    (case c5 => k_is)
    (case k5 => k_is)
    (case l6 => k_is)
    (case c6 => k_is)
    (case k6 => k_is)
    (case l7 => k_is)
    (case c7 => k_is)
    (case k7 => k_is)
    (case l8 => k_is)
    (case c8 => k_is)
    (case k8 => k_is)
    (case l9 => k_is)
    (case c9 => k_is)
    (case k9 => k_is)
    (case a10 => k_is)
    (case i10 => k_is)
    (case l10 => k_is)
    (case c10 => k_is)
    (case k10 => k_is)
    (case a11 => k_is)
    (case i11 => k_is)
    (case l11 => k_is)
    (case c11 => k_is)
    (case k11 => k_is)
    (case a12 => k_is)
    (case i12 => k_is)
    (case l12 => k_is)
    (case c12 => k_is)
    (case k12 => k_is)
    (case a13 => k_is)
    (case i13 => k_is)
    (case l13 => k_is)
    (case c13 => k_is)
    (case k13 => k_is)
    (case a14 => k_is)
    (case i14 => k_is)
    (case l14 => k_is)
    (case c14 => k_is)
    (case k14 => k_is)
    (case l15 => k_is)
    (case c15 => k_is)
    (case k15 => k_is)
    (case l16 => k_is)
    (case c16 => k_is)
    (case k16 => k_is)
    (case l17 => k_is)
    (case c17 => k_is)
    (case k17 => k_is)
    (case l18 => k_is)
    (case c18 => k_is)
    (case k18 => k_is)
    (case l19 => k_is)
    (case c19 => k_is)
    (case k19 => k_is)
    (case l20 => k_is)
    (case c20 => k_is)
    (case k20 => k_is)
    (case l21 => k_is)
    (case c21 => k_is)
    (case k21 => k_is)
    (case l22 => k_is)
    (case c22 => k_is)
    (case k22 => k_is)
    (case l23 => k_is)
    (case c23 => k_is)
    (case k23 => k_is)
    (case pg_CR => k_is)
    (case hd_CR => k_is)
    (case po_CR => k_is)
    (case sa_CR => k_is)
    (case mk_CR => k_is)
    (case kc_CR => k_is)
    (case n_CR_rows => k_is)
    (case bE => k_is)
    (case tE => k_is)
    (case hE => k_is)
    (case x_CP => k_exc)
    (case k_CP => k_is)
    (case b_CP => k_is)
    (case t_CP => k_is)
    (case sD_CP => first | rfl | k_is)
    (case sV_CP => k_is)
    (case eg_CP => k_is)
    (case ek_CP => k_is)
    (case ed_CP => k_is)
    (case ea_CP => k_is)
    (case en_CP => k_is)
    (case et_CP => k_is)
    (case em_CP => k_is)
    (case x_CN => k_exc)
    (case k_CN => k_is)
    (case b_CN => k_is)
    (case t_CN => k_is)
    (case sD_CN => first | rfl | k_is)
    (case sV_CN => k_is)
    (case eg_CN => k_is)
    (case ek_CN => k_is)
    (case ed_CN => k_is)
    (case ea_CN => k_is)
    (case en_CN => k_is)
    (case et_CN => k_is)
    (case em_CN => k_is)
    (case p_notNP => kit_is)
    (case p_notPN => kit_is)

