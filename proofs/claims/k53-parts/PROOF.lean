import PyProof.Rows.All
import Wide.All
import OpenK.AllK
import Wide.FinOn
import HandS.ForMost
import HandS.Exc
import HandS.TryOnly
import HandS.ExcOwn
import HandS.WordsExc
import HandS.ExcIs
import HandS.IsInst
import HandS.StrMore
import HandS.Wide
import HandS.TupAny
import HandS.Flow
import HandS.TupLe
import HandS.HotCalls
import HandS.ExcCtx
import HandS.Defaults
import HandS.WordsDict
import HandS.More
import HandS.NoneIn
import HandS.RaiseMore
import HandS.CallRecv
import PySem.Challenge.RW_desksagree_k53_parts_of_logs
import KE.RegKIsAll
set_option Elab.async false
set_option maxRecDepth 100000
set_option maxHeartbeats 8000000
namespace K53
open PySem PySem.Spec PyProof.Rows L2
def top (i : Nat) : Stmt := PySem.Challenge.pw_desksagree_k53_parts_of_logs.main.body.getD i (.Pass ⟨0, 0, 0, 0⟩)
abbrev s_is_number : Stmt := top 8
abbrev s_checked_number : Stmt := top 9
abbrev s_Disk___init__ : Stmt := inClass (top 12) 0
abbrev s_Disk_names : Stmt := inClass (top 12) 1
abbrev s_Disk__file : Stmt := inClass (top 12) 3
abbrev s_Disk_read : Stmt := inClass (top 12) 4
abbrev s_Disk_size : Stmt := inClass (top 12) 5
abbrev s_Disk_make : Stmt := inClass (top 12) 7
abbrev s_Disk__change : Stmt := inClass (top 12) 8
abbrev s_Disk_write : Stmt := inClass (top 12) 9
abbrev s_Disk_sync : Stmt := inClass (top 12) 10
abbrev s_Disk_sync_names : Stmt := inClass (top 12) 11
abbrev s_Disk_remove : Stmt := inClass (top 12) 13
abbrev s_Disk_cut : Stmt := inClass (top 12) 14
abbrev s_Disk_copy : Stmt := inClass (top 12) 18
abbrev s_applied : Stmt := top 13
abbrev s_check_of : Stmt := top 18
abbrev s_checked_text : Stmt := top 19
abbrev s_framed : Stmt := top 20
abbrev s__number : Stmt := top 21
abbrev s_one_frame : Stmt := top 22
abbrev s_read_frames : Stmt := top 23
abbrev s_part_name : Stmt := top 27
abbrev s_part_names : Stmt := top 28
abbrev s_is_part : Stmt := top 29
abbrev s_first_of : Stmt := top 30
abbrev s_Log___init__ : Stmt := inClass (top 31) 0
abbrev s_Log__begin : Stmt := inClass (top 31) 1
abbrev s_Log__found : Stmt := inClass (top 31) 2
abbrev s_Log_first : Stmt := inClass (top 31) 3
abbrev s_Log_next : Stmt := inClass (top 31) 4
abbrev s_Log_add : Stmt := inClass (top 31) 8
abbrev s_Log_sync : Stmt := inClass (top 31) 9
abbrev s_Log_text : Stmt := inClass (top 31) 10
abbrev s_Log_texts : Stmt := inClass (top 31) 11
abbrev s_Log_parts : Stmt := inClass (top 31) 13
abbrev s_new_log : Stmt := top 32
abbrev s__law_same : Stmt := top 34
abbrev s__law_pool : Stmt := top 35
abbrev s__law_draw : Stmt := top 36
abbrev s__law_pick : Stmt := top 37
abbrev s__law_refusal : Stmt := top 38
abbrev s__law_refused : Stmt := top 39
abbrev s_law : Stmt := top 40
structure Blt (mg : Str → Option Value) : Prop where
  b_len : mg "len" = none
  b_isinstance : mg "isinstance" = none
  b_str : mg "str" = none
  b_int : mg "int" = none
  b_list : mg "list" = none
  b_tuple : mg "tuple" = none
  b_bool : mg "bool" = none
  b_range : mg "range" = none
  b_abs : mg "abs" = none
  b_ord : mg "ord" = none
  b_sorted : mg "sorted" = none
  b_dict : mg "dict" = none
  b_ValueError : mg "ValueError" = none
abbrev tl (x : Str) : List Nat := x.cps.toList
abbrev mkS (l : List Nat) : Str := ⟨l.toArray⟩
theorem mkS_tl (x : Str) : mkS (tl x) = x := by cases x; rfl
theorem tl_mkS (l : List Nat) : tl (mkS l) = l := rfl
theorem len_tl (x : Str) : x.length = (tl x).length := by simp [Str.length, tl]
theorem cut_nat (x : Str) (a b : Nat) (h : b ≤ (tl x).length) : cutS x (some (a : Int)) (some (b : Int)) = mkS (((tl x).drop a).take (b - a)) := by
  have hn : x.length = (tl x).length := len_tl x
  have e1 : HT.sIx x.length 0 (some (a : Int)) = min a x.length := by
    show (if ((a : Int)) < 0 then ((a : Int) + (x.length : Int)).toNat else min ((a : Int)).toNat x.length) = _
    rw [if_neg (by omega)]; rfl
  have e2 : HT.sIx x.length x.length (some (b : Int)) = b := by
    show (if ((b : Int)) < 0 then ((b : Int) + (x.length : Int)).toNat else min ((b : Int)).toNat x.length) = _
    rw [if_neg (by omega)]
    show min b x.length = b
    omega
  show (⟨((x.cps.toList.drop (HT.sIx x.length 0 (some (a : Int)))).take (HT.sIx x.length x.length (some (b : Int)) - HT.sIx x.length 0 (some (a : Int)))).toArray⟩ : Str) = _
  rw [e1, e2]
  by_cases ha : a ≤ x.length
  · rw [Nat.min_eq_left ha]
  · have z : (tl x).length ≤ a := by omega
    have e3 : ((tl x).drop a).take (b - a) = [] := by rw [List.drop_eq_nil_of_le z, List.take_nil]
    have e4 : (x.cps.toList.drop (min a x.length)).take (b - min a x.length) = [] := by
      rw [List.drop_eq_nil_of_le (by show (tl x).length ≤ _; omega), List.take_nil]
    rw [e3, e4]
theorem cut_any (x : Str) (a b : Nat) : cutS x (some (a : Int)) (some (b : Int)) = mkS (((tl x).drop a).take (b - a)) := by
  by_cases h : b ≤ (tl x).length
  · exact cut_nat x a b h
  · have hn : x.length = (tl x).length := len_tl x
    have e1 : HT.sIx x.length 0 (some (a : Int)) = min a x.length := by
      show (if ((a : Int)) < 0 then ((a : Int) + (x.length : Int)).toNat else min ((a : Int)).toNat x.length) = _
      rw [if_neg (by omega)]; rfl
    have e2 : HT.sIx x.length x.length (some (b : Int)) = x.length := by
      show (if ((b : Int)) < 0 then ((b : Int) + (x.length : Int)).toNat else min ((b : Int)).toNat x.length) = _
      rw [if_neg (by omega)]
      show min b x.length = x.length
      omega
    show (⟨((x.cps.toList.drop (HT.sIx x.length 0 (some (a : Int)))).take (HT.sIx x.length x.length (some (b : Int)) - HT.sIx x.length 0 (some (a : Int)))).toArray⟩ : Str) = _
    rw [e1, e2]
    by_cases ha : a ≤ x.length
    · rw [Nat.min_eq_left ha]
      show mkS (((tl x).drop a).take (x.length - a)) = _
      have hd : ((tl x).drop a).length = (tl x).length - a := List.length_drop
      rw [List.take_of_length_le (by omega), List.take_of_length_le (by omega)]
    · have z : (tl x).length ≤ a := by omega
      have e3 : ((tl x).drop a).take (b - a) = [] := by rw [List.drop_eq_nil_of_le z, List.take_nil]
      have e4 : (x.cps.toList.drop (min a x.length)).take (x.length - min a x.length) = [] := by
        rw [List.drop_eq_nil_of_le (by show (tl x).length ≤ _; omega), List.take_nil]
      rw [e3, e4]
def upto (c : Nat) (l : List Nat) : List Nat := l.takeWhile fun d => decide (d ≠ c)
theorem upto_le (c : Nat) (l : List Nat) : (upto c l).length ≤ l.length := by
  induction l with
  | nil => exact Nat.le_refl _
  | cons d r ih =>
    unfold upto at ih ⊢
    rw [List.takeWhile_cons]
    split
    · simpa using ih
    · simp
theorem upto_take (c : Nat) (l : List Nat) : l.take (upto c l).length = upto c l := by
  induction l with
  | nil => rfl
  | cons d r ih =>
    unfold upto at ih ⊢
    rw [List.takeWhile_cons]
    split
    · simp only [List.length_cons, List.take_succ_cons]; rw [ih]
    · rfl
theorem occ_full (s sub : Str) (hi : Nat) : ∀ (l : List Nat) (st : Array Nat × Nat), 1 ≤ st.fst.size → (forIn l st (StrLaws.occBody s sub hi 1)).run = st
  | [], st, h => rfl
  | a :: l, st, h => by
    rw [List.forIn_cons]
    unfold StrLaws.occBody
    rw [if_neg (fun z => by have := z.1.1.1; omega)]
    exact occ_full s sub hi l st h
theorem occ_run (x : Str) (c : Nat) : ∀ (n a f : Nat), a + n = x.length + 1 → f ≤ a →
    (forIn (List.range' a n) ((#[] : Array Nat), f) (StrLaws.occBody x ⟨#[c]⟩ x.length 1)).run.fst.toList =
      if (upto c ((tl x).drop a)).length < ((tl x).drop a).length then [a + (upto c ((tl x).drop a)).length] else []
  | 0, a, f, h, hf => by
    have hx : x.length = (tl x).length := len_tl x
    have e : (tl x).drop a = [] := List.drop_eq_nil_of_le (by omega)
    rw [e]
    rfl
  | n + 1, a, f, h, hf => by
    have hx : x.length = (tl x).length := len_tl x
    rw [List.range'_succ, List.forIn_cons]
    have key := StrLaws.subAt_one x c a
    by_cases hc : (tl x)[a]? = some c
    · have z := key.mpr hc
      have hlt : a < (tl x).length := (List.getElem?_eq_some_iff.mp hc).1
      unfold StrLaws.occBody
      rw [if_pos ⟨⟨⟨by simp, hf⟩, z.1⟩, z.2⟩]
      show ((forIn (List.range' (a + 1) n) ((#[] : Array Nat).push a, a + (⟨#[c]⟩ : Str).length) (StrLaws.occBody x ⟨#[c]⟩ x.length 1)).run).fst.toList = _
      rw [occ_full _ _ _ _ _ (by simp)]
      have e : (tl x).drop a = c :: (tl x).drop (a + 1) := by
        rw [List.drop_eq_getElem_cons hlt]
        rw [(List.getElem?_eq_some_iff.mp hc).2]
      rw [e]
      unfold upto
      rw [List.takeWhile_cons, if_neg (show ¬ decide (c ≠ c) = true by simp)]
      simp
    · have hn : ¬ ((((((#[] : Array Nat), f) : Array Nat × Nat).fst.size < 1 ∧ (((#[] : Array Nat), f) : Array Nat × Nat).snd ≤ a) ∧ a + (⟨#[c]⟩ : Str).length ≤ x.length) ∧ Builtin.Str.subAt x ⟨#[c]⟩ a = true) := fun z => hc (key.mp ⟨z.1.2, z.2⟩)
      have e1 : StrLaws.occBody x ⟨#[c]⟩ x.length 1 a ((#[] : Array Nat), f) = pure (ForInStep.yield ((#[] : Array Nat), f)) := by
        unfold StrLaws.occBody
        rw [if_neg hn]
      rw [e1]
      show ((forIn (List.range' (a + 1) n) ((#[] : Array Nat), f) (StrLaws.occBody x ⟨#[c]⟩ x.length 1)).run).fst.toList = _
      rw [occ_run x c n (a + 1) f (by omega) (by omega)]
      by_cases hlt : a < (tl x).length
      · have e : (tl x).drop a = (tl x)[a] :: (tl x).drop (a + 1) := List.drop_eq_getElem_cons hlt
        have hd : (tl x)[a] ≠ c := fun z => hc (by rw [List.getElem?_eq_getElem hlt, z])
        have e2 : upto c ((tl x).drop a) = (tl x)[a] :: upto c ((tl x).drop (a + 1)) := by
          rw [e]
          unfold upto
          rw [List.takeWhile_cons, if_pos (by simpa using hd)]
        rw [e2, e]
        simp only [List.length_cons, Nat.add_lt_add_iff_right]
        split
        · congr 1; omega
        · rfl
      · have e : (tl x).drop a = [] := List.drop_eq_nil_of_le (by omega)
        have e3 : (tl x).drop (a + 1) = [] := List.drop_eq_nil_of_le (by omega)
        rw [e, e3]
        rfl
theorem find_one (x : Str) (c a : Nat) (ha : a ≤ (tl x).length) : Txt.find3 x ⟨#[c]⟩ (a : Int) = if (upto c ((tl x).drop a)).length < ((tl x).drop a).length then ((a + (upto c ((tl x).drop a)).length : Nat) : Int) else -1 := by
  have hx : x.length = (tl x).length := len_tl x
  have e0 : fromIndex x.length (a : Int) = a := by
    unfold fromIndex
    rw [if_neg (by omega)]
    omega
  unfold Txt.find3
  rw [e0, StrLaws.occ_eq, occ_run x c _ a a (by omega) (Nat.le_refl _)]
  by_cases h : (upto c ((tl x).drop a)).length < ((tl x).drop a).length
  · rw [if_pos h, if_pos h]
  · rw [if_neg h, if_neg h]
theorem lc_str {x : Str} {g : TG} {tt : TT} {te : TE} {vs : List Nat} {σ : L2.St} {H1 : Hp} {D : Addr} {Qd : Hp → Prop} (Pv : Nat → Hp → Prop) (h0 : Pv 0 (upd H1 D (.lst [])))
    (hs : ∀ i c H, (tl x)[i]? = some c → Pv i H → g (.str ⟨#[c]⟩) (wipe σ vs) H fun σ2 H2 => wipe σ2 vs = wipe σ vs ∧ tt σ2 H2 fun b H3 =>
      if b = true then te σ2 H3 fun y H4 => ∃ acc, H4 D = some (.lst acc) ∧ acc.length < sizeLine ∧ Pv (i + 1) (upd H4 D (.lst (acc ++ [y]))) else Pv (i + 1) H3) (hd : ∀ H, Pv (tl x).length H → Qd H) :
    ∃ W : Nat → Nat → Hp → Prop, (∃ m, W 0 m (upd H1 D (.lst []))) ∧ ∀ i m H, W i m H →
      ((Its x).stop i H ∧ Qd H) ∨ ((Its x).go i H ∧ ∃ Nx : Hp → Prop, (∀ H', Nx H' → ∃ m', m' < m ∧ W (i + 1) m' H') ∧ ∀ v H', (Its x).yld i H v H' → g v (wipe σ vs) H' fun σ2 H2 => wipe σ2 vs = wipe σ vs ∧ tt σ2 H2 fun b H3 =>
        if b = true then te σ2 H3 fun y H4 => ∃ acc, H4 D = some (.lst acc) ∧ acc.length < sizeLine ∧ Nx (upd H4 D (.lst (acc ++ [y]))) else Nx H3) := by
  have hx : x.cps.size = (tl x).length := by simp [tl]
  refine ⟨fun i m H => m = (tl x).length - i ∧ i ≤ (tl x).length ∧ Pv i H, ⟨(tl x).length, by simp, Nat.zero_le _, h0⟩, ?_⟩
  rintro i m H ⟨rfl, hi, p⟩
  by_cases hlt : i < (tl x).length
  · refine .inr ⟨(by show i < x.cps.size; omega), Pv (i + 1), fun H' p' => ⟨(tl x).length - (i + 1), by omega, rfl, hlt, p'⟩, fun v H' y => ?_⟩
    obtain ⟨e, c, hc, ev⟩ := y
    subst e
    subst ev
    exact hs i c _ (by rw [Array.getElem?_toList]; exact hc) p
  · have e : i = (tl x).length := by omega
    subst e
    exact .inl ⟨(by show x.cps.size ≤ _; omega), hd H p⟩
structure ErrT (K : PySem.W.Frag) (mg : Str → Option Value) (x : Str) (C : Addr) : Prop where
  gP : mg x = some (.ref C)
  xP : PySem.W.excIn K C [.type "ValueError", .type "Exception", .type "BaseException", .type "object"] "ValueError.__new__" = true
  kP : PySem.W.keepIn K (.ref C) = true
  bP : PySem.W.subIn K (.ref C) (.type "BaseException") = some true
  tP : PySem.W.typeIn K (.ref C) = some (.type "type")
theorem le1 (a b : Nat) : (!decide (([a] : List Nat) < [b])) = decide (b ≤ a) := by
  by_cases h : a < b
  · have e1 : ([a] : List Nat) < [b] := List.Lex.rel h
    rw [decide_eq_true e1, decide_eq_false (by omega)]; rfl
  · have e1 : ¬ ([a] : List Nat) < [b] := by
      intro z
      cases z with
      | cons z => cases z
      | rel z => exact h z
    rw [decide_eq_false e1, decide_eq_true (by omega)]; rfl
theorem take_snoc {α : Type} : ∀ {l : List α} {i : Nat} {x : α}, l[i]? = some x → l.take (i + 1) = l.take i ++ [x]
  | [], i, x, h => by simp at h
  | a :: l, 0, x, h => by
    have e : a = x := Option.some.inj h
    subst e
    rfl
  | a :: l, i + 1, x, h => by
    have ih := take_snoc (l := l) (i := i) (x := x) h
    show a :: l.take (i + 1) = a :: l.take i ++ [x]
    rw [ih]
    rfl
theorem one_eq (c d : Nat) : decide (V.str ⟨#[c]⟩ = V.str ⟨#[d]⟩) = decide (c = d) := by
  by_cases h : c = d
  · subst h; simp
  · rw [decide_eq_false h, decide_eq_false]
    intro e
    have := V.str.inj e
    simp at this
    exact h this
theorem sz1 {n : Nat} (h : n ≤ sizeLine) (m : Nat) (hm : m < n) : m < sizeLine := Nat.lt_of_lt_of_le hm h
theorem same_upd {H H1 : Hp} {p : Addr} {o : HO} (s : Same H H1) (hp : H1 p = none) : Same H (upd H1 p o) := fun b u e => by
  rw [upd_ne (ne_of_none (s b u e) hp)]
  exact s b u e
theorem inV_strs (s : Str) (L : List Str) : inV (V.str s) (L.map V.str) = L.any fun y => y == s := by
  unfold inV
  rw [List.any_map]
  rfl
theorem flat_strs (L : List Str) : (L.map V.str).all flatV = true := by
  rw [List.all_map]
  exact List.all_eq_true.mpr fun _ _ => rfl
theorem strs_at {L : List Str} {i : Nat} {y : V} (h : (L.map V.str)[i]? = some y) : ∃ s, L[i]? = some s ∧ y = V.str s := by
  rw [List.getElem?_map] at h
  cases e : L[i]? with
  | none => rw [e] at h; cases h
  | some s => rw [e] at h; exact ⟨s, rfl, (Option.some.inj h).symm⟩
theorem paired_imp {α β : Type} {R S : α → β → Prop} (h : ∀ a b, R a b → S a b) : ∀ {xs : List α} {ys : List β}, Paired R xs ys → Paired S xs ys
  | _, _, .nil => .nil
  | _, _, .cons r t => .cons (h _ _ r) (paired_imp h t)
theorem paired_snoc {α β : Type} {R : α → β → Prop} {a : α} {b : β} (h : R a b) : ∀ {xs : List α} {ys : List β}, Paired R xs ys → Paired R (xs ++ [a]) (ys ++ [b])
  | _, _, .nil => .cons h .nil
  | _, _, .cons r t => .cons r (paired_snoc h t)
theorem paired_at {α β : Type} {R : α → β → Prop} : ∀ {xs : List α} {ys : List β} {i : Nat} {x : α}, Paired R xs ys → xs[i]? = some x → ∃ y, ys[i]? = some y ∧ R x y
  | _, _, _, _, .nil, e => by simp at e
  | _, _, 0, _, .cons r _, e => by
    have := Option.some.inj e
    subst this
    exact ⟨_, rfl, r⟩
  | _, _, i + 1, _, .cons _ t, e => by
    obtain ⟨y, e1, e2⟩ := paired_at (i := i) t (by simpa using e)
    exact ⟨y, by simpa using e1, e2⟩
theorem paired_len {α β : Type} {R : α → β → Prop} : ∀ {xs : List α} {ys : List β}, Paired R xs ys → xs.length = ys.length
  | _, _, .nil => rfl
  | _, _, .cons _ t => by rw [List.length_cons, List.length_cons, paired_len t]
theorem upto_app {c : Nat} : ∀ {u rest : List Nat}, (∀ d ∈ u, d ≠ c) → upto c (u ++ c :: rest) = u
  | [], rest, _ => by
    unfold upto
    rw [List.nil_append, List.takeWhile_cons, if_neg (by simp)]
  | d :: u, rest, h => by
    have ih := upto_app (c := c) (u := u) (rest := rest) (fun e he => h e (List.mem_cons_of_mem _ he))
    unfold upto at ih ⊢
    rw [List.cons_append, List.takeWhile_cons, if_pos (by simpa using h d (List.mem_cons_self ..)), ih]
theorem upto_step {c : Nat} {l : List Nat} {n d : Nat} (h : l[n]? = some d) (hd : d ≠ c) (hp : n ≤ (upto c l).length) : n + 1 ≤ (upto c l).length := by
  induction l generalizing n with
  | nil => simp at h
  | cons e r ih =>
    unfold upto at ih hp ⊢
    rw [List.takeWhile_cons] at hp ⊢
    cases n with
    | zero =>
      have : e = d := by simpa using h
      subst this
      rw [if_pos (by simpa using hd)]
      simp
    | succ n =>
      by_cases he : decide (e ≠ c) = true
      · rw [if_pos he] at hp ⊢
        have := ih (n := n) (by simpa using h) (by simpa using hp)
        simpa using this
      · rw [if_neg he] at hp
        simp at hp
theorem upto_stop {c : Nat} {l : List Nat} {n : Nat} (hp : n ≤ (upto c l).length) (h : ∀ d, l[n]? = some d → d = c) : n = (upto c l).length := by
  induction l generalizing n with
  | nil => simp [upto] at hp ⊢; exact hp
  | cons e r ih =>
    unfold upto at ih hp ⊢
    rw [List.takeWhile_cons] at hp ⊢
    by_cases he : decide (e ≠ c) = true
    · rw [if_pos he] at hp ⊢
      cases n with
      | zero => exact absurd (h e rfl) (by simpa using he)
      | succ n =>
        have := ih (n := n) (by simpa using hp) (fun d hd => h d (by simpa using hd))
        simpa using this
    · rw [if_neg he] at hp ⊢
      simpa using hp
theorem upto_get {c : Nat} : ∀ {l : List Nat} {n d : Nat}, l[n]? = some d → n < (upto c l).length → (upto c l)[n]? = some d
  | [], n, d, h, _ => by simp at h
  | e :: r, n, d, h, hn => by
    unfold upto at hn ⊢
    rw [List.takeWhile_cons] at hn ⊢
    by_cases he : decide (e ≠ c) = true
    · rw [if_pos he] at hn ⊢
      cases n with
      | zero => exact h
      | succ n =>
        have := upto_get (c := c) (l := r) (n := n) (d := d) (by simpa using h) (by unfold upto; simpa using hn)
        unfold upto at this
        simpa using this
    · rw [if_neg he] at hn
      simp at hn
theorem sum_mem : ∀ {l : List Nat} {n : Nat}, n ∈ l → n ≤ l.sum
  | a :: l, n, h => by
    rw [List.sum_cons]
    rcases List.mem_cons.mp h with rfl | h
    · omega
    · have := sum_mem h
      omega
theorem pss_when {X : Cx} {st : List Stmt} {t : TS} {p : Prop} (h : p → PSs X st t) : PSs X st (fun D σ H => p ∧ t D σ H) := ⟨fun pins s σ H D I ⟨hp, ht⟩ => (h hp).run pins s σ H D I ht⟩
structure CatchT (K : PySem.W.Frag) (mg : Str → Option Value) (CD C : Addr) : Prop where
  gD : mg "DeskError" = some (.ref CD)
  exm : PySem.W.exmOne K (.ref C) (.ref CD) = some true
  ec : ExcC K C
  kC : PySem.W.kitOne K (.ref C) (.ref C) = some true
  kV : PySem.W.kitOne K (.ref C) (.type "ValueError") = some true
  b_VE : mg "ValueError" = none
theorem iteF' {b : Bool} {p q : Prop} (e : b = false) (h : q) : if b = true then p else q := by
  rw [e]; exact h
theorem app_len (s t : Str) : (s ++ t).length = s.length + t.length := by
  have e : tl (s ++ t) = tl s ++ tl t := TL.tl_append s t
  rw [len_tl, e, List.length_append, len_tl, len_tl]
theorem mem_strs {L : List Str} {v : V} (h : v ∈ L.map V.str) : ∃ s, s ∈ L ∧ v = V.str s := by
  obtain ⟨s, h1, h2⟩ := List.mem_map.mp h
  exact ⟨s, h1, h2.symm⟩
theorem mem_cut {xs : List V} {lo hi : Option Int} {v : V} (h : v ∈ cutV xs lo hi) : v ∈ xs := by
  unfold cutV at h
  exact List.mem_of_mem_drop (List.mem_of_mem_take h)
theorem cut_le (xs : List V) (lo hi : Option Int) : (cutV xs lo hi).length ≤ xs.length := by
  unfold cutV
  rw [List.length_take, List.length_drop]
  omega
theorem for_str {x : Str} {g : TG} {tb : TS} {D : Ends} {σ : L2.St} {H : Hp} (Pv : Nat → L2.St → Hp → Prop) (h0 : Pv 0 σ H)
    (hs : ∀ i c σ H, (tl x)[i]? = some c → Pv i σ H → g (.str ⟨#[c]⟩) σ H fun σ2 H2 => tb { D with nx := Pv (i + 1), ct := Pv (i + 1), bk := D.nx } σ2 H2) (hd : ∀ σ H, Pv (tl x).length σ H → D.nx σ H) :
    ∃ W : Nat → Nat → L2.St → Hp → Prop, (∃ m, W 0 m σ H) ∧ ∀ i m σ H, W i m σ H →
      ((Its x).stop i H ∧ D.nx σ H) ∨ ((Its x).go i H ∧ ∃ N : L2.St → Hp → Prop, (∀ σ' H', N σ' H' → ∃ m', m' < m ∧ W (i + 1) m' σ' H') ∧ ∀ v H', (Its x).yld i H v H' → g v σ H' fun σ2 H2 => tb { D with nx := N, ct := N, bk := D.nx } σ2 H2) := by
  have hx : x.cps.size = (tl x).length := by simp [tl]
  refine ⟨fun i m σ H => m = (tl x).length - i ∧ i ≤ (tl x).length ∧ Pv i σ H, ⟨(tl x).length, by simp, Nat.zero_le _, h0⟩, ?_⟩
  rintro i m σ H ⟨rfl, hi, p⟩
  by_cases hlt : i < (tl x).length
  · refine .inr ⟨(by show i < x.cps.size; omega), Pv (i + 1), fun σ' H' p' => ⟨(tl x).length - (i + 1), by omega, rfl, hlt, p'⟩, fun v H' y => ?_⟩
    obtain ⟨e, c, hc, ev⟩ := y
    subst e
    subst ev
    exact hs i c _ _ (by rw [Array.getElem?_toList]; exact hc) p
  · have e : i = (tl x).length := by omega
    subst e
    exact .inl ⟨(by show x.cps.size ≤ _; omega), hd σ H p⟩
theorem lc_filter {x : Str} {σ : L2.St} {H1 : Hp} {D : Addr} {j : Nat} {bad : Nat → Bool} {tt : TT} {Qd : Hp → Prop} (hx : x.length ≤ sizeLine) (hD : H1 D = none)
    (hw : ∀ v, wipe ((wipe σ [j]).set j (some v)) [j] = wipe σ [j]) (hg : ∀ v, ((wipe σ [j]).set j (some v))[j]? = some (some v))
    (ht : ∀ c H' (R : Bool → Hp → Prop), c ∈ tl x → R (bad c) H' → tt ((wipe σ [j]).set j (some (.str ⟨#[c]⟩))) H' R)
    (hd : ∀ H', Same H1 H' → H' D = some (.lst (((tl x).filter bad).map fun c => V.str ⟨#[c]⟩)) → Qd H') :
    ∃ W : Nat → Nat → Hp → Prop, (∃ m, W 0 m (upd H1 D (.lst []))) ∧ ∀ i m H, W i m H →
      ((Its x).stop i H ∧ Qd H) ∨ ((Its x).go i H ∧ ∃ Nx : Hp → Prop, (∀ H', Nx H' → ∃ m', m' < m ∧ W (i + 1) m' H') ∧ ∀ v H', (Its x).yld i H v H' → gName j v (wipe σ [j]) H' fun σ2 H2 => wipe σ2 [j] = wipe σ [j] ∧ tt σ2 H2 fun b H3 =>
        if b = true then tVar j σ2 H3 fun y H4 => ∃ acc, H4 D = some (.lst acc) ∧ acc.length < sizeLine ∧ Nx (upd H4 D (.lst (acc ++ [y]))) else Nx H3) := by
  have hl : x.length = (tl x).length := len_tl x
  refine lc_str (x := x) (fun i H' => H' D = some (.lst ((((tl x).take i).filter bad).map fun c => V.str ⟨#[c]⟩)) ∧ ∀ b, b ≠ D → H' b = H1 b) ⟨upd_same, fun b hb => upd_ne hb⟩ ?_ ?_
  · rintro i c H' hc ⟨h1, h2⟩
    have hi : i < (tl x).length := (List.getElem?_eq_some_iff.mp hc).1
    have et : (tl x).take (i + 1) = (tl x).take i ++ [c] := take_snoc hc
    refine ⟨hw _, ?_⟩
    refine ht c _ _ (List.mem_of_getElem? hc) ?_
    refine ite2 (fun hb => ?_) (fun hb => ?_)
    · refine ⟨_, hg _, _, h1, ?_, ?_, fun b hb => by rw [upd_ne hb]; exact h2 b hb⟩
      · have := List.length_filter_le bad ((tl x).take i)
        rw [List.length_map]
        rw [List.length_take] at this
        omega
      · rw [upd_same, et, List.filter_append, List.map_append]
        simp [hb]
    · refine ⟨?_, h2⟩
      rw [h1, et, List.filter_append, List.map_append]
      simp [hb]
  · rintro H' ⟨h1, h2⟩
    rw [List.take_length] at h1
    refine hd H' (fun b o e => ?_) h1
    have : b ≠ D := fun z => by rw [z, hD] at e; cases e
    rw [h2 b this]; exact e
theorem filt_empty {l : List Nat} {bad : Nat → Bool} : ((l.filter bad).map fun c => V.str ⟨#[c]⟩).isEmpty = l.all fun c => !bad c := by
  induction l with
  | nil => rfl
  | cons c r ih =>
    rw [List.filter_cons, List.all_cons]
    by_cases h : bad c = true
    · rw [if_pos h, h]; rfl
    · rw [if_neg h, ih]
      have : bad c = false := by simpa using h
      rw [this]; rfl
theorem fmod_nat (a b : Nat) : Int.fmod (a : Int) (b : Int) = ((a % b : Nat) : Int) := by
  rw [Int.fmod_eq_emod_of_nonneg _ (by omega)]; rfl
theorem log_small (n : Nat) (h : n ≤ 10000000) : ((n : Nat) : Int).natAbs.log2 < 1920 := by
  rw [Int.natAbs_natCast]
  by_cases h0 : n = 0
  · subst h0; decide
  · have := (Nat.log2_lt h0 (k := 1920)).mpr (by
      have : (10000000 : Nat) < 2 ^ 1920 := by decide +kernel
      omega)
    exact this
theorem num_len {n : Nat} (h : n ≤ 9999999) : (TL.numL n).length ≤ 7 := TL.numL_len (by decide) (by omega)
theorem iteT' {b : Bool} {p q : Prop} (e : b = true) (h : p) : if b = true then p else q := by
  rw [e]; exact h
theorem joinL_flat : ∀ L : List (List Nat), TL.joinL [] L = L.flatten
  | [] => rfl
  | [p] => by simp [TL.joinL]
  | p :: q :: r => by
    show p ++ ([] ++ TL.joinL [] (q :: r)) = _
    rw [joinL_flat (q :: r)]; simp
theorem join_flat (L : List (List Nat)) : Txt.join (Str.ofString "") (L.map mkS) = mkS L.flatten := by
  refine TL.ext_tl ?_
  rw [TL.join_eq, TL.tl_join, List.map_map]
  show TL.joinL [] (L.map fun l => tl (mkS l)) = L.flatten
  rw [List.map_id'' (f := fun l => tl (mkS l)) (fun _ => rfl), joinL_flat]
theorem sum_le {ys : List Str} {B : Nat} (h : ∀ y ∈ ys, y.length ≤ B) : (ys.map (·.length)).sum ≤ ys.length * B := by
  induction ys with
  | nil => exact Nat.zero_le _
  | cons y r ih =>
    have h1 := h y (List.mem_cons_self ..)
    have h2 := ih fun z hz => h z (List.mem_cons_of_mem _ hz)
    rw [List.map_cons, List.sum_cons, List.length_cons, Nat.add_mul]
    omega
theorem cut_pre (x : Str) (n : Nat) : cutS x none (some (n : Int)) = mkS ((tl x).take n) := by
  have e : cutS x none (some (n : Int)) = cutS x (some ((0 : Nat) : Int)) (some (n : Int)) := by
    have e1 : HT.sIx x.length 0 (some ((0 : Nat) : Int)) = 0 := by
      show (if (((0 : Nat) : Int)) < 0 then (((0 : Nat) : Int) + (x.length : Int)).toNat else min (((0 : Nat) : Int)).toNat x.length) = _
      rw [if_neg (by omega)]
      show min 0 x.length = 0
      omega
    unfold cutS
    rw [e1]
    rfl
  rw [e, cut_any, List.drop_zero, Nat.sub_zero]
theorem fit_cut {z : Str} {l u : Option Int} {n : Nat} (h : z.length ≤ n) : (cutS z l u).length ≤ n := Nat.le_trans (cutS_length z l u) h
theorem fit_app {s t : Str} {a b n : Nat} (h : s.length ≤ a) (g : t.length ≤ b) (k : a + b ≤ n) : (s ++ t).length ≤ n := by rw [app_len]; omega
theorem fit_add {s t : Str} {a b : Nat} (h : s.length ≤ a) (g : t.length ≤ b) (k : a + b ≤ 16777216) : s.length + t.length ≤ sizeLine := by rw [sizeLine_eq]; omega
theorem ne_self (x : V) : (!decide (x = x)) = false := by rw [decide_eq_true rfl]; rfl
theorem ite_val {c : Bool} {x y : V} {A B : VK → Prop} {Q : VK} {H : Hp} (hA : ∀ Q : VK, Q x H → A Q) (hB : ∀ Q : VK, Q y H → B Q) (h : Q (if c = true then x else y) H) : if c = true then A Q else B Q := by
  cases c
  · exact hB _ h
  · exact hA _ h
/-! ### steps: one lemma for each construct, by its head -/
section steps
variable {σ : L2.St} {H : Hp} {D : Ends}
theorem w_start {t : TS} {σ' : L2.St} (e : σ = σ') (h : t D σ' H) : t D σ H := by subst e; exact h
theorem w_seq {t u : TS} (h : t { D with nx := u D } σ H) : tSeq t u D σ H := h
theorem w_asg {te : TE} {g : TG} (h : te σ H fun x H1 => g x σ H1 D.nx) : tAsg te g D σ H := h
theorem w_drop {te : TE} (h : te σ H fun _ H1 => D.nx σ H1) : tDrop te D σ H := h
theorem w_ret {te : TE} (h : te σ H D.rt) : tRet te D σ H := h
theorem w_retN (h : D.rt .non H) : tRetN D σ H := h
theorem w_next (h : D.nx σ H) : tNext D σ H := h
theorem w_break (h : D.bk σ H) : tBreak D σ H := h
theorem w_cont (h : D.ct σ H) : tCont D σ H := h
theorem w_ifS {c : TT} {t u : TS} (h : c σ H fun b H1 => if b = true then t D σ H1 else u D σ H1) : tIfS c t u D σ H := h
theorem w_while {c : TT} {tb : TS} (h : ∃ W : Nat → L2.St → Hp → Prop, (∃ m, W m σ H) ∧ ∀ m σ H, W m σ H → c σ H fun b H1 => if b = true then ∃ N : L2.St → Hp → Prop, (∀ σ' H', N σ' H' → ∃ m', m' < m ∧ W m' σ' H') ∧ tb { D with nx := N, ct := N, bk := D.nx } σ H1 else D.nx σ H1) : tWhile c tb D σ H := h
theorem w_name {i : Nat} {v : V} {σ' : L2.St} {Q : L2.St → Hp → Prop} (e : σ.set i (some v) = σ') (h : Q σ' H) : gName i v σ H Q := by subst e; exact h
theorem w_sub {to ti : TE} {t : TSet} {v : V} {Q : L2.St → Hp → Prop} (h : to σ H fun o H1 => ti σ H1 fun i H2 => t o i v H2 fun H3 => Q σ H3) : gSub to ti t v σ H Q := h
theorem w_var {i : Nat} {v : V} {Q : VK} (h : σ[i]? = some (some v)) (k : Q v H) : tVar i σ H Q := ⟨v, h, k⟩
theorem w_c {v : V} {Q : VK} (k : Q v H) : tC v σ H Q := k
theorem w_op {r : R2} {ta tb : TE} {Q : VK} (h : ta σ H fun x H1 => tb σ H1 fun y H2 => r x y H2 Q) : tOp r ta tb σ H Q := h
theorem w_un {r : V → Hp → VK → Prop} {ta : TE} {Q : VK} (h : ta σ H fun x H1 => r x H1 Q) : tUn r ta σ H Q := h
theorem w_test {t : TE} {Q : Bool → Hp → Prop} (h : t σ H fun x H' => ∃ k, x = .bl k ∧ Q k H') : tTest t σ H Q := h
theorem w_B {t : TE} {Q : Bool → Hp → Prop} (h : t σ H fun x H1 => ∃ c, x = .bl c ∧ Q c H1) : tB t σ H Q := h
theorem w_yes {Q : Bool → Hp → Prop} (h : Q true H) : tYes σ H Q := h
theorem w_not {t : TT} {Q : Bool → Hp → Prop} (h : t σ H fun c H1 => Q (!c) H1) : tNot t σ H Q := h
theorem w_and {t u : TT} {Q : Bool → Hp → Prop} (h : t σ H fun c H1 => if c = true then u σ H1 Q else Q false H1) : tAnd t u σ H Q := h
theorem w_or {t u : TT} {Q : Bool → Hp → Prop} (h : t σ H fun c H1 => if c = true then Q true H1 else u σ H1 Q) : tOr t u σ H Q := h
theorem w_andV {ta tb : TE} {Q : VK} (h : ta σ H fun x H1 => ∃ c, x = .bl c ∧ if c = true then tb σ H1 Q else Q (.bl false) H1) : tAndV ta tb σ H Q := h
theorem w_orV {ta tb : TE} {Q : VK} (h : ta σ H fun x H1 => ∃ c, x = .bl c ∧ if c = true then Q (.bl true) H1 else tb σ H1 Q) : tOrV ta tb σ H Q := h
theorem w_notV {ta : TE} {Q : VK} (h : ta σ H fun x H1 => ∃ c, x = .bl c ∧ Q (.bl (!c)) H1) : tNotV ta σ H Q := h
theorem w_ifE {t : TT} {ta tb : TE} {Q : VK} (h : t σ H fun c H1 => if c = true then ta σ H1 Q else tb σ H1 Q) : tIf t ta tb σ H Q := h
theorem w_nil {Q : List V → Hp → Prop} (h : Q [] H) : tNil σ H Q := h
theorem w_cons {ta : TE} {tr : TA} {Q : List V → Hp → Prop} (h : ta σ H fun x H1 => tr σ H1 fun xs H2 => Q (x :: xs) H2) : tCons ta tr σ H Q := h
theorem w_call {sp : Sp} {dvs : List V} {E : XK} {t : TA} {Q : VK} (h : t σ H fun vs H1 => sp (vs ++ dvs) H1 Q E) : tCall sp dvs E t σ H Q := h
theorem w_callS {sp : Sp} {E : L2.St → XK} {t : TA} {Q : VK} (h : t σ H fun vs H1 => sp vs H1 Q (E σ)) : tCallS sp E t σ H Q := h
theorem w_cB {r : List V → Hp → VK → Prop} {t : TA} {Q : VK} (h : t σ H fun vs H1 => r vs H1 Q) : tCB r t σ H Q := h
theorem w_lst {t : TA} {Q : VK} (h : t σ H fun xs H1 => xs.length ≤ sizeLine ∧ ∀ p, H1 p = none → Q (.ref p) (upd H1 p (.lst xs))) : tLst t σ H Q := h
theorem w_tup {t : TA} {Q : VK} (h : t σ H fun xs H1 => xs.length ≤ sizeLine ∧ ∀ p, H1 p = none → Q (.ref p) (upd H1 p (.tup xs))) : tTup t σ H Q := h
theorem w_sl {r : V → Option Int → Option Int → Hp → VK → Prop} {te : TE} {tl th : TO} {Q : VK} (h : te σ H fun x H1 => tl σ H1 fun l H2 => th σ H2 fun u H3 => r x l u H3 Q) : tSl r te tl th σ H Q := h
theorem w_noPart {Q : Option Int → Hp → Prop} (h : Q none H) : tNoPart σ H Q := h
theorem w_part {t : TE} {Q : Option Int → Hp → Prop} (h : t σ H fun x H1 => ∃ i, x = .int i ∧ Q (some i) H1) : tPart t σ H Q := h
theorem w_bm {K : PySem.W.Frag} {T : String} {r : V → List V → Hp → VK → Prop} {to : TE} {t : TA} {Q : VK} (h : to σ H fun x H1 => tyV K T x H1 ∧ t σ H1 fun xs H2 => r x xs H2 Q) : tBM K T r to t σ H Q := h
theorem w_bm0 {K : PySem.W.Frag} {T : String} {r : V → List V → Hp → VK → Prop} {to : TE} {Q : VK} (h : to σ H fun x H1 => tyV K T x H1 ∧ r x [] H1 Q) : tBM0 K T r to σ H Q := h
theorem w_strTy {K : PySem.W.Frag} {s : Str} {P : Prop} (h : P) : tyV K "str" (.str s) H ∧ P := ⟨rfl, h⟩
theorem w_lstTy {K : PySem.W.Frag} {a : Addr} {xs : List V} {P : Prop} (e : H a = some (.lst xs)) (h : P) : tyV K "list" (.ref a) H ∧ P := ⟨.inl ⟨rfl, _, SqL.of e⟩, h⟩
theorem w_bl {b : Bool} {Q : Bool → Prop} (h : Q b) : ∃ k, V.bl b = V.bl k ∧ Q k := ⟨b, rfl, h⟩
theorem w_int1 {i : Int} {Q : Int → Prop} (h : Q i) : ∃ k, V.int i = V.int k ∧ Q k := ⟨i, rfl, h⟩
theorem w_str1 {i : Str} {Q : Str → Prop} (h : Q i) : ∃ k, V.str i = V.str k ∧ Q k := ⟨i, rfl, h⟩
theorem w_rI0 {g : Int → Int → V} {i j : Int} {Q : VK} (h : Q (g i j) H) : rI0 g (.int i) (.int j) H Q := ⟨i, j, rfl, rfl, h⟩
theorem w_rI {C : Int → Int → Prop} {g : Int → Int → V} {i j : Int} {Q : VK} (c : C i j) (h : Q (g i j) H) : rI C g (.int i) (.int j) H Q := ⟨i, j, rfl, rfl, c, h⟩
theorem w_rU {g : Int → V} {i : Int} {Q : VK} (h : Q (g i) H) : rU g (.int i) H Q := ⟨i, rfl, h⟩
theorem w_eqI {i j : Int} {Q : VK} (h : Q (.bl (decide (V.int i = V.int j))) H) : rEq (.int i) (.int j) H Q := ⟨rfl, h⟩
theorem w_eqS {i j : Str} {Q : VK} (h : Q (.bl (decide (V.str i = V.str j))) H) : rEq (.str i) (.str j) H Q := ⟨rfl, h⟩
theorem w_neI {i j : Int} {Q : VK} (h : Q (.bl (!decide (V.int i = V.int j))) H) : rNe (.int i) (.int j) H Q := ⟨rfl, h⟩
theorem w_neS {i j : Str} {Q : VK} (h : Q (.bl (!decide (V.str i = V.str j))) H) : rNe (.str i) (.str j) H Q := ⟨rfl, h⟩
theorem w_ixL {K : PySem.W.Frag} {p : Addr} {xs : List V} {i : Int} {v : V} {Q : VK} (h : H p = some (.lst xs)) (a : atI xs i = some v) (k : Q v H) : rIxL K (.ref p) (.int i) H Q := ⟨p, xs, i, v, rfl, rfl, SqL.of h, a, k⟩
theorem w_ixT {K : PySem.W.Frag} {p : Addr} {xs : List V} {i : Int} {v : V} {Q : VK} (h : H p = some (.tup xs)) (a : atI xs i = some v) (k : Q v H) : rIxT K (.ref p) (.int i) H Q := ⟨p, xs, i, v, rfl, rfl, SqT.of h, a, k⟩
theorem w_ixS {z : Str} {i : Int} {c : Nat} {Q : VK} (h : z.length ≤ sizeLine) (a : atI z.cps.toList i = some c) (k : Q (.str ⟨#[c]⟩) H) : rIxS (.str z) (.int i) H Q := ⟨z, i, c, rfl, rfl, h, a, k⟩
theorem w_slS {z : Str} {l u : Option Int} {Q : VK} (h : z.length ≤ sizeLine) (k : Q (.str (cutS z l u)) H) : rSlS (.str z) l u H Q := ⟨z, rfl, h, k⟩
theorem w_lenS {K : PySem.W.Frag} {z : Str} {R : Nat → Prop} (h : z.length ≤ sizeLine) (k : R z.length) : ∃ (x : V) (n : Nat), [V.str z] = [x] ∧ LenV K x H n ∧ R n := ⟨_, _, rfl, ⟨h, rfl⟩, k⟩
theorem w_lenL {K : PySem.W.Frag} {p : Addr} {xs : List V} {R : Nat → Prop} (h : H p = some (.lst xs)) (k : R xs.length) : ∃ (x : V) (n : Nat), [V.ref p] = [x] ∧ LenV K x H n ∧ R n := ⟨_, _, rfl, .inl ⟨_, SqL.of h, rfl⟩, k⟩
theorem w_lenT {K : PySem.W.Frag} {p : Addr} {xs : List V} {R : Nat → Prop} (h : H p = some (.tup xs)) (k : R xs.length) : ∃ (x : V) (n : Nat), [V.ref p] = [x] ∧ LenV K x H n ∧ R n := ⟨_, _, rfl, .inr ⟨_, SqT.of h, rfl⟩, k⟩
theorem w_append {p : Addr} {xs : List V} {y : V} {Q : VK} (h : H p = some (.lst xs)) (l : xs.length < sizeLine) (k : Q .non (upd H p (.lst (xs ++ [y])))) : rAppend (.ref p) [y] H Q := ⟨p, xs, y, rfl, rfl, h, l, k⟩
theorem w_addS {i j : Str} {R : Str → Str → Prop} (l : i.length + j.length ≤ sizeLine) (k : R i j) : ∃ x y, V.str i = V.str x ∧ V.str j = V.str y ∧ x.length + y.length ≤ sizeLine ∧ R x y := ⟨i, j, rfl, rfl, l, k⟩
theorem w_bl2 {a b : Bool} {Q : Bool → Bool → Prop} (k : Q a b) : ∃ x y, V.bl a = V.bl x ∧ V.bl b = V.bl y ∧ Q x y := ⟨a, b, rfl, rfl, k⟩
theorem w_isN {P : Prop} (k : P) : V.non = .non ∧ P := ⟨rfl, k⟩
theorem w_listOf {K : PySem.W.Frag} {p : Addr} {ys : List V} {R : List V → Prop} (h : H p = some (.lst ys)) (k : R ys) : ∃ p' ys', [V.ref p] = [.ref p'] ∧ (SqL K H p' ys' ∨ SqT K H p' ys') ∧ R ys' := ⟨p, ys, rfl, .inl (SqL.of h), k⟩
theorem w_strOf {i : Int} {R : Int → Prop} (l : i.natAbs.log2 < 1920) (k : R i) : ∃ j, [V.int i] = [.int j] ∧ j.natAbs.log2 < 1920 ∧ R j := ⟨i, rfl, l, k⟩
theorem w_iT {b : Bool} {p q : Prop} (e : b = true) (h : p) : if b = true then p else q := by rw [e]; exact h
theorem w_iF {b : Bool} {p q : Prop} (e : b = false) (h : q) : if b = true then p else q := by rw [e]; exact h
theorem same_at {H H' : Hp} (s : Same H H') {a : Addr} {o : HO} (h : H a = some o) : H' a = some o := s _ _ h
theorem upd_at {H : Hp} {a b : Addr} {o u : HO} (n : b ≠ a) (h : H b = some u) : upd H a o b = some u := by rw [upd_ne n]; exact h
theorem upd_atN {H : Hp} {a b : Addr} {o u : HO} (f : H a = none) (h : H b = some u) : upd H a o b = some u := by rw [upd_ne (ne_of_none h f)]; exact h
theorem same_new {H H1 : Hp} {p : Addr} {o : HO} (s : Same H H1) (hp : H1 p = none) : Same H (upd H1 p o) := fun b u e => by
  rw [upd_ne (ne_of_none (s b u e) hp)]
  exact s b u e
theorem w_for {wi : TI} {g : TG} {tb : TS} (h : wi σ H fun J H1 => ∃ W : Nat → Nat → L2.St → Hp → Prop, (∃ m, W 0 m σ H1) ∧ ∀ i m σ H, W i m σ H →
  (J.stop i H ∧ D.nx σ H) ∨ (J.go i H ∧ ∃ N : L2.St → Hp → Prop, (∀ σ' H', N σ' H' → ∃ m', m' < m ∧ W (i + 1) m' σ' H') ∧ ∀ x H', J.yld i H x H' → g x σ H' fun σ2 H2 => tb { D with nx := N, ct := N, bk := D.nx } σ2 H2)) : tFor wi g tb D σ H := h
theorem w_lc {wi : TI} {g : TG} {tt : TT} {te : TE} {vs : List Nat} {Q : VK} (h : wi σ H fun J H1 => ∀ D, H1 D = none → ∃ W : Nat → Nat → Hp → Prop, (∃ m, W 0 m (upd H1 D (.lst []))) ∧ ∀ i m H, W i m H →
  (J.stop i H ∧ Q (.ref D) H) ∨ (J.go i H ∧ ∃ Nx : Hp → Prop, (∀ H', Nx H' → ∃ m', m' < m ∧ W (i + 1) m' H') ∧ ∀ x H', J.yld i H x H' → g x (wipe σ vs) H' fun σ2 H2 => wipe σ2 vs = wipe σ vs ∧ tt σ2 H2 fun b H3 =>
    if b = true then te σ2 H3 fun y H4 => ∃ acc, H4 D = some (.lst acc) ∧ acc.length < sizeLine ∧ Nx (upd H4 D (.lst (acc ++ [y]))) else Nx H3)) : tLc wi g tt te vs σ H Q := h
theorem w_iRng1 {ta : TA} {R : L2.It → Hp → Prop} (h : ta σ H fun vs H1 => ∃ j : Int, vs = [.int j] ∧ -(2 ^ 62) ≤ j ∧ j < 2 ^ 62 ∧ R (Itr 0 j.toNat) H1) : iRng1 ta σ H R := h
theorem w_iRng2 {ta : TA} {R : L2.It → Hp → Prop} (h : ta σ H fun vs H1 => ∃ i j : Int, vs = [.int i, .int j] ∧ (-(2 ^ 62) ≤ i ∧ i < 2 ^ 62 ∧ -(2 ^ 62) ≤ j ∧ j < 2 ^ 62) ∧ R (Itr i (j - i).toNat) H1) : iRng2 ta σ H R := h
theorem w_rng1 {i : Int} {R : Int → Prop} (b1 : -(2 ^ 62) ≤ i) (b2 : i < 2 ^ 62) (h : R i) : ∃ j : Int, [V.int i] = [.int j] ∧ -(2 ^ 62) ≤ j ∧ j < 2 ^ 62 ∧ R j := ⟨_, rfl, b1, b2, h⟩
theorem w_iList {K : PySem.W.Frag} {tl : TE} {R : L2.It → Hp → Prop} (h : tl σ H fun x H1 => ∃ a, x = .ref a ∧ (∃ xs, SqL K H1 a xs) ∧ R (Itl K a) H1) : iList K tl σ H R := h
theorem w_iTup {K : PySem.W.Frag} {tl : TE} {R : L2.It → Hp → Prop} (h : tl σ H fun x H1 => ∃ a, x = .ref a ∧ (∃ xs, SqT K H1 a xs) ∧ R (Itt K a) H1) : iTup K tl σ H R := h
theorem w_iStr {te : TE} {R : L2.It → Hp → Prop} (h : te σ H fun v H1 => ∃ x, v = .str x ∧ R (Its x) H1) : iStr te σ H R := h
theorem w_wipe {σ' : L2.St} {vs : List Nat} {P : Prop} (e : wipe σ vs = wipe σ' vs) (h : P) : wipe σ vs = wipe σ' vs ∧ P := ⟨e, h⟩
theorem w_acc {D : Addr} {acc : List V} {R : List V → Prop} (h : H D = some (.lst acc)) (l : acc.length < sizeLine) (k : R acc) : ∃ acc, H D = some (.lst acc) ∧ acc.length < sizeLine ∧ R acc := ⟨acc, h, l, k⟩
theorem w_itl {K : PySem.W.Frag} {a : Addr} {xs : List V} {R : Addr → Prop} (h : H a = some (.lst xs)) (k : R a) : ∃ b, V.ref a = V.ref b ∧ (∃ xs, SqL K H b xs) ∧ R b := ⟨a, rfl, ⟨_, SqL.of h⟩, k⟩
theorem w_itt {K : PySem.W.Frag} {a : Addr} {xs : List V} {R : Addr → Prop} (h : H a = some (.tup xs)) (k : R a) : ∃ b, V.ref a = V.ref b ∧ (∃ xs, SqT K H b xs) ∧ R b := ⟨a, rfl, ⟨_, SqT.of h⟩, k⟩
theorem w_M1 {r : V → List V → Hp → VK → Prop} {to te : TE} {Q : VK} (h : to σ H fun x H1 => (∃ a, x = .str a) ∧ te σ H1 fun y H2 => r x [y] H2 Q) : tM1 r to te σ H Q := h
theorem w_M0 {r : V → List V → Hp → VK → Prop} {to : TE} {Q : VK} (h : to σ H fun x H1 => (∃ a, x = .str a) ∧ r x [] H1 Q) : tM0 r to σ H Q := h
theorem w_isS {s : Str} {P : Prop} (h : P) : (∃ a, V.str s = .str a) ∧ P := ⟨⟨s, rfl⟩, h⟩
theorem w_Fld {K : PySem.W.Frag} {ta : TE} {f : Str} {Q : VK} (h : ta σ H fun x H1 => ∃ a C dx fs v, x = .ref a ∧ H1 a = some (.ins C dx fs) ∧ Cls K C ∧ NoAttr K C f ∧ fs.lookup f = some v ∧ Q v H1) : tFld K ta f σ H Q := h
theorem w_fld1 {K : PySem.W.Frag} {a C dx : Addr} {f : Str} {fs : List (Str × V)} {v : V} {R : V → Prop} (h : H a = some (.ins C dx fs)) (c : Cls K C) (n : NoAttr K C f) (l : fs.lookup f = some v) (k : R v) : ∃ a' C' dx' fs' v', V.ref a = .ref a' ∧ H a' = some (.ins C' dx' fs') ∧ Cls K C' ∧ NoAttr K C' f ∧ fs'.lookup f = some v' ∧ R v' := ⟨a, C, dx, fs, v, rfl, h, c, n, l, k⟩
theorem w_sFld {K : PySem.W.Frag} {ta tv : TE} {f : Str} (h : tv σ H fun y H1 => ta σ H1 fun x H2 => ∃ a C dx fs, x = .ref a ∧ H2 a = some (.ins C dx fs) ∧ Cls K C ∧ NoAttr K C f ∧ fs.length < 1000 ∧ D.nx σ (upd H2 a (.ins C dx (putF f y fs)))) : sFld K ta tv f D σ H := h
theorem w_sfld1 {K : PySem.W.Frag} {a C dx : Addr} {f : Str} {fs : List (Str × V)} {R : Addr → Addr → Addr → List (Str × V) → Prop} (h : H a = some (.ins C dx fs)) (c : Cls K C) (n : NoAttr K C f) (l : fs.length < 1000) (k : R a C dx fs) : ∃ a' C' dx' fs', V.ref a = .ref a' ∧ H a' = some (.ins C' dx' fs') ∧ Cls K C' ∧ NoAttr K C' f ∧ fs'.length < 1000 ∧ R a' C' dx' fs' := ⟨a, C, dx, fs, rfl, h, c, n, l, k⟩
theorem w_dget {td ty : TE} {Q : VK} (h : td σ H fun x H1 => ty σ H1 fun y H2 => ∃ a v, x = .ref a ∧ DGet H2 a y (some v) ∧ Q v H2) : tDGet td ty σ H Q := h
theorem w_dgetS {a : Addr} {kvs : List (Key × V)} {x : Str} {v : V} {R : V → Prop} (h : H a = some (.dK kvs)) (e : valV kvs (Sum.inr x : Key) = some v) (k : R v) : ∃ a' v', V.ref a = .ref a' ∧ DGet H a' (.str x) (some v') ∧ R v' := ⟨a, v, rfl, e ▸ DGet.k (k := Sum.inr x) h, k⟩
theorem w_dgetI {a : Addr} {kvs : List (Key × V)} {x : Int} {v : V} {R : V → Prop} (h : H a = some (.dK kvs)) (e : valV kvs (Sum.inl x : Key) = some v) (k : R v) : ∃ a' v', V.ref a = .ref a' ∧ DGet H a' (.int x) (some v') ∧ R v' := ⟨a, v, rfl, e ▸ DGet.k (k := Sum.inl x) h, k⟩
theorem w_dIn {ty td : TE} {Q : VK} (h : ty σ H fun y H1 => td σ H1 fun x H2 => ∃ a o, x = .ref a ∧ DGet H2 a y o ∧ Q (.bl o.isSome) H2) : tDIn ty td σ H Q := h
theorem w_dNotIn {ty td : TE} {Q : VK} (h : ty σ H fun y H1 => td σ H1 fun x H2 => ∃ a o, x = .ref a ∧ DGet H2 a y o ∧ Q (.bl (!o.isSome)) H2) : tDNotIn ty td σ H Q := h
theorem w_dinS {a : Addr} {kvs : List (Key × V)} {x : Str} {R : Option V → Prop} (h : H a = some (.dK kvs)) (k : R (valV kvs (Sum.inr x : Key))) : ∃ a' o, V.ref a = .ref a' ∧ DGet H a' (.str x) o ∧ R o := ⟨a, _, rfl, DGet.k (k := Sum.inr x) h, k⟩
theorem w_sDPut {td ty tv : TE} (h : tv σ H fun v H1 => td σ H1 fun x H2 => ty σ H2 fun y H3 => ∃ a H4, x = .ref a ∧ DPut H3 a y v H4 ∧ D.nx σ H4) : sDPut td ty tv D σ H := h
theorem w_dputI {a : Addr} {kvs : List (Key × V)} {x : Int} {v : V} {R : Hp → Prop} (h : H a = some (.dK kvs)) (l : kvs.length < sizeLine) (k : R (upd H a (.dK (putK kvs (Sum.inl x : Key) v)))) : ∃ a' H', V.ref a = .ref a' ∧ DPut H a' (.int x) v H' ∧ R H' := ⟨a, _, rfl, DPut.k (k := Sum.inl x) h l, k⟩
theorem w_dputS {a : Addr} {kvs : List (Key × V)} {x : Str} {v : V} {R : Hp → Prop} (h : H a = some (.dK kvs)) (l : kvs.length < sizeLine) (k : R (upd H a (.dK (putK kvs (Sum.inr x : Key) v)))) : ∃ a' H', V.ref a = .ref a' ∧ DPut H a' (.str x) v H' ∧ R H' := ⟨a, _, rfl, DPut.k (k := Sum.inr x) h l, k⟩
theorem w_dnewK {Q : VK} (k : ∀ p, H p = none → Q (.ref p) (upd H p (.dK []))) : tDNewK σ H Q := k
theorem w_meth {C : Addr} {m : Str} {sp : Sp} {dvs : List V} {E : XK} {ta : TE} {t : TA} {Q : VK} (h : ta σ H fun x H1 => ∃ a dx fs, x = .ref a ∧ H1 a = some (.ins C dx fs) ∧ fs.lookup m = none ∧ t σ H1 fun vs H2 => sp (x :: (vs ++ dvs)) H2 Q E) : tMeth C m sp dvs E ta t σ H Q := h
theorem w_meth1 {a C dx : Addr} {m : Str} {fs : List (Str × V)} {P : Prop} (h : H a = some (.ins C dx fs)) (l : fs.lookup m = none) (k : P) : ∃ a' dx' fs', V.ref a = .ref a' ∧ H a' = some (.ins C dx' fs') ∧ fs'.lookup m = none ∧ P := ⟨a, dx, fs, rfl, h, l, k⟩
theorem w_make {C : Addr} {sp : Sp} {dvs : List V} {E : XK} {t : TA} {Q : VK} (h : t σ H fun vs H1 => ∀ x dx, H1 x = none → H1 dx = none → dx ≠ x → sp (.ref x :: (vs ++ dvs)) (upd (upd H1 dx (.own x)) x (.ins C dx [])) (fun v H2 => v = .non ∧ Q (.ref x) H2) E) : tMake C sp dvs E t σ H Q := h
end steps
theorem sc_is_number : FnScope ["value", "least", "most"] ["value", "least", "most"] (defScope s_is_number) := ⟨rfl, rfl, rfl, by decide +kernel, rfl, by decide +kernel, by decide +kernel⟩
theorem sc_checked_number : FnScope ["value", "least", "most"] ["value", "least", "most"] (defScope s_checked_number) := ⟨rfl, rfl, rfl, by decide +kernel, rfl, by decide +kernel, by decide +kernel⟩
theorem sc_Disk___init__ : FnScope ["self"] ["self"] (defScope s_Disk___init__) := ⟨rfl, rfl, rfl, by decide +kernel, rfl, by decide +kernel, by decide +kernel⟩
theorem sc_Disk_names : FnScope ["self"] ["self"] (defScope s_Disk_names) := ⟨rfl, rfl, rfl, by decide +kernel, rfl, by decide +kernel, by decide +kernel⟩
theorem sc_Disk__file : FnScope ["self", "name"] ["self", "name"] (defScope s_Disk__file) := ⟨rfl, rfl, rfl, by decide +kernel, rfl, by decide +kernel, by decide +kernel⟩
theorem sc_Disk_read : FnScope ["self", "name", "at"] ["self", "name"] (defScope s_Disk_read) := ⟨rfl, rfl, rfl, by decide +kernel, rfl, by decide +kernel, by decide +kernel⟩
theorem sc_Disk_size : FnScope ["self", "name"] ["self", "name"] (defScope s_Disk_size) := ⟨rfl, rfl, rfl, by decide +kernel, rfl, by decide +kernel, by decide +kernel⟩
theorem sc_Disk_make : FnScope ["self", "name"] ["self", "name"] (defScope s_Disk_make) := ⟨rfl, rfl, rfl, by decide +kernel, rfl, by decide +kernel, by decide +kernel⟩
theorem sc_Disk__change : FnScope ["self", "row"] ["self", "row"] (defScope s_Disk__change) := ⟨rfl, rfl, rfl, by decide +kernel, rfl, by decide +kernel, by decide +kernel⟩
theorem sc_Disk_write : FnScope ["self", "name", "text", "at"] ["self", "name", "text"] (defScope s_Disk_write) := ⟨rfl, rfl, rfl, by decide +kernel, rfl, by decide +kernel, by decide +kernel⟩
theorem sc_Disk_sync : FnScope ["self", "name", "at"] ["self", "name"] (defScope s_Disk_sync) := ⟨rfl, rfl, rfl, by decide +kernel, rfl, by decide +kernel, by decide +kernel⟩
theorem sc_Disk_sync_names : FnScope ["self"] ["self"] (defScope s_Disk_sync_names) := ⟨rfl, rfl, rfl, by decide +kernel, rfl, by decide +kernel, by decide +kernel⟩
theorem sc_Disk_remove : FnScope ["self", "name"] ["self", "name"] (defScope s_Disk_remove) := ⟨rfl, rfl, rfl, by decide +kernel, rfl, by decide +kernel, by decide +kernel⟩
theorem sc_Disk_cut : FnScope ["self", "name", "size", "at"] ["self", "name", "size"] (defScope s_Disk_cut) := ⟨rfl, rfl, rfl, by decide +kernel, rfl, by decide +kernel, by decide +kernel⟩
theorem sc_Disk_copy : FnScope ["self", "other"] ["self"] (defScope s_Disk_copy) := ⟨rfl, rfl, rfl, by decide +kernel, rfl, by decide +kernel, by decide +kernel⟩
theorem sc_applied : FnScope ["names", "changes", "found", "word", "one", "other"] ["names", "changes"] (defScope s_applied) := ⟨rfl, rfl, rfl, by decide +kernel, rfl, by decide +kernel, by decide +kernel⟩
theorem sc_check_of : FnScope ["text", "found", "sign"] ["text"] (defScope s_check_of) := ⟨rfl, rfl, rfl, by decide +kernel, rfl, by decide +kernel, by decide +kernel⟩
theorem sc_checked_text : FnScope ["text", "sign"] ["text"] (defScope s_checked_text) := ⟨rfl, rfl, rfl, by decide +kernel, rfl, by decide +kernel, by decide +kernel⟩
theorem sc_framed : FnScope ["text"] ["text"] (defScope s_framed) := ⟨rfl, rfl, rfl, by decide +kernel, rfl, by decide +kernel, by decide +kernel⟩
theorem sc__number : FnScope ["text", "at", "end", "word", "sign"] ["text", "at"] (defScope s__number) := ⟨rfl, rfl, rfl, by decide +kernel, rfl, by decide +kernel, by decide +kernel⟩
theorem sc_one_frame : FnScope ["text", "at", "first", "second", "start", "end", "inside"] ["text", "at"] (defScope s_one_frame) := ⟨rfl, rfl, rfl, by decide +kernel, rfl, by decide +kernel, by decide +kernel⟩
theorem sc_read_frames : FnScope ["text", "found", "at", "frame"] ["text"] (defScope s_read_frames) := ⟨rfl, rfl, rfl, by decide +kernel, rfl, by decide +kernel, by decide +kernel⟩
theorem sc_part_name : FnScope ["first", "word"] ["first"] (defScope s_part_name) := ⟨rfl, rfl, rfl, by decide +kernel, rfl, by decide +kernel, by decide +kernel⟩
theorem sc_part_names : FnScope ["disk", "name"] ["disk"] (defScope s_part_names) := ⟨rfl, rfl, rfl, by decide +kernel, rfl, by decide +kernel, by decide +kernel⟩
theorem sc_is_part : FnScope ["name", "figures", "sign"] ["name"] (defScope s_is_part) := ⟨rfl, rfl, rfl, by decide +kernel, rfl, by decide +kernel, by decide +kernel⟩
theorem sc_first_of : FnScope ["name"] ["name"] (defScope s_first_of) := ⟨rfl, rfl, rfl, by decide +kernel, rfl, by decide +kernel, by decide +kernel⟩
theorem sc_Log___init__ : FnScope ["self", "disk", "most"] ["self", "disk", "most"] (defScope s_Log___init__) := ⟨rfl, rfl, rfl, by decide +kernel, rfl, by decide +kernel, by decide +kernel⟩
theorem sc_Log__begin : FnScope ["self", "first"] ["self", "first"] (defScope s_Log__begin) := ⟨rfl, rfl, rfl, by decide +kernel, rfl, by decide +kernel, by decide +kernel⟩
theorem sc_Log__found : FnScope ["self", "name", "first", "texts", "signs"] ["self"] (defScope s_Log__found) := ⟨rfl, rfl, rfl, by decide +kernel, rfl, by decide +kernel, by decide +kernel⟩
theorem sc_Log_first : FnScope ["self"] ["self"] (defScope s_Log_first) := ⟨rfl, rfl, rfl, by decide +kernel, rfl, by decide +kernel, by decide +kernel⟩
theorem sc_Log_next : FnScope ["self"] ["self"] (defScope s_Log_next) := ⟨rfl, rfl, rfl, by decide +kernel, rfl, by decide +kernel, by decide +kernel⟩
theorem sc_Log_add : FnScope ["self", "text"] ["self", "text"] (defScope s_Log_add) := ⟨rfl, rfl, rfl, by decide +kernel, rfl, by decide +kernel, by decide +kernel⟩
theorem sc_Log_sync : FnScope ["self"] ["self"] (defScope s_Log_sync) := ⟨rfl, rfl, rfl, by decide +kernel, rfl, by decide +kernel, by decide +kernel⟩
theorem sc_Log_text : FnScope ["self", "number", "part", "row"] ["self", "number"] (defScope s_Log_text) := ⟨rfl, rfl, rfl, by decide +kernel, rfl, by decide +kernel, by decide +kernel⟩
theorem sc_Log_texts : FnScope ["self", "start", "number"] ["self", "start"] (defScope s_Log_texts) := ⟨rfl, rfl, rfl, by decide +kernel, rfl, by decide +kernel, by decide +kernel⟩
theorem sc_Log_parts : FnScope ["self", "first", "texts"] ["self"] (defScope s_Log_parts) := ⟨rfl, rfl, rfl, by decide +kernel, rfl, by decide +kernel, by decide +kernel⟩
theorem sc_new_log : FnScope ["most"] ["most"] (defScope s_new_log) := ⟨rfl, rfl, rfl, by decide +kernel, rfl, by decide +kernel, by decide +kernel⟩
theorem sc__law_same : FnScope ["actual", "due", "k"] ["actual", "due"] (defScope s__law_same) := ⟨rfl, rfl, rfl, by decide +kernel, rfl, by decide +kernel, by decide +kernel⟩
theorem sc__law_pool : FnScope ["script"] ["script"] (defScope s__law_pool) := ⟨rfl, rfl, rfl, by decide +kernel, rfl, by decide +kernel, by decide +kernel⟩
theorem sc__law_draw : FnScope ["pool", "many", "found", "cell", "mixed"] ["pool", "many"] (defScope s__law_draw) := ⟨rfl, rfl, rfl, by decide +kernel, rfl, by decide +kernel, by decide +kernel⟩
theorem sc__law_pick : FnScope ["pool", "rows"] ["pool", "rows"] (defScope s__law_pick) := ⟨rfl, rfl, rfl, by decide +kernel, rfl, by decide +kernel, by decide +kernel⟩
theorem sc__law_refusal : FnScope ["problem", "kinds", "found", "k"] ["problem"] (defScope s__law_refusal) := ⟨rfl, rfl, rfl, by decide +kernel, rfl, by decide +kernel, by decide +kernel⟩
theorem sc__law_refused : FnScope ["choice", "one", "two", "problem"] ["choice", "one", "two"] (defScope s__law_refused) := ⟨rfl, rfl, rfl, by decide +kernel, rfl, by decide +kernel, by decide +kernel⟩
theorem sc_law : FnScope ["script", "pool", "number", "figures", "wrong", "most", "many", "disk", "log", "k", "names", "first", "count", "at", "here", "choice", "told", "size", "j"] ["script"] (defScope s_law) := ⟨rfl, rfl, rfl, by decide +kernel, rfl, by decide +kernel, by decide +kernel⟩
/-! ### a comprehension over range(..) where an exception is being handled -/
/-- one more number of a range's iterator; X may be handling something -/
theorem rgH_go {X : Cx} {ps : List (Addr × Obj)} {τ : L2.St} {G : Hp} {z : Shared} {tg : Expr} {j : Addr} {lo : Int} {n i : Nat} {E : Value → Shared → Prop} (J : Inv X ps τ G z) (fr : FpOk X ps G j)
    (at_ : IsRangeIter z.heap j (lo + (i : Nat) * 1) ((n : Int) - (i : Nat)) 1) (lt : i < n) :
    wpAny (model X.prog X.w) X.A (pyNext (.ref j)) (fun r z1 => ∃ u, r = some u ∧ wpAny (model X.prog X.w) X.A (letOwnedTupleGo tg (.ref j) u) (fun _ z2 =>
      Inv X ps τ G z2 ∧ RelV (.int (lo + i)) u ∧ IsRangeIter z2.heap j (lo + ((i + 1 : Nat) : Int) * 1) ((n : Int) - ((i + 1 : Nat) : Int)) 1) E z1) E z := by
  obtain ⟨q0, q1, _, q3, q4, q5⟩ := fr
  refine wpAny_pyNext_range_item at_ (by omega) fun g at2 same => ?_
  rw [show lo + ((i : Nat) : Int) * 1 + 1 = lo + ((i + 1 : Nat) : Int) * 1 by omega, show (n : Int) - ((i : Nat) : Int) - 1 = (n : Int) - ((i + 1 : Nat) : Int) by omega] at at2
  have J2 : Inv X ps τ G { z with heap := g, toks := z.toks + 1 } := J.turned (fun b o nb e => (same.2 b nb).trans e) q0 q1 q3 q4 q5
  refine ⟨_, rfl, ?_⟩
  refine go_of (n := "range_iterator") (s := { z with heap := g, toks := z.toks + 1 }) at2 rfl rfl (by decide) ⟨J2, ⟨z.toks, ?_⟩, at2⟩
  rw [Int.mul_one]
/-- no more of them -/
theorem rgH_end {X : Cx} {ps : List (Addr × Obj)} {τ : L2.St} {G : Hp} {z : Shared} {j x1 : Addr} {lo : Int} {n i : Nat} {E : Value → Shared → Prop} (J : Inv X ps τ G z) (fr : FpOk X ps G j) (hot : HotX.HotAt X.A x1 z.heap)
    (at_ : IsRangeIter z.heap j (lo + (i : Nat) * 1) ((n : Int) - (i : Nat)) 1) (ge : n ≤ i) :
    wpAny (model X.prog X.w) X.A (pyNext (.ref j)) (fun r z1 => r = none ∧ Inv X ps τ G z1) E z := by
  obtain ⟨q0, q1, _, q3, q4, q5⟩ := fr
  exact HotX.pyNext_range_end_hot hot at_ (by omega) fun g all => ⟨rfl, J.turned (t' := z.toks) (fun b o _ e => all b o e) q0 q1 q3 q4 q5⟩
/-- what is pinned outside stands within a comprehension's block, too -/
theorem inv_withPn {X : Cx} {ps : List (Addr × Obj)} {τ : L2.St} {G : Hp} {z : Shared} (J : Inv X ps τ G z) (pn : List (Addr × Obj)) (hp : ∀ p ∈ pn, z.heap.get? p.1 = some p.2 ∧ G p.1 = none ∧ p.1 ≠ X.env.locals ∧ p.1 ∉ X.fs ∧ ∀ v, p.2.data ≠ .cell v) : Inv { X with pn := pn } ps τ G z where
  ok := ⟨J.ok.mod, J.ok.kind, J.ok.glob, J.ok.blt, J.ok.above, J.ok.inj, J.ok.has, J.ok.cab, J.ok.hd, J.ok.frames, J.ok.stk, J.ok.exf, J.ok.bs, J.ok.bsz, J.ok.noex, J.ok.exfs, J.ok.funs, J.ok.frf⟩
  os := J.os
  bare := J.bare
  base := J.base
  loc := J.loc
  cell := J.cell
  free := J.free
  freeC := J.freeC
  pin := fun p m => (List.mem_append.mp m).elim (hp p) fun m2 => J.pin p (List.mem_append_right _ m2)
  hok := J.hok
  len := J.len
theorem inv_noPn {X : Cx} {ps pn : List (Addr × Obj)} {τ : L2.St} {G : Hp} {z : Shared} (J : Inv { X with pn := pn } ps τ G z) (h0 : X.pn = []) : Inv X ps τ G z where
  ok := ⟨J.ok.mod, J.ok.kind, J.ok.glob, J.ok.blt, J.ok.above, J.ok.inj, J.ok.has, J.ok.cab, J.ok.hd, J.ok.frames, J.ok.stk, J.ok.exf, J.ok.bs, J.ok.bsz, J.ok.noex, J.ok.exfs, J.ok.funs, J.ok.frf⟩
  os := J.os
  bare := J.bare
  base := J.base
  loc := J.loc
  cell := J.cell
  free := J.free
  freeC := J.freeC
  pin := fun p m => J.pin p (List.mem_append_right _ (by rw [h0] at m; exact m))
  hok := J.hok
  len := J.len
section
variable {X : Cx}
/-- [elt for tg in iter if ..] while something is handled: what lc_core tells where nothing is -/
theorem hot_core {ps : List (Addr × Obj)} {z : Shared} {τ : L2.St} {G : Hp} {Q : VK} {elt tg iter : Expr} {ifs : List Expr} {scope : Scope} {own : List (Str × Nat)} {pos pos' : Pos} {wi : TI} {g : TG} {tt : TT} {te : TE} {use : Option (Value → Sem Unit)} {Qf : Value → Shared → Prop}
    (hot : L2H.HotC X) (nd : X.N.Nodup) (J : Inv X ps τ G z) (hi : L2H.PIH X tg iter wi) (ok : BlkOk X.N X.env.scope scope own)
    (tgR : ∀ z G C cl fp, PG (X.blk z G scope (compEnvC scope cl C X.env) fp) tg g) (ifR : ∀ z G C cl fp, PTs (X.blk z G scope (compEnvC scope cl C X.env) fp) ifs tt)
    (elR : ∀ z G C cl fp, PE (X.blk z G scope (compEnvC scope cl C X.env) fp) elt te) (fold : ∀ x, foldedSetIterable iter X.env x = pure x) (rd : tLc wi g tt te (own.map (·.2)) τ G Q)
    (fin : ∀ D C z' m G', Inv X ps τ G' z' → Q (.ref D) G' → z'.heap.Ns C m → FpOk X ps G' C → compPost (model X.prog X.w) X.A X.xe use Qf (.ref D) C (.ok .next) z') :
    wpAny (model X.prog X.w) X.A (comprehension (.ListComp elt [⟨tg, iter, ifs, 0⟩] scope pos) scope X.env pos' (newList []) false (eval iter X.env) use) Qf X.xe z := by
  have clo := closure_ok (scope := scope) (env := X.env) fun y hy e => J.ok.has _ ((ok.free y hy e).imp id id)
  refine wpAny_comprehension_free (use := use) rfl fold clo ok.kind (fun y hy e => (ok.uniq y hy).trans (by rw [e])) ?_
  refine thn (hi.run ps z τ G _ J rd) fun _ z1 r1 => thn r1 fun _ z2 ⟨j, fp, tn, It0, G2, ej, J2, T, t2, free2, rd2⟩ => ?_
  subst ej
  refine wpAny_newObj_type (newEnv_comp ?_) (by show 0 ≤ sizeLine; decide)
  have newD : G2 z2.heap.objs.size = none := J2.hok.fresh (Nat.le_refl _)
  obtain ⟨W, ⟨m0, w0⟩, turn⟩ := rd2 _ newD
  -- the block's beginning
  obtain ⟨z3, ez3⟩ : ∃ z3 : Shared, z3 = { z2 with heap := z2.heap.push { cls := .type "list", data := .seq ([] : List Value).toArray } } := ⟨_, rfl⟩
  obtain ⟨G3, eG3⟩ : ∃ G3 : Hp, G3 = upd G2 z2.heap.objs.size (.lst []) := ⟨_, rfl⟩
  have grow : ∀ b o, z2.heap.get? b = some o → z3.heap.get? b = some o := fun b o e => by rw [ez3]; exact Heap.get?_push_of_some _ e
  have J3 : Inv X ps τ G3 z3 := by
    rw [ez3, eG3]
    exact J2.laid (t' := z2.toks) (fun b o e => Heap.get?_push_of_some _ e) (Nat.le_refl _) ⟨Nat.zero_le _, [], 0, .nil, Heap.get?_push_size _ rfl⟩
  have size3 : z3.heap.objs.size = z2.heap.objs.size + 1 := by rw [ez3]; exact Heap.size_push _ _
  have small : ∀ b ∈ fp, b < z2.heap.objs.size := fun b m => (T.obj _ _ t2 b m).elim fun _ e => Heap.lt_size e.1
  have free3 : ∀ b ∈ fp, FpOk X ps G3 b ∧ b < z3.heap.objs.size := fun b m => by
    have lt := small b m
    refine ⟨⟨?_, (free2 b m).2⟩, by rw [size3]; exact Nat.lt_succ_of_lt lt⟩
    rw [eG3, upd_ne (Nat.ne_of_lt lt)]
    exact (free2 b m).1
  have t3 : tn 0 z3.heap := T.keep _ _ _ t2 fun b _ o e => grow b o e
  have B0 := block_start J3 ok nd free3
  have tg1 := tgR z3 G3 z3.heap.objs.size (cellsFrom (z3.heap.objs.size + 1) scope.names (cloFrom X.env.cells scope.names [])) fp
  have if1 := ifR z3 G3 z3.heap.objs.size (cellsFrom (z3.heap.objs.size + 1) scope.names (cloFrom X.env.cells scope.names [])) fp
  have el1 := elR z3 G3 z3.heap.objs.size (cellsFrom (z3.heap.objs.size + 1) scope.names (cloFrom X.env.cells scope.names [])) fp
  rw [← eG3] at w0
  rw [show z2.heap.push { cls := .type "list", data := .seq ([] : List Value).toArray } = z3.heap by rw [ez3]]
  show codeAny _ _ (.compStart (.ListComp elt [⟨tg, iter, ifs, 0⟩] scope pos) 0 (.ref j) (.ref z2.heap.objs.size) (compEnvC scope (cellsFrom (z3.heap.objs.size + 1) scope.names (cloFrom X.env.cells scope.names [])) z3.heap.objs.size X.env)) (compPost (model X.prog X.w) X.A X.xe use Qf (.ref z2.heap.objs.size) z3.heap.objs.size) _
  rw [show ({ z2 with heap := pushCells (z3.heap.push { cls := .type "dict", data := .dict #[] }) scope.names } : Shared) = { z3 with heap := pushCells (z3.heap.push { cls := .type "dict", data := .dict #[] }) scope.names } by rw [ez3]]
  generalize hce : compEnvC scope (cellsFrom (z3.heap.objs.size + 1) scope.names (cloFrom X.env.cells scope.names [])) z3.heap.objs.size X.env = ce at B0 tg1 if1 el1 ⊢
  have ceL : ce.locals = z3.heap.objs.size := by rw [← hce]; rfl
  obtain ⟨z4, ez4⟩ : ∃ z4 : Shared, z4 = { z3 with heap := pushCells (z3.heap.push { cls := .type "dict", data := .dict #[] }) scope.names } := ⟨_, rfl⟩
  rw [← ez4] at B0 ⊢
  have t4 : tn 0 z4.heap := T.keep _ _ _ t3 fun b _ o e => by rw [ez4]; exact pushCells_keeps _ _ _ _ (Heap.get?_push_of_some _ e)
  -- what is pinned outside is pinned in the block
  have pinned : ∀ {τ' : L2.St} {G' : Hp} {z' : Shared}, Inv (X.blk z3 G3 scope ce fp) [] τ' G' z' → Inv { X.blk z3 G3 scope ce fp with pn := X.pn } [] τ' G' z' := fun {τ' G' z'} J' => inv_withPn J' X.pn fun p m => by
    obtain ⟨a1, a2, a3, a4, a5⟩ := J3.pin p (List.mem_append_left _ m)
    have nfs : p.1 ∉ frs X.stack := fun y => (List.mem_cons.mp (J3.stkSub p.1 y)).elim a3 a4
    have nfp : p.1 ∉ fp := fun y => (free3 p.1 y).1.2.2.2.2.2 p (List.mem_append_left _ m) rfl
    exact ⟨J'.base.keep _ _ a1 a2 nfs nfp, J'.base.free _ _ a1 a2 nfp, fun y => absurd (Heap.lt_size a1) (by rw [show p.1 = z3.heap.objs.size from y.trans ceL]; exact Nat.lt_irrefl _), nfs, a5⟩
  have hotB : L2H.HotC { X.blk z3 G3 scope ce fp with pn := X.pn } := hot
  have away : ∀ {τ' : L2.St} {G' : Hp} {z' : Shared}, Inv { X.blk z3 G3 scope ce fp with pn := X.pn } [] τ' G' z' → (∀ b ∈ fp, G' b = none) → ∀ b ∈ fp, FpOk { X.blk z3 G3 scope ce fp with pn := X.pn } [] G' b := fun {τ' G' z'} J' no b m =>
    ⟨no b m, (J'.ok.exf b m).1, J'.ok.exfs b m, .inl m, fun x c e => (J'.ok.exf b m).2 x c e, fun p y => (free3 b m).1.2.2.2.2.2 p (List.mem_append_left _ ((List.mem_append.mp y).elim id fun v => by cases v))⟩
  refine codeAny_compStart_list ?loop (T.self X.A 0 _ _ _ t4 ?loop)
  refine compLoop_any (fun n z' => ∃ i G', Inv (X.blk z3 G3 scope ce fp) [] (wipe τ (own.map (·.2))) G' z' ∧ tn i z'.heap ∧ (∀ b ∈ fp, G' b = none) ∧ W i n G') ?_ m0 ⟨0, G3, B0, t4, fun b m => (free3 b m).1.1, w0⟩
  rintro n z5 ⟨i, G5, J5, t5, no5, w5⟩
  have P5 := pinned J5
  rcases turn i n G5 w5 with ⟨stop, q⟩ | ⟨go, Nx, less, step⟩
  · refine thnF (T.done { X.blk z3 G3 scope ce fp with pn := X.pn } rfl rfl rfl hotB i [] z5 _ G5 (fun _ _ => False) P5 (away P5 no5) t5 stop) fun r z6 ⟨er, J6⟩ => ?_
    subst er
    have back : Inv X ps τ G5 z6 := J3.call' (ch := fp) J6.os J6.base J6.hok J6.bare fun b m => ⟨(free3 b m).1.2.2.2.1, (free3 b m).1.2.1, (free3 b m).1.2.2.2.2.1, (free3 b m).1.2.2.2.2.2⟩
    have noC : G5 z3.heap.objs.size = none := ceL ▸ J6.free
    obtain ⟨m, ns, _⟩ := J6.loc
    exact fin _ z3.heap.objs.size z6 m G5 back q (ceL ▸ ns) (J3.fpOk (Nat.le_refl _) noC)
  · refine thnF (T.item { X.blk z3 G3 scope ce fp with pn := X.pn } rfl rfl rfl hotB i [] z5 _ G5 (fun _ _ => False) P5 (away P5 no5) t5 go) fun r z6 ⟨u, er, h6⟩ => ?_
    subst er
    refine thnF h6 fun _ z7 ⟨x, G7, P7, r7, y7, t7, no7⟩ => ?_
    have J7 := (inv_noPn P7 rfl).pinned (fun b m => let a := away P7 no7 b m; ⟨a.1, a.2.1, a.2.2.1, a.2.2.2.1, a.2.2.2.2.1, fun p y => by cases y⟩) (T.obj _ _ t7)
    refine thnF (tg1.run _ z7 _ G7 x u _ J7 r7 (step x G7 y7)) fun _ z8 ⟨τ8, G8, J8, ew8, q8⟩ => thnF (if1.run _ z8 τ8 G8 _ J8 q8) fun b z9 ⟨G9, J9, q9⟩ => ?_
    have next : ∀ {z' : Shared} {G' : Hp}, Inv (X.blk z3 G3 scope ce fp) ([] ++ pinsAt fp z7.heap) τ8 G' z' → Nx G' → ∃ m, m < n ∧ ∃ i G', Inv (X.blk z3 G3 scope ce fp) [] (wipe τ (own.map (·.2))) G' z' ∧ tn i z'.heap ∧ (∀ b ∈ fp, G' b = none) ∧ W i m G' := fun {z' G'} J' nx => by
      obtain ⟨m', lt, w'⟩ := less G' nx
      have held : ∀ b ∈ fp, ∀ o, z7.heap.get? b = some o → z'.heap.get? b = some o ∧ G' b = none := fun b m o e =>
        ⟨(J'.pin (b, o) (List.mem_append_right _ (List.mem_append_right _ (mem_pinsAt m e)))).1, (J'.pin (b, o) (List.mem_append_right _ (List.mem_append_right _ (mem_pinsAt m e)))).2.1⟩
      refine ⟨m', lt, i + 1, G', (J'.unpinned (pins := [])).weak (by rw [← ew8, wipe_length]) (fun k v e => (wipe_some (ew8 ▸ e)).1), T.keep _ _ _ t7 fun b m o e => (held b m o e).1, fun b m => ?_, w'⟩
      exact (T.obj _ _ t7 b m).elim fun o e => (held b m o e.1).2
    cases b with
    | false => exact next J9 (by simpa using q9)
    | true =>
      have q9' : te τ8 G9 fun y H4 => ∃ acc, H4 z2.heap.objs.size = some (.lst acc) ∧ acc.length < sizeLine ∧ Nx (upd H4 z2.heap.objs.size (.lst (acc ++ [y]))) := by simpa using q9
      refine thnF (el1.run _ z9 τ8 G9 _ J9 q9') fun v z10 ⟨y, G10, J10, r10, acc, eD, sz, nx⟩ => ?_
      exact app_ok (X := X.blk z3 G3 scope ce fp) J10 eD sz r10 fun z11 J11 => next J11 nx
end
section
variable {X : Cx}
/-- y = [..] on one line, y a local, while something is handled -/
theorem ps_hotLc {i : Nat} {y : Str} {yp : Pos} {elt tg iter : Expr} {ifs : List Expr} {scope : Scope} {own : List (Str × Nat)} {pos spos : Pos} {wi : TI} {g : TG} {tt : TT} {te : TE} (hot : L2H.HotC X) (nd : X.N.Nodup) (at_ : X.N[i]? = some y) (loc : X.env.scope.names.lookup y = some .local)
    (sw : swapsWith (.ListComp elt [⟨tg, iter, ifs, 0⟩] scope pos) (some (.Name y yp)) spos.line X.env = pure true) (hi : L2H.PIH X tg iter wi) (ok : BlkOk X.N X.env.scope scope own)
    (tgR : ∀ z G C cl fp, PG (X.blk z G scope (compEnvC scope cl C X.env) fp) tg g) (ifR : ∀ z G C cl fp, PTs (X.blk z G scope (compEnvC scope cl C X.env) fp) ifs tt)
    (elR : ∀ z G C cl fp, PE (X.blk z G scope (compEnvC scope cl C X.env) fp) elt te) (fold : ∀ x, foldedSetIterable iter X.env x = pure x := by intro _; rfl) :
    PS X (.Assign [.Name y yp] (.ListComp elt [⟨tg, iter, ifs, 0⟩] scope pos) spos) (tAsg (tLc wi g tt te (own.map (·.2))) (gName i)) := ⟨fun ps z τ G D J rd => by
  rw [exec_Assign_Name_used _ _ _ _ sw]
  refine wpAny_bind (wpAny_standAt (wpAny_bind ?_))
  refine wpAny_bind (thn (hot_core (use := some (assign (.Name y yp) X.env)) (Qf := fun _ z' => SP X ps D .next z') (Q := fun x G1 => gName i x τ G1 D.nx) hot nd J hi ok tgR ifR elR fold rd fun L C z' m G' J' q ns free => ?_) fun _ z' e => wpAny_pure (wpAny_pure e))
  obtain ⟨c0, c1, _, c3, c4, c5⟩ := free
  refine wpAny_assign_Name (store_ok2 (v := V.ref L) J' nd at_ (.inl loc) rfl (fun z2 J2 st => ?_) (.inr loc))
  obtain ⟨b, same, where_⟩ := st
  have ne : C ≠ b := where_.elim (fun e => by rw [e]; exact c1) fun e k => c4 y b e k.symm
  exact ⟨m, ns.sameBut same ne, fun g3 s3 => ⟨_, G', J2.turned (t' := z2.toks) (fun b o nb e => (s3.2 b nb).trans e) c0 c1 c3 c4 c5, q⟩⟩⟩
end
/-! ### a def that an except suite hands its exception -/
/-- called with the exception that is being handled, of the class C, it gives r, and what stood stands -/
structure FnE (P : Program) (w : World) (K : PySem.W.Frag) (mg : Str → Option Value) (base : Heap) (C : Addr) (k : Nat) (f : Addr) (fd : FuncData) (ps : List Str) (r : V) : Prop where
  run : ∀ (A : Around) (outer : List Env) (z : Shared) (G : Hp) (args : Args) (us : List Value) (p : Addr × Obj) (Q : VK), L2H.RoomH k A → L2H.Hot1 A p → Zc (.ref C) none p.2 → L2H.PinOk outer G z p → Env0 P w K mg base A outer z G →
    BindsTo z fd args (ps.zip us) → Vals [V.ref p.1] us → (∀ G', Same G G' → Q r G') → codeAny (model P w) A (.call (.ref f) args) (CR CX0 outer P w G z Q E0) z
theorem fnE_of {P : Program} {w : World} {K : PySem.W.Frag} {mg : Str → Option Value} {base : Heap} {C : Addr} {k : Nat} {f : Addr} {x qual : Str} {st : Stmt} {fd : FuncData} {N ps : List Str} {r : V} (F : Fun K x qual st f fd) (S : FnScope N ps (defScope st)) (one : ps.length = 1)
    (rd : ∀ (cd : Value) (A : Around) (outer : List Env) (z : Shared) (G : Hp) (Q : VK) (p : Addr × Obj), L2H.Hot1 A p → Zc (.ref C) none p.2 → L2H.RoomH k (A.deeper (envOfC qual (defScope st) z.heap.objs.size f cd)) → (∀ G', Same G G' → Q r G') →
      ∃ t, PSs (L2H.cxH CX0 P w K mg base N qual (defScope st) f cd A outer z G E0 p) (defBody st) t ∧ t { nx := fun _ G' => Q .non G', rt := Q } (L2.start N [V.ref p.1]) G) :
    FnE P w K mg base C (k + 1) f fd ps r := by
  obtain ⟨oc, od, kV, doc, pm, an, cd, ct, sl, rfl, lk, hcd⟩ := F.ex
  refine ⟨fun A outer z G args us p Q room hot zc pin e0 bind vals q => ?_⟩
  have kz : K.In z.heap := e0.mod.kin.keeps fun b o e => (e0.bs b o e).1
  have nl : z.heap.NoLimit := e0.mod.nolimit.keeps fun b o e => (e0.bs b o e).1
  have kinds : ∀ y ∈ ps.zip us, (defScope st).names.lookup y.1 = some .local ∨ ((defScope st).names.lookup y.1 = some .cell ∧ ((cellsFrom (z.heap.objs.size + 1) (defScope st).names []).lookup y.1).isSome = true) :=
    fun y m => (S.par y.1 (List.of_mem_zip (show (y.1, y.2) ∈ ps.zip us from m)).1).imp id fun c => ⟨c, PySem.W.cellsFrom_some _ _ _ (.inl c)⟩
  refine codeAny_call_function room.depth (kz _ _ lk) rfl S.co S.gen rfl (PySem.W.codeRec_of kz hcd) (bind _ _ _ _ ?_)
  refine wpAny_newFunctionEnv_cells S.kind kinds fun env ee z1 ic => ?_
  subst ee
  obtain ⟨t, ht, hq⟩ := rd cd A outer z G Q p hot zc (room.deeper _) q
  have J := L2H.inv_startH (vs := [V.ref p.1]) (CX := CX0) (P := P) (w := w) (K := K) (mg := mg) (base := base) (E := E0) S pin e0 one.symm vals ic
  refine ⟨nl.keeps ic.toInCall.keep, codeAny_func (wpAny_mono (ht.run [] z1 _ G _ J hq) (fun fl z' e => ?_) fun _ _ e => e)⟩
  match fl, e with
  | .ret _, ⟨v, τ, G', J', rv, q'⟩ => exact ⟨v, G', J'.os, J'.bare, J'.base, J'.hok, rv, q'⟩
  | .next, ⟨τ, G', J', q'⟩ => exact ⟨.non, G', J'.os, J'.bare, J'.base, J'.hok, rfl, q'⟩
  | .brk, ⟨_, _, _, q'⟩ => exact q'.elim
  | .cont, ⟨_, _, _, q'⟩ => exact q'.elim
/-- f(problem) in the suite -/
theorem pe_handed {X : Cx} {C a : Addr} {oe : Obj} {pn : List (Addr × Obj)} {k i : Nat} {f : Addr} {fd : FuncData} {pp : Str} {r : V} {x y : Str} {p q pos : Pos} (F : FnE X.prog X.w X.K X.mg X.base C k f fd [pp] r) (room : L2H.RoomH k (X.suite a ((a, oe) :: pn)).A)
    (zc : Zc (.ref C) none oe) (hot : L2H.Hot1 (X.suite a ((a, oe) :: pn)).A (a, oe)) (hg : Gl X x) (hm : X.mg x = some (.ref f)) (hk : PySem.W.keepIn X.K (.ref f) = true) (hb : Binds X.K fd [pp] []) (hi : X.N[i]? = some y) (hv : Vis X.env.scope y)
    (hd : (x == ("__debug__" : Str)) = false := by decide) (hd2 : (y == ("__debug__" : Str)) = false := by decide) (hd3 : (y == ("__classdict__" : Str)) = false := by decide) :
    PE (X.suite a ((a, oe) :: pn)) (.Call (.Name x p) [.Name y q] [] pos) (fun σ H Q => σ[i]? = some (some (.ref a)) ∧ ∀ H', Same H H' → Q r H') := ⟨fun ps z τ G Q J rd => by
  have ha : PA (X.suite a ((a, oe) :: pn)) [.Name y q] (tCons (tVar i) tNil) := pa_cons (pe_var hi hv (hd := hd2) (hcd := hd3)) pa_nil
  refine wpAny_Call_Name_kw (ld_glob J hg hm ?_ hd)
  refine PySem.W.callWith_K (h₀ := X.base) J.ok.mod.kin hk (thn (ha.run pos ps z τ G (fun vs G' => vs = [V.ref a] ∧ G' = G) J ⟨_, rd.1, rfl, rfl⟩) fun us z1 ⟨vs, G1, J1, rv, e1, e2⟩ => ⟨J1.kIn, ?_⟩) rfl rfl
  subst e1 e2
  have bind := hb z1 us J1.kIn (by rw [List.append_nil]; exact rv.length.symm)
  rw [List.append_nil] at bind
  have P1 := J1.pin (a, oe) (List.mem_append_left _ (List.mem_cons_self ..))
  have pin : L2H.PinOk X.stack G1 z1 (a, oe) := ⟨P1.1, P1.2.1, fun m => (List.mem_cons.mp (J1.stkSub a m)).elim P1.2.2.1 P1.2.2.2.1, P1.2.2.2.2⟩
  refine wpAny_call (codeAny_mono (F.run _ X.stack z1 G1 ⟨us, []⟩ us (a, oe) Q room hot zc pin J1.env0 bind rv rd.2) fun res z2 e => ?_)
  match res, e with
  | .ok (.ret _), e => exact J1.after e
  | .ok .next, e => exact e.elim
  | .ok .brk, e => exact e.elim
  | .ok .cont, e => exact e.elim
  | .error _, e => exact e.elim⟩
/-- isinstance(e, c), e pinned: an exception of an own class -/
theorem call_isP {X : Cx} {a D : Addr} {oe : Obj} (ec : ExcC X.K D) (zc : Zc (.ref D) none oe) (flds : ∃ vs, oe.data = .fields vs) (m : (a, oe) ∈ X.pn) : CallR X (.builtin "isinstance") (rIsE X.K D a) := fun ps z τ G xs us Q J rv rd => by
  obtain ⟨c, cv, b, rfl, only, kit, q⟩ := rd
  match rv with
  | .cons ra (.cons rc .nil) =>
    obtain rfl := ra
    obtain rfl := only _ rc
    have there : z.heap.get? a = some oe := (J.pin (a, oe) (List.mem_append_left _ m)).1
    have inst : PySem.W.InstAt z.heap a oe D none := by
      obtain ⟨vs, ev⟩ := flds
      match oe, zc, ev with
      | ⟨_, _, _, _⟩, ⟨rfl, rfl⟩, rfl => exact ⟨there, rfl, rfl, trivial⟩
    exact PySem.W.kia_one (PySem.W.handS_kitx_exc ec.hg ec.hk ec.hs ec.hd ec.ha ec.hn ec.ht ec.hm) J.kIn inst kit (fun y => nomatch y) fun tk => ⟨.bl b, G, J.kept (t' := tk) fun _ _ y => y, rfl, q⟩
/-! ### _law_pool, _law_draw, _law_pick -/
/-- a pool at p: its cells at l, how many are taken, what is left of the last great one, the last small one, how many were drawn of it -/
def PoolL (H : Hp) (p l : Addr) : Prop := ∃ (ns : List Int) (a b c d : Int), H p = some (.lst [.ref l, .int a, .int b, .int c, .int d]) ∧ H l = some (.lst (ns.map V.int)) ∧ ns.length ≤ 63 ∧ 0 ≤ a ∧ 0 ≤ b ∧ l ≠ p
/-- all but p is as it was -/
def SameBut (p : Addr) (H H' : Hp) : Prop := ∀ b o, b ≠ p → H b = some o → H' b = some o
theorem SameBut.refl (p : Addr) (H : Hp) : SameBut p H H := fun _ _ _ e => e
theorem SameBut.trans {p : Addr} {H H1 H2 : Hp} (a : SameBut p H H1) (b : SameBut p H1 H2) : SameBut p H H2 := fun c o n e => b c o n (a c o n e)
theorem SameBut.upd {p : Addr} {H H1 : Hp} {o : HO} (a : SameBut p H H1) : SameBut p H (upd H1 p o) := fun b u n e => by rw [upd_ne n]; exact a b u n e
theorem SameBut.of {p : Addr} {H H1 : Hp} (a : Same H H1) : SameBut p H H1 := fun b u _ e => a b u e
theorem SameBut.new {p q : Addr} {H H1 : Hp} {o : HO} (a : SameBut p H H1) (hq : H1 q = none) : SameBut p H (L2.upd H1 q o) := fun b u n e => by
  rw [upd_ne (ne_of_none (a b u n e) hq)]
  exact a b u n e
def spPool (K : PySem.W.Frag) : Sp := fun vs H Q _ => ∃ (a : Addr) (ns : List Int), vs = [.ref a] ∧ SqL K H a (ns.map V.int) ∧ ns.length ≤ 63 ∧ ∀ H' p l, Same H H' → H p = none → H l = none → PoolL H' p l → Q (.ref p) H'
def spDraw : Sp := fun vs H Q _ => ∃ (p l : Addr) (m : Int), vs = [.ref p, .int m] ∧ PoolL H p l ∧ 1 ≤ m ∧ m ≤ 1000000000000000000 ∧ ∀ v H', 0 ≤ v → v < m → PoolL H' p l → SameBut p H H' → Q (.int v) H'
def spPick : Sp := fun vs H Q _ => ∃ (p r l : Addr) (xs : List V), vs = [.ref p, .ref r] ∧ PoolL H p l ∧ H r = some (.lst xs) ∧ r ≠ p ∧ 1 ≤ xs.length ∧ xs.length ≤ sizeLine ∧ ∀ v H', v ∈ xs → PoolL H' p l → SameBut p H H' → Q v H'
section
variable {P : Program} {w : World} {K : PySem.W.Frag} {mg : Str → Option Value} {base : Heap}
theorem ok_pool {f : Addr} {fd : FuncData} (F : Fun K "_law_pool" "_law_pool" s__law_pool f fd) (T : Blt mg) : FnOk P w K mg base CX0 1 f fd ["script"] (spPool K) := by
  refine F.ok sc__law_pool (fun vs H Q E h => ?_) (fun cdv A outer s H vs Q E hr h => ?_)
  · obtain ⟨a, ns, rfl, _⟩ := h
    rfl
  · obtain ⟨a, ns, rfl, hS, hn, k⟩ := h
    refine ⟨_, (pss_one (ps_ret (pe_lst (pa_cons (pe_callTy call_list_of (by rfl) T.b_list (by decide +kernel) (pa_cons (pv 0) pa_nil)) (pa_cons pe_int (pa_cons pe_int (pa_cons pe_int (pa_cons pe_int pa_nil)))))))), ?_⟩
    refine ⟨_, rfl, a, _, rfl, .inl hS, fun l hl => ⟨(by show 5 ≤ sizeLine; decide), fun p hp => ?_⟩⟩
    have nlp : l ≠ p := ne_of_none upd_same hp
    have hp0 : H p = Option.none := by rw [upd_ne (Ne.symm nlp)] at hp; exact hp
    exact k _ p l (same_upd (same_upd (Same.refl _) hl) hp) hp0 hl ⟨ns, 0, 0, 0, 0, upd_same, by rw [upd_ne nlp, upd_same], hn, by omega, by omega, nlp⟩
theorem ok_draw {f : Addr} {fd : FuncData} (F : Fun K "_law_draw" "_law_draw" s__law_draw f fd) (T : Blt mg) : FnOk P w K mg base CX0 1 f fd ["pool", "many"] spDraw := by
  refine F.ok sc__law_draw (fun vs H Q E h => ?_) (fun cdv A outer s H vs Q E hr h => ?_)
  · obtain ⟨p, l, m, rfl, _⟩ := h
    rfl
  · obtain ⟨p, l, m, rfl, ⟨ns, a, b, c, d, hp, hl, hn, ha, hb, nlp⟩, h1, h2, k⟩ := h
    refine ⟨_, (pss_cons (ps_if (pt_cmpR op_gt (pe_ix (r := rIxL K) ix_list (pv 0) pe_int (fun _ _ => rfl)) pe_int (nomark _)) (pss_cons (ps_set (i := 2) sc__law_draw.nd rfl (Or.inl rfl) (pe_op op_modN (pe_callTy call_int1 (by rfl) T.b_int (by decide +kernel) (pa_cons (pe_ix (r := rIxL K) ix_list (pv 0) pe_int (fun _ _ => rfl)) pa_nil)) (pv 1)))
    (pss_cons (ps_asg (pe_op op_fdivW (pe_ix (r := rIxL K) ix_list (pv 0) pe_int (fun _ _ => rfl)) (pv 1)) (pg_sub (pv 0) pe_int set_list))
    (pss_one (ps_ret (pv 2))))) pss_nil)
    (pss_cons (ps_if (PW.pt (pw_and (pt_cmpR op_eq (pe_op op_modN (pe_callTy call_int1 (by rfl) T.b_int (by decide +kernel) (pa_cons (pe_ix (r := rIxL K) ix_list (pv 0) pe_int (fun _ _ => rfl)) pa_nil)) pe_int) pe_int (nomark _)) (pw_and1 (pt_cmpR op_lt (pe_ix (r := rIxL K) ix_list (pv 0) pe_int (fun _ _ => rfl)) (pe_callB call_len (by rfl) T.b_len (by decide +kernel) (pa_cons (pe_ix (r := rIxL K) ix_list (pv 0) pe_int (fun _ _ => rfl)) pa_nil)) (nomark _))))) (pss_cons (ps_set (i := 3) sc__law_draw.nd rfl (Or.inl rfl) (pe_callB call_abs (by rfl) T.b_abs (by decide +kernel) (pa_cons (pe_ix (r := rIxL K) ix_list (pe_ix (r := rIxL K) ix_list (pv 0) pe_int (fun _ _ => rfl)) (pe_ix (r := rIxL K) ix_list (pv 0) pe_int (fun _ _ => rfl)) (fun _ _ => rfl)) pa_nil)))
    (pss_cons (ps_asg (pe_op op_add (pe_ix (r := rIxL K) ix_list (pv 0) pe_int (fun _ _ => rfl)) pe_int) (pg_sub (pv 0) pe_int set_list))
    (pss_cons (ps_if (pt_cmpR op_ge (pv 3) (pe_op op_pow pe_int pe_int) (nomark _)) (pss_cons (ps_asg (pe_op op_fdivW (pv 3) (pv 1)) (pg_sub (pv 0) pe_int set_list))
    (pss_one (ps_ret (pe_op op_modN (pe_callTy call_int1 (by rfl) T.b_int (by decide +kernel) (pa_cons (pv 3) pa_nil)) (pv 1))))) pss_nil)
    (pss_one (ps_asg (pv 3) (pg_sub (pv 0) pe_int set_list)))))) pss_nil)
    (pss_cons (ps_asg (pe_op op_add (pe_ix (r := rIxL K) ix_list (pv 0) pe_int (fun _ _ => rfl)) pe_int) (pg_sub (pv 0) pe_int set_list))
    (pss_cons (ps_set (i := 4) sc__law_draw.nd rfl (Or.inl rfl) (pe_op op_modN (pe_callTy call_int1 (by rfl) T.b_int (by decide +kernel) (pa_cons (pe_op op_add (pe_op op_add (pe_op op_mul (pe_ix (r := rIxL K) ix_list (pv 0) pe_int (fun _ _ => rfl)) pe_int) (pe_op op_mul (pe_ix (r := rIxL K) ix_list (pv 0) pe_int (fun _ _ => rfl)) pe_int)) pe_int) pa_nil)) pe_int))
    (pss_cons (ps_set (i := 4) sc__law_draw.nd rfl (Or.inl rfl) (pe_op op_modN (pe_callTy call_int1 (by rfl) T.b_int (by decide +kernel) (pa_cons (pe_op op_add (pe_op op_mul (pv 4) (pv 4)) (pe_op op_mul (pe_ix (r := rIxL K) ix_list (pv 0) pe_int (fun _ _ => rfl)) pe_int)) pa_nil)) pe_int))
    (pss_one (ps_ret (pe_op op_modN (pe_callTy call_int1 (by rfl) T.b_int (by decide +kernel) (pa_cons (pv 4) pa_nil)) (pv 1))))))))), ?_⟩
    have m0 : (0 : Int) < m := by omega
    have mne : m ≠ 0 := by omega
    have hw : CDivW 0 m := by
      have z := wide_div (i := 0) (j := m) (b := 63) m0 (by omega) (by omega) (by omega)
      exact z
    have hw' : ∀ i : Int, CDivW i m := fun i => hw
    -- the end: pool[4] = pool[4] + 1 .. return
    have fin : ∀ (a b c d : Int) (x y : Option V) (H' : Hp), H' p = some (.lst [.ref l, .int a, .int b, .int c, .int d]) → H' l = some (.lst (ns.map V.int)) → 0 ≤ a → 0 ≤ b → SameBut p H H' →
        tSeq (tAsg (tOp (rI0 fun i j => .int (i + j)) (tOp (rIxL K) (tVar 0) (tC (.int 4))) (tC (.int 1))) (gSub (tVar 0) (tC (.int 4)) rSetL))
          (tSeq (tAsg (tOp (rI (fun i j => j ≠ 0) fun i j => .int (i.fmod j)) (tCB (fun xs H Q => (∃ i, xs = [.int i] ∧ Q (.int i) H) ∨ ∃ k, xs = [.bl k] ∧ Q (.int (if k then 1 else 0)) H)
            (tCons (tOp (rI0 fun i j => .int (i + j)) (tOp (rI0 fun i j => .int (i + j)) (tOp (rI CMul fun i j => .int (i * j)) (tOp (rIxL K) (tVar 0) (tC (.int 3))) (tC (.int 48271))) (tOp (rI CMul fun i j => .int (i * j)) (tOp (rIxL K) (tVar 0) (tC (.int 4))) (tC (.int 69621)))) (tC (.int 7919))) tNil)) (tC (.int 2147483647))) (gName 4))
          (tSeq (tAsg (tOp (rI (fun i j => j ≠ 0) fun i j => .int (i.fmod j)) (tCB (fun xs H Q => (∃ i, xs = [.int i] ∧ Q (.int i) H) ∨ ∃ k, xs = [.bl k] ∧ Q (.int (if k then 1 else 0)) H)
            (tCons (tOp (rI0 fun i j => .int (i + j)) (tOp (rI CMul fun i j => .int (i * j)) (tVar 4) (tVar 4)) (tOp (rI CMul fun i j => .int (i * j)) (tOp (rIxL K) (tVar 0) (tC (.int 4))) (tC (.int 40692)))) tNil)) (tC (.int 2147483399))) (gName 4))
          (tRet (tOp (rI (fun i j => j ≠ 0) fun i j => .int (i.fmod j)) (tCB (fun xs H Q => (∃ i, xs = [.int i] ∧ Q (.int i) H) ∨ ∃ k, xs = [.bl k] ∧ Q (.int (if k then 1 else 0)) H) (tCons (tVar 4) tNil)) (tVar 1)))))
          { nx := fun _ H' => Q .non H', rt := Q } [some (.ref p), some (.int m), x, y, none] H' := by
      intro a b c d x y H' hp hl ha hb sb
      refine ⟨_, rfl, p, _, _, _, rfl, rfl, SqL.of hp, atI_nat (j := 4) rfl, _, _, rfl, rfl, _, rfl, p, _, _, 4, rfl, rfl, hp, rfl, ?_⟩
      have hl' : upd H' p (.lst [.ref l, .int a, .int b, .int c, .int (d + 1)]) l = some (.lst (ns.map V.int)) := by rw [upd_ne nlp]; exact hl
      show tSeq _ _ _ _ (upd H' p (.lst [.ref l, .int a, .int b, .int c, .int (d + 1)]))
      have hp2 : upd H' p (.lst [V.ref l, V.int a, V.int b, V.int c, V.int (d + 1)]) p = some (.lst [V.ref l, V.int a, V.int b, V.int c, V.int (d + 1)]) := upd_same
      have sb2 : SameBut p H (upd H' p (.lst [V.ref l, V.int a, V.int b, V.int c, V.int (d + 1)])) := sb.upd
      generalize upd H' p (.lst [V.ref l, V.int a, V.int b, V.int c, V.int (d + 1)]) = H2 at *
      refine ⟨_, rfl, p, _, _, _, rfl, rfl, SqL.of hp2, atI_nat (j := 3) rfl, _, _, rfl, rfl, .inr ⟨by decide, by decide⟩, ?_⟩
      refine ⟨_, rfl, p, _, _, _, rfl, rfl, SqL.of hp2, atI_nat (j := 4) rfl, _, _, rfl, rfl, .inr ⟨by decide, by decide⟩, ?_⟩
      refine ⟨_, _, rfl, rfl, _, _, rfl, rfl, .inl ⟨_, rfl, _, _, rfl, rfl, (show (2147483647 : Int) ≠ 0 by decide), ?_⟩⟩
      have q0 := Int.fmod_nonneg_of_pos (c * 48271 + (d + 1) * 69621 + 7919) (show (0 : Int) < 2147483647 by decide)
      have q1 := Int.fmod_lt_of_pos (c * 48271 + (d + 1) * 69621 + 7919) (show (0 : Int) < 2147483647 by decide)
      refine ⟨_, rfl, _, rfl, _, _, rfl, rfl, .inl ⟨by omega, by omega⟩, ?_⟩
      refine ⟨_, rfl, p, _, _, _, rfl, rfl, SqL.of hp2, atI_nat (j := 4) rfl, _, _, rfl, rfl, .inr ⟨by decide, by decide⟩, ?_⟩
      refine ⟨_, _, rfl, rfl, .inl ⟨_, rfl, _, _, rfl, rfl, (show (2147483399 : Int) ≠ 0 by decide), ?_⟩⟩
      refine ⟨_, rfl, .inl ⟨_, rfl, _, rfl, _, _, rfl, rfl, mne, ?_⟩⟩
      exact k _ _ (Int.fmod_nonneg_of_pos _ m0) (Int.fmod_lt_of_pos _ m0) ⟨ns, a, b, c, d + 1, hp2, hl', hn, ha, hb, nlp⟩ sb2
    refine ⟨_, rfl, p, _, _, _, rfl, rfl, SqL.of hp, atI_nat (j := 2) rfl, _, _, rfl, rfl, _, rfl, ?_⟩
    refine ite2 (fun hb0 => ?_) (fun hb0 => ?_)
    · -- what is left of a great cell
      refine ⟨_, rfl, p, _, _, _, rfl, rfl, SqL.of hp, atI_nat (j := 2) rfl, .inl ⟨_, rfl, _, rfl, _, _, rfl, rfl, mne, ?_⟩⟩
      refine ⟨_, rfl, p, _, _, _, rfl, rfl, SqL.of hp, atI_nat (j := 2) rfl, _, rfl, _, _, rfl, rfl, hw' _, _, rfl, p, _, _, 2, rfl, rfl, hp, rfl, ?_⟩
      refine ⟨_, rfl, ?_⟩
      exact k _ _ (Int.fmod_nonneg_of_pos _ m0) (Int.fmod_lt_of_pos _ m0) ⟨ns, a, b / m, c, d, upd_same, by rw [upd_ne nlp]; exact hl, hn, ha, Int.ediv_nonneg hb (by omega), nlp⟩ (SameBut.refl p H).upd
    · refine ⟨_, rfl, p, _, _, _, rfl, rfl, SqL.of hp, atI_nat (j := 4) rfl, .inl ⟨_, rfl, _, _, rfl, rfl, (show (8 : Int) ≠ 0 by decide), rfl, _, rfl, ?_⟩⟩
      refine ite2 (fun h8 => ?_) (fun h8 => ?_)
      · refine ⟨_, rfl, p, _, _, _, rfl, rfl, SqL.of hp, atI_nat (j := 1) rfl, _, rfl, p, _, _, _, rfl, rfl, SqL.of hp, atI_nat (j := 0) rfl, _, _, rfl, .inl ⟨_, SqL.of hl, rfl⟩, _, _, rfl, rfl, _, rfl, ?_⟩
        refine ite2 (fun hlt => ?_) (fun hlt => ?_)
        · have hlt' := of_decide_eq_true hlt
          rw [List.length_map] at hlt'
          obtain ⟨n, rfl⟩ := Int.eq_ofNat_of_zero_le ha
          have hn' : n < ns.length := by omega
          refine ⟨_, rfl, p, _, _, _, rfl, rfl, SqL.of hp, atI_nat (j := 0) rfl, _, rfl, p, _, _, _, rfl, rfl, SqL.of hp, atI_nat (j := 1) rfl, l, _, _, _, rfl, rfl, SqL.of hl, atI_nat (v := V.int ns[n]) (by simp [hn']), _, rfl, ?_⟩
          have hcell : 0 ≤ (if ns[n] < 0 then -ns[n] else ns[n]) := by split <;> omega
          generalize (if ns[n] < 0 then -ns[n] else ns[n]) = cell at *
          refine ⟨_, rfl, p, _, _, _, rfl, rfl, SqL.of hp, atI_nat (j := 1) rfl, _, _, rfl, rfl, _, rfl, p, _, _, 1, rfl, rfl, hp, rfl, ?_⟩
          have hp2 : upd H p (.lst [V.ref l, V.int ((n : Int) + 1), V.int b, V.int c, V.int d]) p = some (.lst [V.ref l, V.int ((n : Int) + 1), V.int b, V.int c, V.int d]) := upd_same
          have hl2 : upd H p (.lst [V.ref l, V.int ((n : Int) + 1), V.int b, V.int c, V.int d]) l = some (.lst (ns.map V.int)) := by rw [upd_ne nlp]; exact hl
          have sb2 : SameBut p H (upd H p (.lst [V.ref l, V.int ((n : Int) + 1), V.int b, V.int c, V.int d])) := (SameBut.refl p H).upd
          show tSeq _ _ _ _ (upd H p (.lst [V.ref l, V.int ((n : Int) + 1), V.int b, V.int c, V.int d]))
          generalize upd H p (.lst [V.ref l, V.int ((n : Int) + 1), V.int b, V.int c, V.int d]) = H2 at *
          refine ⟨_, rfl, _, _, rfl, rfl, ⟨by decide, by decide, by decide⟩, _, _, rfl, rfl, _, rfl, ?_⟩
          refine ite2 (fun hg => ?_) (fun hg => ?_)
          · refine ⟨_, rfl, _, rfl, _, _, rfl, rfl, hw' _, _, rfl, p, _, _, 2, rfl, rfl, hp2, rfl, ?_⟩
            refine ⟨_, rfl, .inl ⟨_, rfl, _, rfl, _, _, rfl, rfl, mne, ?_⟩⟩
            exact k _ _ (Int.fmod_nonneg_of_pos _ m0) (Int.fmod_lt_of_pos _ m0) ⟨ns, (n : Int) + 1, cell / m, c, d, upd_same, by rw [upd_ne nlp]; exact hl2, hn, by omega, Int.ediv_nonneg hcell (by omega), nlp⟩ sb2.upd
          · refine ⟨_, rfl, _, rfl, p, _, _, 3, rfl, rfl, hp2, rfl, ?_⟩
            exact fin ((n : Int) + 1) b cell d none (some (.int cell)) _ upd_same (by rw [upd_ne nlp]; exact hl2) (by omega) hb sb2.upd
        · exact fin a b c d none none H hp hl ha hb (SameBut.refl p H)
      · refine iteF ?_
        exact fin a b c d none none H hp hl ha hb (SameBut.refl p H)
theorem ok_pick {f fD : Addr} {fd fdD : FuncData} (F : Fun K "_law_pick" "_law_pick" s__law_pick f fd) (T : Blt mg)
    (FD : FnOk P w K mg base CX0 1 fD fdD ["pool", "many"] spDraw) (mgD : mg "_law_draw" = some (.ref fD)) (kD : PySem.W.keepIn K (.ref fD) = true) (bD : Binds K fdD ["pool", "many"] []) : FnOk P w K mg base CX0 2 f fd ["pool", "rows"] spPick := by
  refine F.ok sc__law_pick (fun vs H Q E h => ?_) (fun cdv A outer s H vs Q E hr h => ?_)
  · obtain ⟨p, r, l, xs, rfl, _⟩ := h
    rfl
  · obtain ⟨p, r, l, xs, rfl, hP, hr1, nrp, hx, hz, k⟩ := h
    refine ⟨_, (pss_one (ps_ret (pe_ix (r := rIxL K) ix_list (pv 1) (pe_call FD hr rfl mgD kD bD .nil pass0 (pa_cons (pv 0) (pa_cons (pe_callB call_len (by rfl) T.b_len (by decide +kernel) (pa_cons (pv 1) pa_nil)) pa_nil))) (fun _ _ => rfl)))), ?_⟩
    refine ⟨_, rfl, _, rfl, _, rfl, _, _, rfl, .inl ⟨_, SqL.of hr1, rfl⟩, p, l, (xs.length : Int), rfl, hP, by omega, ?_, fun v H' h0 hv hP' sb => ?_⟩
    · rw [sizeLine_eq] at hz; omega
    · obtain ⟨n, rfl⟩ := Int.eq_ofNat_of_zero_le h0
      have hn : n < xs.length := by omega
      refine ⟨r, xs, _, xs[n], rfl, rfl, SqL.of (sb _ _ nrp hr1), atI_nat (by simp [hn]), ?_⟩
      exact k _ _ (List.getElem_mem hn) hP' sb
end
/-! ### _law_same: of the same data it says True -/
/-- data without dicts, so deep at most -/
def okD : Nat → PyData → Prop
  | 0, _ => False
  | n + 1, d => match d with
    | .dict _ => False
    | .list ds => ds.length ≤ 1000000 ∧ ∀ e ∈ ds, okD n e
    | .tuple ds => ds.length ≤ 1000000 ∧ ∀ e ∈ ds, okD n e
    | _ => True
theorem seqT {K : PySem.W.Frag} {H H' : Hp} {a : Addr} {xs : List V} (s : Same H H') (h : SqT K H a xs) : SqT K H' a xs := by
  rcases h with (h | ⟨o, h⟩) | h
  · exact .inl (.inl (s _ _ h))
  · exact .inl (.inr ⟨o, s _ _ h⟩)
  · exact .inr h
mutual
theorem dp_keep {K : PySem.W.Frag} {H H' : Hp} (s : Same H H') : ∀ {d : PyData} {v : V}, Dp K H v d → Dp K H' v d
  | _, _, .non => .non
  | _, _, .bl b => .bl b
  | _, _, .int i => .int i
  | _, _, .str x => .str x
  | _, _, .lst h t => .lst (s.seq h) (dpAll_keep s t)
  | _, _, .tup h t => .tup (by
      rcases h with (h | ⟨o, h⟩) | h
      · exact .inl (.inl (s _ _ h))
      · exact .inl (.inr ⟨o, s _ _ h⟩)
      · exact .inr h) (dpAll_keep s t)
theorem dpAll_keep {K : PySem.W.Frag} {H H' : Hp} (s : Same H H') : ∀ {ds : List PyData} {vs : List V}, DpAll K H vs ds → DpAll K H' vs ds
  | _, _, .nil => .nil
  | _, _, .cons h t => .cons (dp_keep s h) (dpAll_keep s t)
end
theorem dpAll_at {K : PySem.W.Frag} {H : Hp} : ∀ {ds : List PyData} {vs : List V} {i : Nat} {d : PyData}, DpAll K H vs ds → ds[i]? = some d → ∃ v, vs[i]? = some v ∧ Dp K H v d
  | _, _, _, _, .nil, e => by simp at e
  | _, _, 0, _, .cons h _, e => by
    have := Option.some.inj e
    subst this
    exact ⟨_, rfl, h⟩
  | _, _, i + 1, _, .cons _ t, e => by
    obtain ⟨x, e1, e2⟩ := dpAll_at (i := i) t (by simpa using e)
    exact ⟨x, by simpa using e1, e2⟩
theorem dpAll_len {K : PySem.W.Frag} {H : Hp} : ∀ {ds : List PyData} {vs : List V}, DpAll K H vs ds → vs.length = ds.length
  | _, _, .nil => rfl
  | _, _, .cons _ t => by rw [List.length_cons, List.length_cons, dpAll_len t]
/-- the type of a list, a tuple as the heap tells it -/
theorem tyL {K : PySem.W.Frag} {H : Hp} {a : Addr} {xs : List V} (h : SqL K H a xs) : TyX K H (.ref a) (.type "list") := by
  rcases h with (h | ⟨o, h⟩) | ⟨o, its, n, h, c, _⟩
  · exact .base (.lst h)
  · exact .base (.frz h)
  · exact .kList h c
theorem tyT {K : PySem.W.Frag} {H : Hp} {a : Addr} {xs : List V} (h : SqT K H a xs) : TyX K H (.ref a) (.type "tuple") := by
  rcases h with (h | ⟨o, h⟩) | ⟨o, its, n, h, c, _⟩
  · exact .base (.tup h)
  · exact .fTuple h
  · exact .kTuple h c
theorem any_no {K : PySem.W.Frag} {t : String} (h1 : kitB t "tuple" = some false) (h2 : kitB t "list" = some false) : PySem.W.kitAny K (.type t) [.type "tuple", .type "list"] = some false :=
  kitAny_cons (kit_ty h1) (fun _ => kitAny_cons (kit_ty h2) (fun _ => kitAny_nil) (fun z => by cases z)) (fun z => by cases z)
theorem any_list {K : PySem.W.Frag} : PySem.W.kitAny K (.type "list") [.type "tuple", .type "list"] = some true :=
  kitAny_cons (b := false) (kit_ty (by decide +kernel)) (fun _ => kitAny_cons (b := true) (kit_ty (by decide +kernel)) (fun z => by cases z) (fun _ => rfl)) (fun z => by cases z)
theorem any_tuple {K : PySem.W.Frag} : PySem.W.kitAny K (.type "tuple") [.type "tuple", .type "list"] = some true :=
  kitAny_cons (b := true) (kit_ty (by decide +kernel)) (fun z => by cases z) (fun _ => rfl)
def spSame (K : PySem.W.Frag) (n : Nat) : Sp := fun vs H Q _ => ∃ (v1 v2 : V) (d : PyData), vs = [v1, v2] ∧ Dp K H v1 d ∧ Dp K H v2 d ∧ okD n d ∧ ∀ H', Same H H' → Q (.bl true) H'
section
variable {P : Program} {w : World} {K : PySem.W.Frag} {mg : Str → Option Value} {base : Heap}
theorem ok_same {f : Addr} {fd : FuncData} (F : Fun K "_law_same" "_law_same" s__law_same f fd) (T : Blt mg) (mgS : mg "_law_same" = some (.ref f)) (kS : PySem.W.keepIn K (.ref f) = true) (bS : Binds K fd ["actual", "due"] []) :
    ∀ n : Nat, FnOk P w K mg base CX0 (n + 1) f fd ["actual", "due"] (spSame K n)
  | 0 => by
    refine F.ok sc__law_same (fun vs H Q E h => ?_) (fun cdv A outer s H vs Q E hr h => ?_)
    · obtain ⟨v1, v2, d, rfl, _⟩ := h
      rfl
    · obtain ⟨v1, v2, d, rfl, _, _, z, _⟩ := h
      exact z.elim
  | n + 1 => by
    have FS := ok_same F T mgS kS bS n
    refine F.ok sc__law_same (fun vs H Q E h => ?_) (fun cdv A outer s H vs Q E hr h => ?_)
    · obtain ⟨v1, v2, d, rfl, _⟩ := h
      rfl
    · obtain ⟨v1, v2, d, rfl, h1, h2, hd, k⟩ := h
      refine ⟨_, (pss_cons (ps_if (pt_cmpR op_isN (pv 1) pe_non (nomark _)) (pss_one (ps_ret (pe_cmpR op_isN (pv 0) pe_non (nomark _)))) pss_nil)
    (pss_cons (ps_if (pt_val (pe_callB call_isiT (by rfl) T.b_isinstance (by decide +kernel) (pa_cons (pv 1) (pa_cons (pe_tup (pa_cons (pe_bltn (v := .ty "tuple") (u := .type "tuple") (by rfl) T.b_tuple (by decide +kernel) rfl) (pa_cons (pe_bltn (v := .ty "list") (u := .type "list") (by rfl) T.b_list (by decide +kernel) rfl) pa_nil))) pa_nil)))) (pss_cons (ps_if (PW.pt (pw_or (pt_cmpR op_ne (pe_callB call_isi (by rfl) T.b_isinstance (by decide +kernel) (pa_cons (pv 1) (pa_cons (pe_bltn (v := .ty "tuple") (u := .type "tuple") (by rfl) T.b_tuple (by decide +kernel) rfl) pa_nil))) (pe_callB call_isi (by rfl) T.b_isinstance (by decide +kernel) (pa_cons (pv 0) (pa_cons (pe_bltn (v := .ty "tuple") (u := .type "tuple") (by rfl) T.b_tuple (by decide +kernel) rfl) pa_nil))) (nomark _)) (pw_or1 (pt_cmpR op_ne (pe_callB call_isi (by rfl) T.b_isinstance (by decide +kernel) (pa_cons (pv 1) (pa_cons (pe_bltn (v := .ty "list") (u := .type "list") (by rfl) T.b_list (by decide +kernel) rfl) pa_nil))) (pe_callB call_isi (by rfl) T.b_isinstance (by decide +kernel) (pa_cons (pv 0) (pa_cons (pe_bltn (v := .ty "list") (u := .type "list") (by rfl) T.b_list (by decide +kernel) rfl) pa_nil))) (nomark _))))) (pss_one (ps_ret pe_bl)) pss_nil)
    (pss_cons (ps_if (pt_cmpR op_ne (pe_callB call_len (by rfl) T.b_len (by decide +kernel) (pa_cons (pv 0) pa_nil)) (pe_callB call_len (by rfl) T.b_len (by decide +kernel) (pa_cons (pv 1) pa_nil)) (nomark _)) (pss_one (ps_ret pe_bl)) pss_nil)
    (pss_cons (ps_for PassesOwn.never rfl (pi_range1 (by rfl) T.b_range (pa_cons (pe_callB call_len (by rfl) T.b_len (by decide +kernel) (pa_cons (pv 1) pa_nil)) pa_nil)) (pg_name (i := 2) sc__law_same.nd rfl (Or.inl rfl)) (pss_one (ps_if (pt_not (pt_val (pe_call FS hr rfl mgS kS bS .nil pass0 (pa_cons (pe_ix (r := rIx K) ix_seq (pv 0) (pv 2) (fun _ _ => rfl)) (pa_cons (pe_ix (r := rIx K) ix_seq (pv 1) (pv 2) (fun _ _ => rfl)) pa_nil))))) (pss_one (ps_ret pe_bl)) pss_nil)))
    (pss_one (ps_ret pe_bl))))) pss_nil)
    (pss_cons (ps_if (pt_val (pe_callB call_isi (by rfl) T.b_isinstance (by decide +kernel) (pa_cons (pv 1) (pa_cons (pe_bltn (v := .ty "bool") (u := .type "bool") (by rfl) T.b_bool (by decide +kernel) rfl) pa_nil)))) (pss_one (ps_ret (pe_and (pe_callB call_isi (by rfl) T.b_isinstance (by decide +kernel) (pa_cons (pv 0) (pa_cons (pe_bltn (v := .ty "bool") (u := .type "bool") (by rfl) T.b_bool (by decide +kernel) rfl) pa_nil))) (pe_one (pe_cmpR op_eq (pv 0) (pv 1) (nomark _)))))) pss_nil)
    (pss_cons (ps_if (pt_val (pe_callB call_isi (by rfl) T.b_isinstance (by decide +kernel) (pa_cons (pv 1) (pa_cons (pe_bltn (v := .ty "int") (u := .type "int") (by rfl) T.b_int (by decide +kernel) rfl) pa_nil)))) (pss_one (ps_ret (pe_and (pe_callB call_isi (by rfl) T.b_isinstance (by decide +kernel) (pa_cons (pv 0) (pa_cons (pe_bltn (v := .ty "int") (u := .type "int") (by rfl) T.b_int (by decide +kernel) rfl) pa_nil))) (pe_and (pe_not (pe_callB call_isi (by rfl) T.b_isinstance (by decide +kernel) (pa_cons (pv 0) (pa_cons (pe_bltn (v := .ty "bool") (u := .type "bool") (by rfl) T.b_bool (by decide +kernel) rfl) pa_nil)))) (pe_one (pe_cmpR op_eq (pv 0) (pv 1) (nomark _))))))) pss_nil)
    (pss_one (ps_ret (pe_and (pe_callB call_isi (by rfl) T.b_isinstance (by decide +kernel) (pa_cons (pv 0) (pa_cons (pe_bltn (v := .ty "str") (u := .type "str") (by rfl) T.b_str (by decide +kernel) rfl) pa_nil))) (pe_one (pe_cmpR op_eq (pv 0) (pv 1) (nomark _)))))))))), ?_⟩
      cases d with
      | dict _ => exact hd.elim
      | none =>
        cases h1; cases h2
        refine ⟨_, rfl, rfl, _, rfl, ?_⟩
        refine iteT ?_
        refine ⟨_, rfl, rfl, ?_⟩
        exact k _ (Same.refl _)
      | bool b =>
        cases h1; cases h2
        refine ⟨_, rfl, rfl, _, rfl, ?_⟩
        refine iteF ?_
        refine ⟨_, rfl, (by show 2 ≤ sizeLine; decide), fun p hp => ?_⟩
        refine ⟨_, p, _, .type "bool", _, false, rfl, upd_same, .cons (.ty "tuple") (.cons (.ty "list") .nil), .base (.bl _), any_no (by decide +kernel) (by decide +kernel), false, rfl, ?_⟩
        refine iteF ?_
        refine ⟨_, rfl, _, _, .type "bool", _, true, rfl, .ty "bool", .base (.bl _), kit_ty (by decide +kernel), true, rfl, ?_⟩
        refine iteT ?_
        refine ⟨_, rfl, _, _, .type "bool", _, true, rfl, .ty "bool", .base (.bl _), kit_ty (by decide +kernel), true, rfl, ?_⟩
        refine iteT ?_
        refine ⟨_, rfl, _, rfl, rfl, ?_⟩
        rw [decide_eq_true rfl]
        exact k _ (same_upd (Same.refl _) hp)
      | int i =>
        cases h1; cases h2
        refine ⟨_, rfl, rfl, _, rfl, ?_⟩
        refine iteF ?_
        refine ⟨_, rfl, (by show 2 ≤ sizeLine; decide), fun p hp => ?_⟩
        refine ⟨_, p, _, .type "int", _, false, rfl, upd_same, .cons (.ty "tuple") (.cons (.ty "list") .nil), .base (.int _), any_no (by decide +kernel) (by decide +kernel), false, rfl, ?_⟩
        refine iteF ?_
        refine ⟨_, rfl, _, _, .type "int", _, false, rfl, .ty "bool", .base (.int _), kit_ty (by decide +kernel), false, rfl, ?_⟩
        refine iteF ?_
        refine ⟨_, rfl, _, _, .type "int", _, true, rfl, .ty "int", .base (.int _), kit_ty (by decide +kernel), true, rfl, ?_⟩
        refine iteT ?_
        refine ⟨_, rfl, _, _, .type "int", _, true, rfl, .ty "int", .base (.int _), kit_ty (by decide +kernel), true, rfl, ?_⟩
        refine iteT ?_
        refine ⟨_, rfl, _, _, .type "int", _, false, rfl, .ty "bool", .base (.int _), kit_ty (by decide +kernel), false, rfl, true, rfl, ?_⟩
        refine iteT ?_
        refine ⟨_, rfl, _, rfl, rfl, ?_⟩
        rw [decide_eq_true rfl]
        exact k _ (same_upd (Same.refl _) hp)
      | str x =>
        cases h1; cases h2
        refine ⟨_, rfl, rfl, _, rfl, ?_⟩
        refine iteF ?_
        refine ⟨_, rfl, (by show 2 ≤ sizeLine; decide), fun p hp => ?_⟩
        refine ⟨_, p, _, .type "str", _, false, rfl, upd_same, .cons (.ty "tuple") (.cons (.ty "list") .nil), .base (.str _), any_no (by decide +kernel) (by decide +kernel), false, rfl, ?_⟩
        refine iteF ?_
        refine ⟨_, rfl, _, _, .type "str", _, false, rfl, .ty "bool", .base (.str _), kit_ty (by decide +kernel), false, rfl, ?_⟩
        refine iteF ?_
        refine ⟨_, rfl, _, _, .type "str", _, false, rfl, .ty "int", .base (.str _), kit_ty (by decide +kernel), false, rfl, ?_⟩
        refine iteF ?_
        refine ⟨_, rfl, _, _, .type "str", _, true, rfl, .ty "str", .base (.str _), kit_ty (by decide +kernel), true, rfl, ?_⟩
        refine iteT ?_
        refine ⟨_, rfl, _, rfl, rfl, ?_⟩
        rw [decide_eq_true rfl]
        exact k _ (same_upd (Same.refl _) hp)
      | list ds =>
        cases h1 with
        | lst q1 t1 =>
        cases h2 with
        | lst q2 t2 =>
        rename_i a1 xs1 a2 xs2
        have l1 := dpAll_len t1
        have l2 := dpAll_len t2
        refine ⟨_, rfl, rfl, _, rfl, ?_⟩
        refine iteF ?_
        refine ⟨_, rfl, (by show 2 ≤ sizeLine; decide), fun p hp => ?_⟩
        refine ⟨_, p, _, .type "list", _, true, rfl, upd_same, .cons (.ty "tuple") (.cons (.ty "list") .nil), tyL (Same.seq (same_upd (Same.refl _) hp) q2), any_list, true, rfl, ?_⟩
        refine iteT ?_
        have s0 : Same H (upd H p (.tup [.ty "tuple", .ty "list"])) := same_upd (Same.refl _) hp
        show tSeq _ _ _ _ (upd H p (.tup [.ty "tuple", .ty "list"]))
        generalize upd H p (.tup [V.ty "tuple", V.ty "list"]) = H1 at *
        have p1 := Same.seq s0 q1
        have p2 := Same.seq s0 q2
        refine ⟨_, rfl, _, _, .type "list", _, false, rfl, .ty "tuple", tyL p2, kit_ty (by decide +kernel), _, rfl, _, _, .type "list", _, false, rfl, .ty "tuple", tyL p1, kit_ty (by decide +kernel), rfl, _, rfl, ?_⟩
        refine iteF ?_
        refine ⟨_, rfl, _, _, .type "list", _, true, rfl, .ty "list", tyL p2, kit_ty (by decide +kernel), _, rfl, _, _, .type "list", _, true, rfl, .ty "list", tyL p1, kit_ty (by decide +kernel), rfl, _, rfl, ?_⟩
        refine iteF ?_
        refine ⟨_, rfl, _, _, rfl, .inl ⟨_, p1, rfl⟩, _, rfl, _, _, rfl, .inl ⟨_, p2, rfl⟩, rfl, _, rfl, ?_⟩
        rw [l1, l2]
        refine iteNS rfl ?_
        refine ⟨_, rfl, _, _, rfl, .inl ⟨_, p2, rfl⟩, _, rfl, ?_, ?_, ?_⟩
        · rw [l2]; have := hd.1; omega
        · rw [l2]; have := hd.1; omega
        rw [l2]
        refine for_range (lo := 0) (n := ((ds.length : Nat) : Int).toNat) (fun i σ H' => ∃ v, σ = [some (.ref a1), some (.ref a2), v] ∧ Same H1 H') ⟨none, rfl, Same.refl _⟩ ?_ ?_
        · rintro i σ H' hi ⟨v, rfl, sH⟩
          have hi' : i < ds.length := by simpa using hi
          obtain ⟨x1, e1, d1⟩ := dpAll_at t1 (List.getElem?_eq_getElem hi')
          obtain ⟨x2, e2, d2⟩ := dpAll_at t2 (List.getElem?_eq_getElem hi')
          have s3 := s0.trans sH
          have ei : ((0 : Int) + (i : Int)) = (i : Int) := by omega
          refine ⟨_, rfl, _, rfl, .inl ⟨a1, xs1, _, x1, rfl, rfl, Same.seq sH p1, by rw [ei]; exact atI_nat e1, ?_⟩⟩
          refine ⟨_, rfl, _, rfl, .inl ⟨a2, xs2, _, x2, rfl, rfl, Same.seq sH p2, by rw [ei]; exact atI_nat e2, ?_⟩⟩
          refine ⟨x1, x2, ds[i], rfl, dp_keep s3 d1, dp_keep s3 d2, hd.2 _ (List.getElem_mem hi'), fun H2 s2 => ⟨true, rfl, ?_⟩⟩
          refine iteF ?_
          exact ⟨_, rfl, sH.trans s2⟩
        · rintro σ H' ⟨v, rfl, sH⟩
          exact k _ (s0.trans sH)
      | tuple ds =>
        cases h1 with
        | tup q1 t1 =>
        cases h2 with
        | tup q2 t2 =>
        rename_i a1 xs1 a2 xs2
        have l1 := dpAll_len t1
        have l2 := dpAll_len t2
        refine ⟨_, rfl, rfl, _, rfl, ?_⟩
        refine iteF ?_
        refine ⟨_, rfl, (by show 2 ≤ sizeLine; decide), fun p hp => ?_⟩
        refine ⟨_, p, _, .type "tuple", _, true, rfl, upd_same, .cons (.ty "tuple") (.cons (.ty "list") .nil), tyT (seqT (same_upd (Same.refl _) hp) q2), any_tuple, true, rfl, ?_⟩
        refine iteT ?_
        have s0 : Same H (upd H p (.tup [.ty "tuple", .ty "list"])) := same_upd (Same.refl _) hp
        show tSeq _ _ _ _ (upd H p (.tup [.ty "tuple", .ty "list"]))
        generalize upd H p (.tup [V.ty "tuple", V.ty "list"]) = H1 at *
        have p1 := seqT s0 q1
        have p2 := seqT s0 q2
        refine ⟨_, rfl, _, _, .type "tuple", _, true, rfl, .ty "tuple", tyT p2, kit_ty (by decide +kernel), _, rfl, _, _, .type "tuple", _, true, rfl, .ty "tuple", tyT p1, kit_ty (by decide +kernel), rfl, _, rfl, ?_⟩
        refine iteF ?_
        refine ⟨_, rfl, _, _, .type "tuple", _, false, rfl, .ty "list", tyT p2, kit_ty (by decide +kernel), _, rfl, _, _, .type "tuple", _, false, rfl, .ty "list", tyT p1, kit_ty (by decide +kernel), rfl, _, rfl, ?_⟩
        refine iteF ?_
        refine ⟨_, rfl, _, _, rfl, .inr ⟨_, p1, rfl⟩, _, rfl, _, _, rfl, .inr ⟨_, p2, rfl⟩, rfl, _, rfl, ?_⟩
        rw [l1, l2]
        refine iteNS rfl ?_
        refine ⟨_, rfl, _, _, rfl, .inr ⟨_, p2, rfl⟩, _, rfl, ?_, ?_, ?_⟩
        · rw [l2]; have := hd.1; omega
        · rw [l2]; have := hd.1; omega
        rw [l2]
        refine for_range (lo := 0) (n := ((ds.length : Nat) : Int).toNat) (fun i σ H' => ∃ v, σ = [some (.ref a1), some (.ref a2), v] ∧ Same H1 H') ⟨none, rfl, Same.refl _⟩ ?_ ?_
        · rintro i σ H' hi ⟨v, rfl, sH⟩
          have hi' : i < ds.length := by simpa using hi
          obtain ⟨x1, e1, d1⟩ := dpAll_at t1 (List.getElem?_eq_getElem hi')
          obtain ⟨x2, e2, d2⟩ := dpAll_at t2 (List.getElem?_eq_getElem hi')
          have s3 := s0.trans sH
          have ei : ((0 : Int) + (i : Int)) = (i : Int) := by omega
          refine ⟨_, rfl, _, rfl, .inr (.inl ⟨a1, xs1, _, x1, rfl, rfl, seqT sH p1, by rw [ei]; exact atI_nat e1, ?_⟩)⟩
          refine ⟨_, rfl, _, rfl, .inr (.inl ⟨a2, xs2, _, x2, rfl, rfl, seqT sH p2, by rw [ei]; exact atI_nat e2, ?_⟩)⟩
          refine ⟨x1, x2, ds[i], rfl, dp_keep s3 d1, dp_keep s3 d2, hd.2 _ (List.getElem_mem hi'), fun H2 s2 => ⟨true, rfl, ?_⟩⟩
          refine iteF ?_
          exact ⟨_, rfl, sH.trans s2⟩
        · rintro σ H' ⟨v, rfl, sH⟩
          exact k _ (s0.trans sH)
end
theorem PoolL.keep {H H' : Hp} {p l : Addr} (h : PoolL H p l) (s : Same H H') : PoolL H' p l := by
  obtain ⟨ns, a, b, c, d, h1, h2, h3⟩ := h
  exact ⟨ns, a, b, c, d, s _ _ h1, s _ _ h2, h3⟩
theorem PoolL.ne {H : Hp} {p l q : Addr} (h : PoolL H p l) (hq : H q = none) : q ≠ p := by
  obtain ⟨ns, a, b, c, d, h1, _⟩ := h
  exact fun z => by rw [z, h1] at hq; cases hq
theorem PoolL.nel {H : Hp} {p l q : Addr} (h : PoolL H p l) (hq : H q = none) : q ≠ l := by
  obtain ⟨ns, a, b, c, d, _, h2, _⟩ := h
  exact fun z => by rw [z, h2] at hq; cases hq
theorem PoolL.new {H : Hp} {p l q : Addr} {o : HO} (h : PoolL H p l) (hq : H q = none) : PoolL (upd H q o) p l := h.keep (same_upd (Same.refl _) hq)
theorem PoolL.put {H : Hp} {p l q : Addr} {o : HO} (h : PoolL H p l) (n1 : q ≠ p) (n2 : q ≠ l) : PoolL (upd H q o) p l := by
  obtain ⟨ns, a, b, c, d, h1, h2, h3⟩ := h
  exact ⟨ns, a, b, c, d, by rw [upd_ne n1.symm]; exact h1, by rw [upd_ne n2.symm]; exact h2, h3⟩
theorem okD_flat {n : Nat} {ds : List PyData} (hl : ds.length ≤ 1000000) (h : ∀ e ∈ ds, okD (n + 1) e) : okD (n + 2) (.list ds) ∧ okD (n + 2) (.tuple ds) := ⟨⟨hl, h⟩, ⟨hl, h⟩⟩
theorem okD_two {n : Nat} {a b : PyData} (ha : okD (n + 1) a) (hb : okD (n + 1) b) : okD (n + 2) (.tuple [a, b]) := ⟨by simp, fun e he => by
  rcases List.mem_cons.mp he with rfl | he
  · exact ha
  · rw [List.mem_singleton.mp he]; exact hb⟩
/-- what the top holds -/
structure Nms (K : PySem.W.Frag) (mg : Str → Option Value) where
  T : Blt mg
  a_is_number : Addr
  d_is_number : FuncData
  b_is_number : Binds K d_is_number ["value", "least", "most"] []
  k_is_number : PySem.W.keepIn K (.ref a_is_number) = true
  F_is_number : ∃ dvs, FunD K "is_number" "is_number" (defArgs s_is_number) (defBody s_is_number) (defScope s_is_number) dvs [] a_is_number d_is_number
  g_is_number : mg "is_number" = some (.ref a_is_number)
  a_checked_number : Addr
  d_checked_number : FuncData
  b_checked_number : Binds K d_checked_number ["value", "least", "most"] []
  k_checked_number : PySem.W.keepIn K (.ref a_checked_number) = true
  F_checked_number : ∃ dvs, FunD K "checked_number" "checked_number" (defArgs s_checked_number) (defBody s_checked_number) (defScope s_checked_number) dvs [] a_checked_number d_checked_number
  g_checked_number : mg "checked_number" = some (.ref a_checked_number)
  a_Disk___init__ : Addr
  d_Disk___init__ : FuncData
  b_Disk___init__ : Binds K d_Disk___init__ ["self"] []
  k_Disk___init__ : PySem.W.keepIn K (.ref a_Disk___init__) = true
  F_Disk___init__ : Fun K "__init__" "Disk.__init__" s_Disk___init__ a_Disk___init__ d_Disk___init__
  a_Disk_names : Addr
  d_Disk_names : FuncData
  b_Disk_names : Binds K d_Disk_names ["self"] []
  k_Disk_names : PySem.W.keepIn K (.ref a_Disk_names) = true
  F_Disk_names : Fun K "names" "Disk.names" s_Disk_names a_Disk_names d_Disk_names
  a_Disk__file : Addr
  d_Disk__file : FuncData
  b_Disk__file : Binds K d_Disk__file ["self", "name"] []
  k_Disk__file : PySem.W.keepIn K (.ref a_Disk__file) = true
  F_Disk__file : Fun K "_file" "Disk._file" s_Disk__file a_Disk__file d_Disk__file
  a_Disk_read : Addr
  d_Disk_read : FuncData
  b_Disk_read : Binds K d_Disk_read ["self", "name"] []
  k_Disk_read : PySem.W.keepIn K (.ref a_Disk_read) = true
  F_Disk_read : Fun K "read" "Disk.read" s_Disk_read a_Disk_read d_Disk_read
  a_Disk_size : Addr
  d_Disk_size : FuncData
  b_Disk_size : Binds K d_Disk_size ["self", "name"] []
  k_Disk_size : PySem.W.keepIn K (.ref a_Disk_size) = true
  F_Disk_size : Fun K "size" "Disk.size" s_Disk_size a_Disk_size d_Disk_size
  a_Disk_make : Addr
  d_Disk_make : FuncData
  b_Disk_make : Binds K d_Disk_make ["self", "name"] []
  k_Disk_make : PySem.W.keepIn K (.ref a_Disk_make) = true
  F_Disk_make : Fun K "make" "Disk.make" s_Disk_make a_Disk_make d_Disk_make
  a_Disk__change : Addr
  d_Disk__change : FuncData
  b_Disk__change : Binds K d_Disk__change ["self", "row"] []
  k_Disk__change : PySem.W.keepIn K (.ref a_Disk__change) = true
  F_Disk__change : Fun K "_change" "Disk._change" s_Disk__change a_Disk__change d_Disk__change
  a_Disk_write : Addr
  d_Disk_write : FuncData
  b_Disk_write : Binds K d_Disk_write ["self", "name", "text"] []
  k_Disk_write : PySem.W.keepIn K (.ref a_Disk_write) = true
  F_Disk_write : Fun K "write" "Disk.write" s_Disk_write a_Disk_write d_Disk_write
  a_Disk_sync : Addr
  d_Disk_sync : FuncData
  b_Disk_sync : Binds K d_Disk_sync ["self", "name"] []
  k_Disk_sync : PySem.W.keepIn K (.ref a_Disk_sync) = true
  F_Disk_sync : Fun K "sync" "Disk.sync" s_Disk_sync a_Disk_sync d_Disk_sync
  a_Disk_sync_names : Addr
  d_Disk_sync_names : FuncData
  b_Disk_sync_names : Binds K d_Disk_sync_names ["self"] []
  k_Disk_sync_names : PySem.W.keepIn K (.ref a_Disk_sync_names) = true
  F_Disk_sync_names : Fun K "sync_names" "Disk.sync_names" s_Disk_sync_names a_Disk_sync_names d_Disk_sync_names
  a_Disk_remove : Addr
  d_Disk_remove : FuncData
  b_Disk_remove : Binds K d_Disk_remove ["self", "name"] []
  k_Disk_remove : PySem.W.keepIn K (.ref a_Disk_remove) = true
  F_Disk_remove : Fun K "remove" "Disk.remove" s_Disk_remove a_Disk_remove d_Disk_remove
  a_Disk_cut : Addr
  d_Disk_cut : FuncData
  b_Disk_cut : Binds K d_Disk_cut ["self", "name", "size"] []
  k_Disk_cut : PySem.W.keepIn K (.ref a_Disk_cut) = true
  F_Disk_cut : Fun K "cut" "Disk.cut" s_Disk_cut a_Disk_cut d_Disk_cut
  a_Disk_copy : Addr
  d_Disk_copy : FuncData
  b_Disk_copy : Binds K d_Disk_copy ["self"] []
  k_Disk_copy : PySem.W.keepIn K (.ref a_Disk_copy) = true
  F_Disk_copy : Fun K "copy" "Disk.copy" s_Disk_copy a_Disk_copy d_Disk_copy
  a_applied : Addr
  d_applied : FuncData
  b_applied : Binds K d_applied ["names", "changes"] []
  k_applied : PySem.W.keepIn K (.ref a_applied) = true
  F_applied : Fun K "applied" "applied" s_applied a_applied d_applied
  g_applied : mg "applied" = some (.ref a_applied)
  a_check_of : Addr
  d_check_of : FuncData
  b_check_of : Binds K d_check_of ["text"] []
  k_check_of : PySem.W.keepIn K (.ref a_check_of) = true
  F_check_of : Fun K "check_of" "check_of" s_check_of a_check_of d_check_of
  g_check_of : mg "check_of" = some (.ref a_check_of)
  a_checked_text : Addr
  d_checked_text : FuncData
  b_checked_text : Binds K d_checked_text ["text"] []
  k_checked_text : PySem.W.keepIn K (.ref a_checked_text) = true
  F_checked_text : Fun K "checked_text" "checked_text" s_checked_text a_checked_text d_checked_text
  g_checked_text : mg "checked_text" = some (.ref a_checked_text)
  a_framed : Addr
  d_framed : FuncData
  b_framed : Binds K d_framed ["text"] []
  k_framed : PySem.W.keepIn K (.ref a_framed) = true
  F_framed : Fun K "framed" "framed" s_framed a_framed d_framed
  g_framed : mg "framed" = some (.ref a_framed)
  a__number : Addr
  d__number : FuncData
  b__number : Binds K d__number ["text", "at"] []
  k__number : PySem.W.keepIn K (.ref a__number) = true
  F__number : Fun K "_number" "_number" s__number a__number d__number
  g__number : mg "_number" = some (.ref a__number)
  a_one_frame : Addr
  d_one_frame : FuncData
  b_one_frame : Binds K d_one_frame ["text", "at"] []
  k_one_frame : PySem.W.keepIn K (.ref a_one_frame) = true
  F_one_frame : Fun K "one_frame" "one_frame" s_one_frame a_one_frame d_one_frame
  g_one_frame : mg "one_frame" = some (.ref a_one_frame)
  a_read_frames : Addr
  d_read_frames : FuncData
  b_read_frames : Binds K d_read_frames ["text"] []
  k_read_frames : PySem.W.keepIn K (.ref a_read_frames) = true
  F_read_frames : Fun K "read_frames" "read_frames" s_read_frames a_read_frames d_read_frames
  g_read_frames : mg "read_frames" = some (.ref a_read_frames)
  a_part_name : Addr
  d_part_name : FuncData
  b_part_name : Binds K d_part_name ["first"] []
  k_part_name : PySem.W.keepIn K (.ref a_part_name) = true
  F_part_name : Fun K "part_name" "part_name" s_part_name a_part_name d_part_name
  g_part_name : mg "part_name" = some (.ref a_part_name)
  a_part_names : Addr
  d_part_names : FuncData
  b_part_names : Binds K d_part_names ["disk"] []
  k_part_names : PySem.W.keepIn K (.ref a_part_names) = true
  F_part_names : Fun K "part_names" "part_names" s_part_names a_part_names d_part_names
  g_part_names : mg "part_names" = some (.ref a_part_names)
  a_is_part : Addr
  d_is_part : FuncData
  b_is_part : Binds K d_is_part ["name"] []
  k_is_part : PySem.W.keepIn K (.ref a_is_part) = true
  F_is_part : Fun K "is_part" "is_part" s_is_part a_is_part d_is_part
  g_is_part : mg "is_part" = some (.ref a_is_part)
  a_first_of : Addr
  d_first_of : FuncData
  b_first_of : Binds K d_first_of ["name"] []
  k_first_of : PySem.W.keepIn K (.ref a_first_of) = true
  F_first_of : Fun K "first_of" "first_of" s_first_of a_first_of d_first_of
  g_first_of : mg "first_of" = some (.ref a_first_of)
  a_Log___init__ : Addr
  d_Log___init__ : FuncData
  b_Log___init__ : Binds K d_Log___init__ ["self", "disk", "most"] []
  k_Log___init__ : PySem.W.keepIn K (.ref a_Log___init__) = true
  F_Log___init__ : Fun K "__init__" "Log.__init__" s_Log___init__ a_Log___init__ d_Log___init__
  a_Log__begin : Addr
  d_Log__begin : FuncData
  b_Log__begin : Binds K d_Log__begin ["self", "first"] []
  k_Log__begin : PySem.W.keepIn K (.ref a_Log__begin) = true
  F_Log__begin : Fun K "_begin" "Log._begin" s_Log__begin a_Log__begin d_Log__begin
  a_Log__found : Addr
  d_Log__found : FuncData
  b_Log__found : Binds K d_Log__found ["self"] []
  k_Log__found : PySem.W.keepIn K (.ref a_Log__found) = true
  F_Log__found : Fun K "_found" "Log._found" s_Log__found a_Log__found d_Log__found
  a_Log_first : Addr
  d_Log_first : FuncData
  b_Log_first : Binds K d_Log_first ["self"] []
  k_Log_first : PySem.W.keepIn K (.ref a_Log_first) = true
  F_Log_first : Fun K "first" "Log.first" s_Log_first a_Log_first d_Log_first
  a_Log_next : Addr
  d_Log_next : FuncData
  b_Log_next : Binds K d_Log_next ["self"] []
  k_Log_next : PySem.W.keepIn K (.ref a_Log_next) = true
  F_Log_next : Fun K "next" "Log.next" s_Log_next a_Log_next d_Log_next
  a_Log_add : Addr
  d_Log_add : FuncData
  b_Log_add : Binds K d_Log_add ["self", "text"] []
  k_Log_add : PySem.W.keepIn K (.ref a_Log_add) = true
  F_Log_add : Fun K "add" "Log.add" s_Log_add a_Log_add d_Log_add
  a_Log_sync : Addr
  d_Log_sync : FuncData
  b_Log_sync : Binds K d_Log_sync ["self"] []
  k_Log_sync : PySem.W.keepIn K (.ref a_Log_sync) = true
  F_Log_sync : Fun K "sync" "Log.sync" s_Log_sync a_Log_sync d_Log_sync
  a_Log_text : Addr
  d_Log_text : FuncData
  b_Log_text : Binds K d_Log_text ["self", "number"] []
  k_Log_text : PySem.W.keepIn K (.ref a_Log_text) = true
  F_Log_text : Fun K "text" "Log.text" s_Log_text a_Log_text d_Log_text
  a_Log_texts : Addr
  d_Log_texts : FuncData
  b_Log_texts : Binds K d_Log_texts ["self", "start"] []
  k_Log_texts : PySem.W.keepIn K (.ref a_Log_texts) = true
  F_Log_texts : Fun K "texts" "Log.texts" s_Log_texts a_Log_texts d_Log_texts
  a_Log_parts : Addr
  d_Log_parts : FuncData
  b_Log_parts : Binds K d_Log_parts ["self"] []
  k_Log_parts : PySem.W.keepIn K (.ref a_Log_parts) = true
  F_Log_parts : Fun K "parts" "Log.parts" s_Log_parts a_Log_parts d_Log_parts
  a_new_log : Addr
  d_new_log : FuncData
  b_new_log : Binds K d_new_log ["most"] []
  k_new_log : PySem.W.keepIn K (.ref a_new_log) = true
  F_new_log : Fun K "new_log" "new_log" s_new_log a_new_log d_new_log
  g_new_log : mg "new_log" = some (.ref a_new_log)
  a__law_same : Addr
  d__law_same : FuncData
  b__law_same : Binds K d__law_same ["actual", "due"] []
  k__law_same : PySem.W.keepIn K (.ref a__law_same) = true
  F__law_same : Fun K "_law_same" "_law_same" s__law_same a__law_same d__law_same
  g__law_same : mg "_law_same" = some (.ref a__law_same)
  a__law_pool : Addr
  d__law_pool : FuncData
  b__law_pool : Binds K d__law_pool ["script"] []
  k__law_pool : PySem.W.keepIn K (.ref a__law_pool) = true
  F__law_pool : Fun K "_law_pool" "_law_pool" s__law_pool a__law_pool d__law_pool
  g__law_pool : mg "_law_pool" = some (.ref a__law_pool)
  a__law_draw : Addr
  d__law_draw : FuncData
  b__law_draw : Binds K d__law_draw ["pool", "many"] []
  k__law_draw : PySem.W.keepIn K (.ref a__law_draw) = true
  F__law_draw : Fun K "_law_draw" "_law_draw" s__law_draw a__law_draw d__law_draw
  g__law_draw : mg "_law_draw" = some (.ref a__law_draw)
  a__law_pick : Addr
  d__law_pick : FuncData
  b__law_pick : Binds K d__law_pick ["pool", "rows"] []
  k__law_pick : PySem.W.keepIn K (.ref a__law_pick) = true
  F__law_pick : Fun K "_law_pick" "_law_pick" s__law_pick a__law_pick d__law_pick
  g__law_pick : mg "_law_pick" = some (.ref a__law_pick)
  a__law_refusal : Addr
  d__law_refusal : FuncData
  b__law_refusal : Binds K d__law_refusal ["problem"] []
  k__law_refusal : PySem.W.keepIn K (.ref a__law_refusal) = true
  F__law_refusal : Fun K "_law_refusal" "_law_refusal" s__law_refusal a__law_refusal d__law_refusal
  g__law_refusal : mg "_law_refusal" = some (.ref a__law_refusal)
  a__law_refused : Addr
  d__law_refused : FuncData
  b__law_refused : Binds K d__law_refused ["choice", "one", "two"] []
  k__law_refused : PySem.W.keepIn K (.ref a__law_refused) = true
  F__law_refused : Fun K "_law_refused" "_law_refused" s__law_refused a__law_refused d__law_refused
  g__law_refused : mg "_law_refused" = some (.ref a__law_refused)
  a_law : Addr
  d_law : FuncData
  b_law : Binds K d_law ["script"] []
  k_law : PySem.W.keepIn K (.ref a_law) = true
  F_law : Fun K "law" "law" s_law a_law d_law
  g_law : mg "law" = some (.ref a_law)
  CD : Addr
  CL : Addr
  gD : mg "Disk" = some (.ref CD)
  gL : mg "Log" = some (.ref CL)
  clD : Cls K CD
  clL : Cls K CL
  nD_kept : NoAttr K CD "_kept"
  nD_late : NoAttr K CD "_late"
  nD_names : NoAttr K CD "_names"
  nD_sure : NoAttr K CD "_sure"
  nD_changes : NoAttr K CD "_changes"
  nD_next : NoAttr K CD "_next"
  nL_disk : NoAttr K CL "_disk"
  nL_most : NoAttr K CL "_most"
  nL_parts : NoAttr K CL "_parts"
  nL_sure : NoAttr K CL "_sure"
  mkD : Mk K CD a_Disk___init__
  mkL : Mk K CL a_Log___init__
  m_Disk_names : Meth K CD "names" a_Disk_names
  m_Disk__file : Meth K CD "_file" a_Disk__file
  m_Disk_read : Meth K CD "read" a_Disk_read
  m_Disk_size : Meth K CD "size" a_Disk_size
  m_Disk_make : Meth K CD "make" a_Disk_make
  m_Disk__change : Meth K CD "_change" a_Disk__change
  m_Disk_write : Meth K CD "write" a_Disk_write
  m_Disk_sync : Meth K CD "sync" a_Disk_sync
  m_Disk_sync_names : Meth K CD "sync_names" a_Disk_sync_names
  m_Disk_remove : Meth K CD "remove" a_Disk_remove
  m_Disk_cut : Meth K CD "cut" a_Disk_cut
  m_Disk_copy : Meth K CD "copy" a_Disk_copy
  m_Log__begin : Meth K CL "_begin" a_Log__begin
  m_Log__found : Meth K CL "_found" a_Log__found
  m_Log_first : Meth K CL "first" a_Log_first
  m_Log_next : Meth K CL "next" a_Log_next
  m_Log_add : Meth K CL "add" a_Log_add
  m_Log_sync : Meth K CL "sync" a_Log_sync
  m_Log_text : Meth K CL "text" a_Log_text
  m_Log_texts : Meth K CL "texts" a_Log_texts
  m_Log_parts : Meth K CL "parts" a_Log_parts
  CE : Addr
  CP : Addr
  CN : Addr
  XP : ErrT K mg "InvalidPaper" CP
  XN : ErrT K mg "InvalidNumber" CN
  YP : CatchT K mg CE CP
  YN : CatchT K mg CE CN
  notNP : PySem.W.kitOne K (.ref CP) (.ref CN) = some false
  notPN : PySem.W.kitOne K (.ref CN) (.ref CP) = some false
  cGREAT : ∃ t, mg "GREAT" = some (.int 1000003 t)
  cSTEP : ∃ t, mg "STEP" = some (.int 8191 t)
  cMF : ∃ t, mg "MOST_frames" = some (.int 1000000 t)
  cML : ∃ t, mg "MOST_logs" = some (.int 1000 t)
  cFEW : ∃ t, mg "FEWEST" = some (.int 1 t)
  cSP : ∃ t, mg "SPOILT" = some (.str (Str.ofString "?") t)
end K53

namespace K53
open PySem PySem.Spec PyProof.Rows L2
abbrev sCheck : Stmt := s_check_of
abbrev sChecked : Stmt := s_checked_text
abbrev sFramed : Stmt := s_framed
abbrev sNumber : Stmt := s__number
abbrev sOneF : Stmt := s_one_frame
abbrev sRead : Stmt := s_read_frames
def chkF (a : Nat) (l : List Nat) : Nat := l.foldl (fun f c => (f * 8191 + c) % 1000003) a
def chk (l : List Nat) : Nat := chkF 7 l
theorem chkF_lt : ∀ (l : List Nat) (a : Nat), a < 1000003 → chkF a l < 1000003
  | [], a, h => h
  | c :: r, a, h => chkF_lt r _ (Nat.mod_lt _ (by decide))
theorem chk_lt (l : List Nat) : chk l < 1000003 := chkF_lt l 7 (by decide)
theorem chkF_snoc (a : Nat) (l : List Nat) (c : Nat) : chkF a (l ++ [c]) = (chkF a l * 8191 + c) % 1000003 := by
  unfold chkF; rw [List.foldl_append]; rfl
structure Con51 (mg : Str → Option Value) : Prop where
  gG : ∃ t, mg "GREAT" = some (.int 1000003 t)
  gS : ∃ t, mg "STEP" = some (.int 8191 t)
  gM : ∃ t, mg "MOST_frames" = some (.int 1000000 t)
theorem scCheck : FnScope ["text", "found", "sign"] ["text"] (defScope sCheck) := ⟨rfl, rfl, rfl, by decide +kernel, rfl, by decide +kernel, by decide +kernel⟩
def spCheck : Sp := fun vs H Q _ => ∃ x : Str, vs = [.str x] ∧ Q (.int ((chk (tl x) : Nat) : Int)) H
section
variable {P : Program} {w : World} {K : PySem.W.Frag} {mg : Str → Option Value} {base : Heap}
theorem ok_check {f : Addr} {fd : FuncData} (F : Fun K "check_of" "check_of" sCheck f fd) (T : Blt mg) (G : Con51 mg) : FnOk P w K mg base CX0 1 f fd ["text"] spCheck := by
  obtain ⟨tG, GG⟩ := G.gG
  obtain ⟨tS, GS⟩ := G.gS
  refine F.ok scCheck (fun vs H Q E h => ?_) (fun cdv A outer s H vs Q E hr h => ?_)
  · obtain ⟨x, rfl, _⟩ := h
    rfl
  · obtain ⟨x, rfl, k⟩ := h
    refine ⟨_, (pss_cons (ps_set (i := 1) scCheck.nd rfl (Or.inl rfl) pe_int)
    (pss_cons (ps_for PassesOwn.never rfl (pi_str (pv 0)) (pg_name (i := 2) scCheck.nd rfl (Or.inl rfl)) (pss_one (ps_set (i := 1) scCheck.nd rfl (Or.inl rfl) (pe_op op_modN (pe_op op_add (pe_op op_mul (pv 1) (pe_glob (v := .int 8191) rfl GS ⟨_, rfl⟩)) (pe_callB call_ord (by rfl) T.b_ord (by decide +kernel) (pa_cons (pv 2) pa_nil))) (pe_glob (v := .int 1000003) rfl GG ⟨_, rfl⟩)))))
    (pss_one (ps_ret (pv 1))))), ?_⟩
    refine ⟨_, rfl, x, rfl, for_str (x := x) (fun i σ H' => ∃ v : Option V, σ = [some (.str x), some (.int ((chk ((tl x).take i) : Nat) : Int)), v] ∧ H' = H) ⟨_, rfl, rfl⟩ ?_ ?_⟩
    · rintro i c σ H' hc ⟨v, rfl, rfl⟩
      refine ⟨_, rfl, _, _, rfl, rfl, .inr ⟨by decide, by decide⟩, _, rfl, _, rfl, rfl, _, _, rfl, rfl, _, _, rfl, rfl, (show (1000003 : Int) ≠ 0 by decide), ?_⟩
      refine ⟨some (.str ⟨#[c]⟩), ?_, rfl⟩
      have e : Int.fmod (((chk ((tl x).take i) : Nat) : Int) * 8191 + ((c : Nat) : Int)) 1000003 = ((chk ((tl x).take (i + 1)) : Nat) : Int) := by
        rw [take_snoc hc]
        unfold chk
        rw [chkF_snoc, ← fmod_nat]
        congr 1
      rw [← e]
      rfl
    · rintro σ H' ⟨v, rfl, rfl⟩
      rw [List.take_length]
      exact ⟨_, rfl, k⟩
end
def okSign (c : Nat) : Bool := !(decide (c = 63) || (!decide (c = 10) && !(decide (32 ≤ c) && decide (c ≤ 126))))
def goodT (l : List Nat) : Prop := l.all okSign = true
def frameL (l : List Nat) : List Nat := TL.numL l.length ++ 58 :: (TL.numL (chk l) ++ 58 :: (l ++ [10]))
theorem frame_txt (x : Str) : Str.ofString (toString ((x.length : Nat) : Int)) ++ Str.ofString ":" ++ Str.ofString (toString ((chk (tl x) : Nat) : Int)) ++ Str.ofString ":" ++ x ++ Str.ofString "\n" = mkS (frameL (tl x)) := by
  refine TL.ext_tl ?_
  rw [TL.tl_append, TL.tl_append, TL.tl_append, TL.tl_append, TL.tl_append, TL.tl_num, TL.tl_num, len_tl]
  show TL.numL _ ++ [58] ++ TL.numL _ ++ [58] ++ tl x ++ [10] = frameL (tl x)
  unfold frameL
  simp
theorem frame_len (l : List Nat) (h : l.length ≤ 1000000) : (frameL l).length ≤ l.length + 17 := by
  have h1 := num_len (n := l.length) (by omega)
  have h2 := num_len (n := chk l) (by have := chk_lt l; omega)
  unfold frameL
  simp only [List.length_append, List.length_cons, List.length_nil]
  omega
theorem scChecked : FnScope ["text", "sign"] ["text"] (defScope sChecked) := ⟨rfl, rfl, rfl, by decide +kernel, rfl, by decide +kernel, by decide +kernel⟩
theorem scFramed : FnScope ["text"] ["text"] (defScope sFramed) := ⟨rfl, rfl, rfl, by decide +kernel, rfl, by decide +kernel, by decide +kernel⟩
def spChk : Sp := fun vs H Q _ => ∃ x : Str, vs = [.str x] ∧ x.length ≤ 1000000 ∧ goodT (tl x) ∧ ∀ H', Same H H' → Q (.str x) H'
def spFrm : Sp := fun vs H Q _ => ∃ x : Str, vs = [.str x] ∧ x.length ≤ 1000000 ∧ goodT (tl x) ∧ ∀ H', Same H H' → Q (.str (mkS (frameL (tl x)))) H'
section
variable {P : Program} {w : World} {K : PySem.W.Frag} {mg : Str → Option Value} {base : Heap}
theorem all_nn (l : List Nat) : (l.all fun c => !!okSign c) = l.all okSign := by
  congr 1
  funext c
  exact Bool.not_not _
theorem bad_test {c : Nat} {a b d : Bool} (ha : a = decide (c = 63)) (hb : b = !decide (c = 10)) (hd : d = (decide (32 ≤ c) && decide (c ≤ 126))) : (!okSign c) = (a || (b && !d)) := by
  subst ha hb hd
  unfold okSign
  rw [Bool.not_not]
theorem ok_chk {f : Addr} {fd : FuncData} (F : Fun K "checked_text" "checked_text" sChecked f fd) (T : Blt mg) (G : Con51 mg) : FnOk P w K mg base CX0 1 f fd ["text"] spChk := by
  obtain ⟨tM, GM⟩ := G.gM
  refine F.ok scChecked (fun vs H Q E h => ?_) (fun cdv A outer s H vs Q E hr h => ?_)
  · obtain ⟨x, rfl, _⟩ := h
    rfl
  · obtain ⟨x, rfl, hx, hg, k⟩ := h
    have hx' : x.length ≤ sizeLine := by rw [sizeLine_eq]; omega
    refine ⟨_, (pss_cons (ps_if (PW.pt (pw_or (pt_not (pt_val (pe_callB call_isi (by rfl) T.b_isinstance (by decide +kernel) (pa_cons (pv 0) (pa_cons (pe_bltn (v := .ty "str") (u := .type "str") (by rfl) T.b_str (by decide +kernel) rfl) pa_nil))))) (pw_or1 (pt_cmpR op_gt (pe_callB call_len (by rfl) T.b_len (by decide +kernel) (pa_cons (pv 0) pa_nil)) (pe_glob (v := .int 1000000) rfl GM ⟨_, rfl⟩) (nomark _))))) (pss_one ps_never) pss_nil)
    (pss_cons (ps_if (pt_truth (pe_lc (own := [("sign", 1)]) rfl scChecked.nd (pi_str (pv 0)) (blkOk_by (N := ["text", "sign"]) (sc := defScope sChecked) (own := [("sign", 1)]) (by decide +kernel)) (fun _ _ _ _ _ => (pg_name (i := 1) scChecked.nd rfl (Or.inl rfl))) (fun _ _ _ _ _ => pts_one (PW.pt (pw_or (pt_cmpR op_eq (pv 1) pe_str (nomark _)) (pw_or1 (PW.pt (pw_and (pt_cmpR op_ne (pv 1) pe_str (nomark _)) (pw_and1 (pt_not (pt_chain op_le_str op_le_str pe_str (pv 1) pe_str))))))))) (fun _ _ _ _ _ => (pv 1))) (by intro _; rfl)) (pss_one ps_never) pss_nil)
    (pss_one (ps_ret (pv 0))))), ?_⟩
    refine ⟨_, rfl, _, _, .type "str", _, true, rfl, .ty "str", .base (.str _), kit_ty (by decide +kernel), true, rfl, ?_⟩
    refine iteF ?_
    refine ⟨_, rfl, _, _, rfl, ⟨hx', rfl⟩, _, _, rfl, rfl, _, rfl, ?_⟩
    refine iteF' (decide_eq_false (by omega)) ?_
    refine ⟨_, rfl, x, rfl, fun D hD => lc_filter (bad := fun c => !okSign c) hx' hD (fun _ => rfl) (fun _ => rfl) ?_ ?_⟩
    · intro c H' R hc hR
      refine ⟨_, rfl, rfl, _, rfl, ?_⟩
      rw [show decide (V.str ⟨#[c]⟩ = V.str (Str.ofString "?")) = decide (c = 63) from one_eq c 63]
      refine ite2 (fun h1 => ?_) (fun h1 => ?_)
      · rw [bad_test rfl rfl rfl, h1] at hR; exact hR
      · have h1' : decide (c = 63) = false := by simpa using h1
        refine ⟨_, rfl, rfl, _, rfl, ?_⟩
        rw [show decide (V.str ⟨#[c]⟩ = V.str (Str.ofString "\n")) = decide (c = 10) from one_eq c 10]
        refine ite2 (fun h2 => ?_) (fun h2 => ?_)
        · refine ⟨_, rfl, _, _, rfl, rfl, _, rfl, ?_⟩
          rw [show (!decide (tl (⟨#[c]⟩ : Str) < tl (Str.ofString " "))) = decide (32 ≤ c) from le1 c 32]
          refine ite2 (fun h3 => ?_) (fun h3 => ?_)
          · refine ⟨_, _, rfl, rfl, _, rfl, ?_⟩
            rw [show (!decide (tl (Str.ofString "~") < tl (⟨#[c]⟩ : Str))) = decide (c ≤ 126) from le1 126 c]
            rw [bad_test rfl rfl rfl, h1', h2, h3] at hR; simpa using hR
          · have h3' : decide (32 ≤ c) = false := by simpa using h3
            rw [bad_test rfl rfl rfl, h1', h2, h3'] at hR; exact ⟨_, rfl, hR⟩
        · have h2' : (!decide (c = 10)) = false := by simpa using h2
          rw [bad_test rfl rfl rfl, h1', h2'] at hR; exact hR
    · intro H' s1 h1
      refine ⟨_, .inl ⟨_, SqL.of h1, rfl⟩, ?_⟩
      rw [filt_empty]
      have e : ((tl x).all fun c => !!okSign c) = true := by rw [all_nn]; exact hg
      refine iteF' (by rw [e]; rfl) ?_
      refine ⟨_, rfl, ?_⟩
      exact k _ s1
theorem ok_frm {f fC fK : Addr} {fd gC gK : FuncData} (F : Fun K "framed" "framed" sFramed f fd) (T : Blt mg)
    (FC : FnOk P w K mg base CX0 1 fC gC ["text"] spChk) (mgC : mg "checked_text" = some (.ref fC)) (kC : PySem.W.keepIn K (.ref fC) = true) (bC : Binds K gC ["text"] [])
    (FK : FnOk P w K mg base CX0 1 fK gK ["text"] spCheck) (mgK : mg "check_of" = some (.ref fK)) (kK : PySem.W.keepIn K (.ref fK) = true) (bK : Binds K gK ["text"] []) : FnOk P w K mg base CX0 2 f fd ["text"] spFrm := by
  refine F.ok scFramed (fun vs H Q E h => ?_) (fun cdv A outer s H vs Q E hr h => ?_)
  · obtain ⟨x, rfl, _⟩ := h
    rfl
  · obtain ⟨x, rfl, hx, hg, k⟩ := h
    have hx' : x.length ≤ sizeLine := by rw [sizeLine_eq]; omega
    have hl : x.length = (tl x).length := len_tl x
    have l1 : (Str.ofString (toString ((x.length : Nat) : Int))).length ≤ 7 := by rw [len_tl, show tl _ = TL.numL _ from TL.tl_num _]; exact num_len (by omega)
    have l2 : (Str.ofString (toString ((chk (tl x) : Nat) : Int))).length ≤ 7 := by rw [len_tl, show tl _ = TL.numL _ from TL.tl_num _]; exact num_len (by have := chk_lt (tl x); omega)
    refine ⟨_, (pss_cons (ps_expr (pe_call FC (hr.mono (by decide)) rfl mgC kC bC .nil pass0 (pa_cons (pv 0) pa_nil)))
    (pss_one (ps_ret (pe_op op_add_str (pe_op op_add_str (pe_op op_add_str (pe_op op_add_str (pe_op op_add_str (pe_callTy call_str_int (by rfl) T.b_str (by decide +kernel) (pa_cons (pe_callB call_len (by rfl) T.b_len (by decide +kernel) (pa_cons (pv 0) pa_nil)) pa_nil)) pe_str) (pe_callTy call_str_int (by rfl) T.b_str (by decide +kernel) (pa_cons (pe_call FK (hr.mono (by decide)) rfl mgK kK bK .nil pass0 (pa_cons (pv 0) pa_nil)) pa_nil))) pe_str) (pv 0)) pe_str)))), ?_⟩
    refine ⟨_, rfl, x, rfl, hx, hg, fun H1 s1 => ?_⟩
    refine ⟨_, rfl, _, _, rfl, ⟨hx', rfl⟩, _, rfl, log_small _ (by omega), ?_⟩
    have c1 : (Str.ofString ":").length = 1 := rfl
    have c2 : (Str.ofString "\n").length = 1 := rfl
    refine ⟨_, _, rfl, rfl, by rw [c1, sizeLine_eq]; omega, _, rfl, x, rfl, _, rfl, log_small _ (by have := chk_lt (tl x); omega), _, _, rfl, rfl, by rw [app_len, c1, sizeLine_eq]; omega, _, _, rfl, rfl, by rw [app_len, app_len, c1, sizeLine_eq]; omega, _, rfl, _, _, rfl, rfl, by rw [app_len, app_len, app_len, c1, sizeLine_eq]; omega, _, _, rfl, rfl, by rw [app_len, app_len, app_len, app_len, c1, c2, sizeLine_eq]; omega, ?_⟩
    rw [frame_txt]
    exact k _ s1
end
def isDig (c : Nat) : Bool := decide (48 ≤ c) && decide (c ≤ 57)
theorem dig_in (c : Nat) : decide (c ∈ tl (Str.ofString "0123456789")) = isDig c := by
  have e : tl (Str.ofString "0123456789") = [48, 49, 50, 51, 52, 53, 54, 55, 56, 57] := by decide +kernel
  rw [e]
  unfold isDig
  rw [Bool.eq_iff_iff, Bool.and_eq_true, decide_eq_true_eq, decide_eq_true_eq, decide_eq_true_eq]
  simp only [List.mem_cons, List.not_mem_nil, or_false]
  omega
def wordAt (l : List Nat) : List Nat := if (upto 58 l).length < l.length ∧ 0 < (upto 58 l).length ∧ (upto 58 l).length ≤ 7 then upto 58 l else []
def numOk (w : List Nat) : Bool := !w.isEmpty && w.all isDig && !(decide (1 < w.length) && decide (w.head? = some 48))
def numAt (l : List Nat) : Option (Nat × Nat) := if numOk (wordAt l) = true then some (NumText.digitsVal (wordAt l), (wordAt l).length + 1) else none
def bodyOk (n c : Nat) (r : List Nat) : Prop := n ≤ 1000000 ∧ (r.take n).length = n ∧ (r.drop n).take 1 = [10] ∧ ¬ 63 ∈ r.take n ∧ chk (r.take n) = c
instance {n c : Nat} {r : List Nat} : Decidable (bodyOk n c r) := by unfold bodyOk; exact inferInstance
def oneFr (l : List Nat) : Option (List Nat × Nat) := match numAt l with
  | none => none
  | some (n, k) => match numAt (l.drop k) with
    | none => none
    | some (c, k2) => if bodyOk n c (l.drop (k + k2)) then some ((l.drop (k + k2)).take n, k + k2 + n + 1) else none
theorem word_lt {l : List Nat} (h : numOk (wordAt l) = true) : (wordAt l).length < l.length ∧ 0 < (wordAt l).length ∧ (wordAt l).length ≤ 7 ∧ wordAt l = upto 58 l := by
  by_cases z : (upto 58 l).length < l.length ∧ 0 < (upto 58 l).length ∧ (upto 58 l).length ≤ 7
  · have e : wordAt l = upto 58 l := by unfold wordAt; rw [if_pos z]
    rw [e]
    exact ⟨z.1, z.2.1, z.2.2, rfl⟩
  · have e : wordAt l = [] := by unfold wordAt; rw [if_neg z]
    rw [e] at h
    exact absurd h (by decide)
theorem numAt_some {l : List Nat} {n k : Nat} (h : numAt l = some (n, k)) : numOk (wordAt l) = true ∧ n = NumText.digitsVal (wordAt l) ∧ k = (wordAt l).length + 1 ∧ 1 ≤ k ∧ k ≤ l.length := by
  unfold numAt at h
  by_cases z : numOk (wordAt l) = true
  · rw [if_pos z] at h
    cases h
    have := word_lt z
    exact ⟨z, rfl, rfl, by omega, by omega⟩
  · rw [if_neg z] at h; cases h
theorem oneFr_some {l t : List Nat} {k : Nat} (h : oneFr l = some (t, k)) : 1 ≤ k ∧ k ≤ l.length ∧ t.length < k := by
  unfold oneFr at h
  split at h
  · cases h
  · rename_i n k1 e1
    split at h
    · cases h
    · rename_i c k2 e2
      split at h
      · rename_i b
        cases h
        obtain ⟨_, b2, b3, _⟩ := b
        have l3 : (((l.drop (k1 + k2)).drop n).take 1).length = 1 := by rw [b3]; rfl
        rw [List.length_take, List.length_drop, List.length_drop] at l3
        refine ⟨by omega, by omega, ?_⟩
        rw [b2]; omega
      · cases h
def readF : Nat → List Nat → List (List Nat) × Nat
  | 0, _ => ([], 0)
  | n + 1, l => match oneFr l with
    | none => ([], 0)
    | some (t, k) => (t :: (readF n (l.drop k)).1, k + (readF n (l.drop k)).2)
def readL (l : List Nat) : List (List Nat) × Nat := readF l.length l
theorem oneFr_nil : oneFr [] = none := by decide +kernel
theorem readF_more : ∀ (n m : Nat) (l : List Nat), l.length ≤ n → l.length ≤ m → readF n l = readF m l
  | 0, 0, l, _, _ => rfl
  | 0, m + 1, l, h, _ => by
    have : l = [] := List.length_eq_zero_iff.mp (by omega)
    subst this
    show ([], 0) = readF (m + 1) []
    unfold readF
    rw [oneFr_nil]
  | n + 1, 0, l, _, h => by
    have : l = [] := List.length_eq_zero_iff.mp (by omega)
    subst this
    show readF (n + 1) [] = ([], 0)
    unfold readF
    rw [oneFr_nil]
  | n + 1, m + 1, l, h1, h2 => by
    unfold readF
    split
    · rfl
    · rename_i t k e
      have := oneFr_some e
      have hd : (l.drop k).length = l.length - k := List.length_drop
      rw [readF_more n m (l.drop k) (by omega) (by omega)]
theorem readL_none {l : List Nat} (h : oneFr l = none) : readL l = ([], 0) := by
  unfold readL
  cases hl : l.length with
  | zero => rfl
  | succ n => unfold readF; rw [h]
theorem readL_some {l t : List Nat} {k : Nat} (h : oneFr l = some (t, k)) : readL l = (t :: (readL (l.drop k)).1, k + (readL (l.drop k)).2) := by
  have hk := oneFr_some h
  have hd : (l.drop k).length = l.length - k := List.length_drop
  unfold readL
  obtain ⟨n, hn⟩ : ∃ n, l.length = n + 1 := ⟨l.length - 1, by omega⟩
  rw [hn]
  show readF (n + 1) l = _
  rw [readF, h]
  dsimp only
  rw [readF_more n (l.drop k).length (l.drop k) (by omega) (Nat.le_refl _)]
theorem readL_le : ∀ (n : Nat) (l : List Nat), l.length ≤ n → (readL l).2 ≤ l.length ∧ (readL l).1.length ≤ l.length
  | n, l, h => by
    cases e : oneFr l with
    | none => rw [readL_none e]; exact ⟨Nat.zero_le _, Nat.zero_le _⟩
    | some p =>
      obtain ⟨t, k⟩ := p
      have hk := oneFr_some e
      have hd : (l.drop k).length = l.length - k := List.length_drop
      cases n with
      | zero => omega
      | succ n =>
        have ih := readL_le n (l.drop k) (by omega)
        rw [readL_some e]
        refine ⟨by show k + _ ≤ _; omega, by rw [List.length_cons]; omega⟩
theorem scNumber : FnScope ["text", "at", "end", "word", "sign"] ["text", "at"] (defScope sNumber) := ⟨rfl, rfl, rfl, by decide +kernel, rfl, by decide +kernel, by decide +kernel⟩
theorem scOneF : FnScope ["text", "at", "first", "second", "start", "end", "inside"] ["text", "at"] (defScope sOneF) := ⟨rfl, rfl, rfl, by decide +kernel, rfl, by decide +kernel, by decide +kernel⟩
theorem scRead : FnScope ["text", "found", "at", "frame"] ["text"] (defScope sRead) := ⟨rfl, rfl, rfl, by decide +kernel, rfl, by decide +kernel, by decide +kernel⟩
def spNum : Sp := fun vs H Q _ => ∃ (x : Str) (a : Nat), vs = [.str x, .int (a : Int)] ∧ x.length ≤ 1000000 ∧ a ≤ (tl x).length ∧
  (∀ n k, numAt ((tl x).drop a) = some (n, k) → ∀ H' p, Same H H' → H' p = some (.tup [.int ((n : Nat) : Int), .int ((a + k : Nat) : Int)]) → Q (.ref p) H') ∧ (numAt ((tl x).drop a) = none → ∀ H', Same H H' → Q .non H')
def spOneF : Sp := fun vs H Q _ => ∃ (x : Str) (a : Nat), vs = [.str x, .int (a : Int)] ∧ x.length ≤ 1000000 ∧ a ≤ (tl x).length ∧
  (∀ t k, oneFr ((tl x).drop a) = some (t, k) → ∀ H' p, Same H H' → H' p = some (.tup [.str (mkS t), .int ((a + k : Nat) : Int)]) → Q (.ref p) H') ∧ (oneFr ((tl x).drop a) = none → ∀ H', Same H H' → Q .non H')
def vT (ts : List (List Nat)) : List V := ts.map fun t => V.str (mkS t)
def spRead : Sp := fun vs H Q _ => ∃ x : Str, vs = [.str x] ∧ x.length ≤ 1000000 ∧
  ∀ H' p q, Same H H' → H q = none → H' p = some (.tup [.ref q, .int (((readL (tl x)).2 : Nat) : Int)]) → H' q = some (.lst (vT (readL (tl x)).1)) → Q (.ref p) H'
section
variable {P : Program} {w : World} {K : PySem.W.Frag} {mg : Str → Option Value} {base : Heap}
theorem ok_number {f : Addr} {fd : FuncData} (F : Fun K "_number" "_number" sNumber f fd) (T : Blt mg) : FnOk P w K mg base CX0 1 f fd ["text", "at"] spNum := by
  refine F.ok scNumber (fun vs H Q E h => ?_) (fun cdv A outer s H vs Q E hr h => ?_)
  · obtain ⟨x, a, rfl, _⟩ := h
    rfl
  · obtain ⟨x, a, rfl, hx, ha, kS, kN⟩ := h
    have hx' : x.length ≤ sizeLine := by rw [sizeLine_eq]; omega
    refine ⟨_, (pss_cons (ps_set (i := 2) scNumber.nd rfl (Or.inl rfl) (pe_bm PySem.F.plainAttrs_str PySem.F.slot_str_find PySem.F.type_str_find mt_find3 (pv 0) (pa_cons pe_str (pa_cons (pv 1) pa_nil))))
    (pss_cons (ps_set (i := 3) scNumber.nd rfl (Or.inl rfl) (pe_ifExp (pt_chain op_lt op_le (pv 1) (pv 2) (pe_op op_add (pv 1) pe_int)) (pe_slice sl_str (pv 0) (po_some (pv 1)) (po_some (pv 2))) pe_str))
    (pss_cons (ps_if (PW.pt (pw_or (pt_cmpR op_eq (pv 3) pe_str (nomark _)) (pw_or1 (pt_truth (pe_lc (own := [("sign", 4)]) rfl scNumber.nd (pi_str (pv 3)) (blkOk_by (N := ["text", "at", "end", "word", "sign"]) (sc := defScope sNumber) (own := [("sign", 4)]) (by decide +kernel)) (fun _ _ _ _ _ => (pg_name (i := 4) scNumber.nd rfl (Or.inl rfl))) (fun _ _ _ _ _ => pts_one (pt_cmpR op_notIn_sign (pv 4) pe_str rfl)) (fun _ _ _ _ _ => (pv 4))) (by intro _; rfl))))) (pss_one (ps_ret pe_non)) pss_nil)
    (pss_cons (ps_if (PW.pt (pw_and (pt_cmpR op_gt (pe_callB call_len (by rfl) T.b_len (by decide +kernel) (pa_cons (pv 3) pa_nil)) pe_int (nomark _)) (pw_and1 (pt_cmpR op_eq (pe_ix ix_str (pv 3) pe_int (fun _ _ => rfl)) pe_str (nomark _))))) (pss_one (ps_ret pe_non)) pss_nil)
    (pss_one (ps_ret (pe_tup (pa_cons (pe_callTy call_int_str (by rfl) T.b_int (by decide +kernel) (pa_cons (pv 3) pa_nil)) (pa_cons (pe_op op_add (pv 2) pe_int) pa_nil))))))))), ?_⟩
    have ef : Txt.find3 x (Str.ofString ":") (a : Int) = _ := find_one x 58 a ha
    refine ⟨_, rfl, rfl, _, rfl, _, _, _, rfl, rfl, ?_⟩
    rw [ef]
    have none_of : wordAt ((tl x).drop a) = [] → numAt ((tl x).drop a) = none := fun e => by
      unfold numAt
      rw [e]; rfl
    have hdl : ((tl x).drop a).length = (tl x).length - a := List.length_drop
    have hlx : x.length = (tl x).length := len_tl x
    by_cases h1 : (upto 58 ((tl x).drop a)).length < ((tl x).drop a).length
    · rw [if_pos h1]
      refine ⟨_, rfl, _, rfl, _, _, rfl, rfl, _, rfl, ?_⟩
      by_cases h2 : 0 < (upto 58 ((tl x).drop a)).length
      · rw [decide_eq_true (show (a : Int) < ((a + (upto 58 ((tl x).drop a)).length : Nat) : Int) by omega)]
        refine iteT ?_
        refine ⟨_, rfl, _, _, rfl, rfl, _, _, rfl, rfl, _, rfl, ?_⟩
        by_cases h3 : (upto 58 ((tl x).drop a)).length ≤ 7
        · refine iteT' (decide_eq_true (show ((a + (upto 58 ((tl x).drop a)).length : Nat) : Int) ≤ (a : Int) + 7 by omega)) ?_
          have ew : wordAt ((tl x).drop a) = upto 58 ((tl x).drop a) := by unfold wordAt; rw [if_pos ⟨h1, h2, h3⟩]
          refine ⟨_, rfl, _, rfl, _, rfl, _, rfl, _, rfl, _, rfl, hx', ?_⟩
          have ec : cutS x (some (a : Int)) (some ((a + (upto 58 ((tl x).drop a)).length : Nat) : Int)) = mkS (upto 58 ((tl x).drop a)) := by
            rw [cut_any, Nat.add_sub_cancel_left, upto_take]
          rw [ec]
          generalize hu : upto 58 ((tl x).drop a) = u at *
          have lu : (mkS u).length = u.length := by rw [len_tl]
          have lu' : (mkS u).length ≤ sizeLine := by rw [lu, sizeLine_eq]; omega
          have hne : u.isEmpty = false := by
            cases u with
            | nil => exact absurd h2 (by decide)
            | cons _ _ => rfl
          have e0 : decide (V.str (mkS u) = V.str (Str.ofString "")) = false := decide_eq_false fun z => by
            have e := V.str.inj z
            have : (mkS u).length = 0 := by rw [e]; rfl
            omega
          refine ⟨_, rfl, rfl, _, rfl, ?_⟩
          refine iteF' e0 ?_
          refine ⟨_, rfl, mkS u, rfl, fun D hD => lc_filter (bad := fun c => !isDig c) lu' hD (fun _ => rfl) (fun _ => rfl) ?_ ?_⟩
          · intro c H' R hc hR
            refine ⟨_, rfl, c, Str.ofString "0123456789", rfl, rfl, _, rfl, ?_⟩
            rw [dig_in]
            exact hR
          intro H' s1 g1
          refine ⟨_, .inl ⟨_, SqL.of g1, rfl⟩, ?_⟩
          rw [filt_empty]
          have ea : ((tl (mkS u)).all fun c => !!isDig c) = u.all isDig := by
            congr 1
            funext c
            exact Bool.not_not _
          rw [ea]
          by_cases hd : u.all isDig = true
          · refine iteF' (by rw [hd]; rfl) ?_
            refine ⟨_, rfl, _, _, rfl, ⟨lu', rfl⟩, _, _, rfl, rfl, _, rfl, ?_⟩
            have fin : numOk u = true → tRet
                (tTup
                  (tCons
                    (tCB
                      (fun xs H Q => ∃ a n, xs = [V.str a] ∧ intText? a = some n ∧ a.length ≤ 640 ∧ Q (V.int n) H)
                      (tCons (tVar 3) tNil))
                    (tCons (tOp (rI0 fun i j => V.int (i + j)) (tVar 2) (tC (V.int 1))) tNil)))
                { nx := fun x H' => Q V.non H', rt := Q } [some (.str x), some (.int (a : Int)), some (.int ((a + u.length : Nat) : Int)), some (.str (mkS u)), none] H' := by
              intro hk
              have hAll : NumText.AllDigits (mkS u).cps.toList := fun c hc => by
                have := List.all_eq_true.mp hd c hc
                unfold isDig at this
                rw [Bool.and_eq_true, decide_eq_true_eq, decide_eq_true_eq] at this
                exact this
              refine ⟨_, rfl, _, _, rfl, intText_digits hAll (by intro z; rw [show (mkS u).cps.toList = u from rfl] at z; rw [z] at h2; exact absurd h2 (by decide)) (by rw [lu]; omega), by rw [lu]; omega, _, rfl, _, _, rfl, rfl, by show 2 ≤ sizeLine; decide, fun p hp => ?_⟩
              refine kS (NumText.digitsVal u) (u.length + 1) (by unfold numAt; rw [ew, if_pos hk]) _ p (same_upd s1 hp) ?_
              rw [upd_same]
              rfl
            refine ite2 (fun h5 => ?_) (fun h5 => ?_)
            · have h5' : 1 < u.length := by have := of_decide_eq_true h5; omega
              obtain ⟨c, r, hcr⟩ : ∃ c r, u = c :: r := by
                cases u with
                | nil => exact absurd h2 (by decide)
                | cons c r => exact ⟨c, r, rfl⟩
              refine ⟨_, rfl, _, _, _, rfl, rfl, lu', atI_nat (j := 0) (show (tl (mkS u))[0]? = some c by rw [hcr]; rfl), rfl, _, rfl, ?_⟩
              rw [show decide (V.str ⟨#[c]⟩ = V.str (Str.ofString "0")) = decide (c = 48) from one_eq c 48]
              refine ite2 (fun h6 => ?_) (fun h6 => ?_)
              · refine kN ?_ _ s1
                have h6' : c = 48 := of_decide_eq_true h6
                have : numOk u = false := by
                  unfold numOk
                  rw [decide_eq_true h5', hcr, h6']
                  simp
                unfold numAt
                rw [ew, this]; rfl
              · refine fin ?_
                have h6' : decide (c = 48) = false := by simpa using h6
                unfold numOk
                rw [hne, hd, decide_eq_true h5', hcr]
                simpa using h6
            · refine iteF ?_
              refine fin ?_
              have h5' : ¬ 1 < u.length := fun z => h5 (decide_eq_true (by omega))
              unfold numOk
              rw [hne, hd, decide_eq_false h5']; rfl
          · have hd' : u.all isDig = false := by simpa using hd
            rw [hd']
            refine iteT ?_
            refine kN ?_ _ s1
            unfold numAt numOk
            rw [ew, hd', Bool.and_false, Bool.false_and]; rfl
        · refine iteF' (decide_eq_false (show ¬ ((a + (upto 58 ((tl x).drop a)).length : Nat) : Int) ≤ (a : Int) + 7 by omega)) ?_
          refine ⟨_, rfl, rfl, _, rfl, ?_⟩
          refine iteT ?_
          exact kN (none_of (by unfold wordAt; rw [if_neg (by omega)])) _ (Same.refl _)
      · rw [decide_eq_false (show ¬ (a : Int) < ((a + (upto 58 ((tl x).drop a)).length : Nat) : Int) by omega)]
        refine iteF ?_
        refine ⟨_, rfl, ?_⟩
        refine iteF ?_
        refine ⟨_, rfl, rfl, _, rfl, ?_⟩
        refine iteT ?_
        exact kN (none_of (by unfold wordAt; rw [if_neg (by omega)])) _ (Same.refl _)
    · rw [if_neg h1]
      refine ⟨_, rfl, _, rfl, _, _, rfl, rfl, _, rfl, ?_⟩
      rw [decide_eq_false (show ¬ (a : Int) < -1 by omega)]
      refine iteF ?_
      refine ⟨_, rfl, ?_⟩
      refine iteF ?_
      refine ⟨_, rfl, rfl, _, rfl, ?_⟩
      refine iteT ?_
      exact kN (none_of (by unfold wordAt; rw [if_neg (by omega)])) _ (Same.refl _)
end
section
variable {P : Program} {w : World} {K : PySem.W.Frag} {mg : Str → Option Value} {base : Heap}
theorem ok_oneF {f fN fK : Addr} {fd gN gK : FuncData} (F : Fun K "one_frame" "one_frame" sOneF f fd) (T : Blt mg) (G : Con51 mg)
    (FN : FnOk P w K mg base CX0 1 fN gN ["text", "at"] spNum) (mgN : mg "_number" = some (.ref fN)) (kN : PySem.W.keepIn K (.ref fN) = true) (bN : Binds K gN ["text", "at"] [])
    (FK : FnOk P w K mg base CX0 1 fK gK ["text"] spCheck) (mgK : mg "check_of" = some (.ref fK)) (kK : PySem.W.keepIn K (.ref fK) = true) (bK : Binds K gK ["text"] []) : FnOk P w K mg base CX0 2 f fd ["text", "at"] spOneF := by
  obtain ⟨tM, GM⟩ := G.gM
  refine F.ok scOneF (fun vs H Q E h => ?_) (fun cdv A outer s H vs Q E hr h => ?_)
  · obtain ⟨x, a, rfl, _⟩ := h
    rfl
  · obtain ⟨x, a, rfl, hx, ha, qS, qN⟩ := h
    have hx' : x.length ≤ sizeLine := by rw [sizeLine_eq]; omega
    have hlx : x.length = (tl x).length := len_tl x
    refine ⟨_, (pss_cons (ps_set (i := 2) scOneF.nd rfl (Or.inl rfl) (pe_call FN (hr.mono (by decide)) rfl mgN kN bN .nil pass0 (pa_cons (pv 0) (pa_cons (pv 1) pa_nil))))
    (pss_cons (ps_set (i := 3) scOneF.nd rfl (Or.inl rfl) (pe_ifExp (pt_cmpR op_isN (pv 2) pe_non (nomark _)) pe_non (pe_call FN (hr.mono (by decide)) rfl mgN kN bN .nil pass0 (pa_cons (pv 0) (pa_cons (pe_ix (r := rIxT K) ix_tup (pv 2) pe_int (fun _ _ => rfl)) pa_nil)))))
    (pss_cons (ps_if (PW.pt (pw_or (pt_cmpR op_isN (pv 3) pe_non (nomark _)) (pw_or1 (pt_cmpR op_gt (pe_ix (r := rIxT K) ix_tup (pv 2) pe_int (fun _ _ => rfl)) (pe_glob (v := .int 1000000) rfl GM ⟨_, rfl⟩) (nomark _))))) (pss_one (ps_ret pe_non)) pss_nil)
    (pss_cons (ps_set (i := 4) scOneF.nd rfl (Or.inl rfl) (pe_ix (r := rIxT K) ix_tup (pv 3) pe_int (fun _ _ => rfl)))
    (pss_cons (ps_set (i := 5) scOneF.nd rfl (Or.inl rfl) (pe_op op_add (pv 4) (pe_ix (r := rIxT K) ix_tup (pv 2) pe_int (fun _ _ => rfl))))
    (pss_cons (ps_set (i := 6) scOneF.nd rfl (Or.inl rfl) (pe_slice sl_str (pv 0) (po_some (pv 4)) (po_some (pv 5))))
    (pss_cons (ps_if (PW.pt (pw_or (pt_cmpR op_ne (pe_callB call_len (by rfl) T.b_len (by decide +kernel) (pa_cons (pv 6) pa_nil)) (pe_ix (r := rIxT K) ix_tup (pv 2) pe_int (fun _ _ => rfl)) (nomark _)) (pw_or (pt_cmpR op_ne (pe_slice sl_str (pv 0) (po_some (pv 5)) (po_some (pe_op op_add (pv 5) pe_int))) pe_str (nomark _)) (pw_or (pt_cmpR op_in_sign pe_str (pv 6) rfl) (pw_or1 (pt_cmpR op_ne (pe_call FK (hr.mono (by decide)) rfl mgK kK bK .nil pass0 (pa_cons (pv 6) pa_nil)) (pe_ix (r := rIxT K) ix_tup (pv 3) pe_int (fun _ _ => rfl)) (nomark _))))))) (pss_one (ps_ret pe_non)) pss_nil)
    (pss_one (ps_ret (pe_tup (pa_cons (pv 6) (pa_cons (pe_op op_add (pv 5) pe_int) pa_nil)))))))))))), ?_⟩
    refine ⟨_, rfl, _, rfl, x, a, rfl, hx, ha, fun n k e1 H1 p1 s1 hp1 => ?_, fun e1 H1 s1 => ?_⟩
    · have hk1 := numAt_some e1
      have hdl : ((tl x).drop a).length = (tl x).length - a := List.length_drop
      refine ⟨_, rfl, rfl, _, rfl, ?_⟩
      refine iteF ?_
      refine ⟨_, rfl, _, rfl, p1, _, _, _, rfl, rfl, SqT.of hp1, atI_nat (j := 1) rfl, x, a + k, rfl, hx, by omega, fun c k2 e2 H2 p2 s2 hp2 => ?_, fun e2 H2 s2 => ?_⟩
      · have e2' : numAt (((tl x).drop a).drop k) = some (c, k2) := by rw [List.drop_drop]; exact e2
        have hk2 := numAt_some e2'
        have hdl2 : (((tl x).drop a).drop k).length = (tl x).length - a - k := by rw [List.length_drop, hdl]
        have hp1' := s2 _ _ hp1
        have s12 := s1.trans s2
        have eO : oneFr ((tl x).drop a) = if bodyOk n c ((tl x).drop (a + k + k2)) then some (((tl x).drop (a + k + k2)).take n, k + k2 + n + 1) else none := by
          unfold oneFr
          rw [e1]
          dsimp only
          rw [e2']
          dsimp only
          rw [List.drop_drop, show a + (k + k2) = a + k + k2 by omega]
        have no : ¬ bodyOk n c ((tl x).drop (a + k + k2)) → oneFr ((tl x).drop a) = none := fun z => by rw [eO, if_neg z]
        refine ⟨_, rfl, rfl, _, rfl, ?_⟩
        refine iteF ?_
        refine ⟨_, rfl, p1, _, _, _, rfl, rfl, SqT.of hp1', atI_nat (j := 0) rfl, _, _, rfl, rfl, _, rfl, ?_⟩
        refine ite2 (fun h1 => ?_) (fun h1 => ?_)
        · have := of_decide_eq_true h1
          exact qN (no fun z => by have := z.1; omega) _ s12
        have h1' : n ≤ 1000000 := by
          have : ¬ (1000000 : Int) < ((n : Nat) : Int) := fun z => h1 (decide_eq_true z)
          omega
        refine ⟨_, rfl, p2, _, _, _, rfl, rfl, SqT.of hp2, atI_nat (j := 1) rfl, ?_⟩
        refine ⟨_, rfl, _, rfl, p1, _, _, _, rfl, rfl, SqT.of hp1', atI_nat (j := 0) rfl, _, _, rfl, rfl, ?_⟩
        refine ⟨_, rfl, _, rfl, _, rfl, _, rfl, _, rfl, _, rfl, hx', ?_⟩
        have ec : cutS x (some ((a + k + k2 : Nat) : Int)) (some (((a + k + k2 : Nat) : Int) + ((n : Nat) : Int))) = mkS (((tl x).drop (a + k + k2)).take n) := by
          rw [show ((a + k + k2 : Nat) : Int) + ((n : Nat) : Int) = ((a + k + k2 + n : Nat) : Int) by omega, cut_any, Nat.add_sub_cancel_left]
        rw [ec]
        have eend : cutS x (some (((a + k + k2 : Nat) : Int) + ((n : Nat) : Int))) (some (((a + k + k2 : Nat) : Int) + ((n : Nat) : Int) + 1)) = mkS ((((tl x).drop (a + k + k2)).drop n).take 1) := by
          rw [show ((a + k + k2 : Nat) : Int) + ((n : Nat) : Int) + 1 = ((a + k + k2 + n + 1 : Nat) : Int) by omega, show ((a + k + k2 : Nat) : Int) + ((n : Nat) : Int) = ((a + k + k2 + n : Nat) : Int) by omega, cut_any, Nat.add_sub_cancel_left, List.drop_drop]
        generalize hR : (tl x).drop (a + k + k2) = R at *
        have li : (mkS (R.take n)).length = (R.take n).length := by rw [len_tl]
        have li' : (mkS (R.take n)).length ≤ sizeLine := by rw [li, List.length_take, sizeLine_eq]; omega
        refine ⟨_, rfl, _, _, rfl, ⟨li', rfl⟩, _, rfl, p1, _, _, _, rfl, rfl, SqT.of hp1', atI_nat (j := 0) rfl, rfl, _, rfl, ?_⟩
        rw [li]
        by_cases b1 : (R.take n).length = n
        · have z1 : (!decide (V.int (((R.take n).length : Nat) : Int) = V.int ((n : Nat) : Int))) = false := by
            rw [decide_eq_true (by rw [b1])]; rfl
          refine iteF' z1 ?_
          refine ⟨_, rfl, _, rfl, _, rfl, _, rfl, _, _, rfl, rfl, _, rfl, _, rfl, hx', rfl, _, rfl, ?_⟩
          rw [eend]
          by_cases b2 : (R.drop n).take 1 = [10]
          · have z2 : (!decide (V.str (mkS ((R.drop n).take 1)) = V.str (Str.ofString "\n"))) = false := by
              rw [decide_eq_true (by rw [b2]; rfl)]; rfl
            refine iteF' z2 ?_
            refine ⟨_, rfl, 63, mkS (R.take n), rfl, rfl, _, rfl, ?_⟩
            refine ite2 (fun h3 => ?_) (fun h3 => ?_)
            · exact qN (no fun z => z.2.2.2.1 (of_decide_eq_true h3)) _ s12
            have b3 : ¬ 63 ∈ R.take n := fun z => h3 (decide_eq_true z)
            refine ⟨_, rfl, mkS (R.take n), rfl, _, rfl, p2, _, _, _, rfl, rfl, SqT.of hp2, atI_nat (j := 0) rfl, rfl, _, rfl, ?_⟩
            by_cases b4 : chk (R.take n) = c
            · have z4 : (!decide (V.int ((chk (R.take n) : Nat) : Int) = V.int ((c : Nat) : Int))) = false := by
                rw [decide_eq_true (by rw [b4])]; rfl
              refine iteF' z4 ?_
              refine ⟨_, rfl, _, rfl, _, _, rfl, rfl, by show 2 ≤ sizeLine; decide, fun p hp => ?_⟩
              refine qS (R.take n) (k + k2 + n + 1) (by rw [eO, if_pos ⟨h1', b1, b2, b3, b4⟩]) _ p (same_upd s12 hp) ?_
              rw [upd_same]
              have e5 : ((a + k + k2 : Nat) : Int) + ((n : Nat) : Int) + 1 = ((a + (k + k2 + n + 1) : Nat) : Int) := by omega
              rw [← e5]
            · have z4 : (!decide (V.int ((chk (R.take n) : Nat) : Int) = V.int ((c : Nat) : Int))) = true := by
                rw [decide_eq_false (fun z => b4 (by have := V.int.inj z; omega))]; rfl
              refine iteT' z4 ?_
              exact qN (no fun z => b4 z.2.2.2.2) _ s12
          · have z2 : (!decide (V.str (mkS ((R.drop n).take 1)) = V.str (Str.ofString "\n"))) = true := by
              rw [decide_eq_false (fun z => b2 (by have := congrArg tl (V.str.inj z); exact this))]; rfl
            refine iteT' z2 ?_
            exact qN (no fun z => b2 z.2.2.1) _ s12
        · have z1 : (!decide (V.int (((R.take n).length : Nat) : Int) = V.int ((n : Nat) : Int))) = true := by
            rw [decide_eq_false (fun z => b1 (by have := V.int.inj z; omega))]; rfl
          refine iteT' z1 ?_
          exact qN (no fun z => b1 z.2.1) _ s12
      · refine ⟨_, rfl, rfl, _, rfl, ?_⟩
        refine iteT ?_
        refine qN ?_ _ (s1.trans s2)
        unfold oneFr
        rw [e1]
        dsimp only
        rw [List.drop_drop, e2]
    · refine ⟨_, rfl, rfl, _, rfl, ?_⟩
      refine iteT ?_
      refine ⟨_, rfl, rfl, _, rfl, ?_⟩
      refine iteT ?_
      exact qN (by unfold oneFr; rw [e1]) _ s1
theorem ok_read {f fO : Addr} {fd gO : FuncData} (F : Fun K "read_frames" "read_frames" sRead f fd) (T : Blt mg)
    (FO : FnOk P w K mg base CX0 2 fO gO ["text", "at"] spOneF) (mgO : mg "one_frame" = some (.ref fO)) (kO : PySem.W.keepIn K (.ref fO) = true) (bO : Binds K gO ["text", "at"] []) : FnOk P w K mg base CX0 3 f fd ["text"] spRead := by
  refine F.ok scRead (fun vs H Q E h => ?_) (fun cdv A outer s H vs Q E hr h => ?_)
  · obtain ⟨x, rfl, _⟩ := h
    rfl
  · obtain ⟨x, rfl, hx, q⟩ := h
    have hlx : x.length = (tl x).length := len_tl x
    refine ⟨_, (pss_cons (ps_set (i := 1) scRead.nd rfl (Or.inl rfl) (pe_lst pa_nil))
    (pss_cons (ps_set (i := 2) scRead.nd rfl (Or.inl rfl) pe_int)
    (pss_cons (ps_set (i := 3) scRead.nd rfl (Or.inl rfl) (pe_call FO (hr.mono (by decide)) rfl mgO kO bO .nil pass0 (pa_cons (pv 0) (pa_cons (pv 2) pa_nil))))
    (pss_cons (ps_while PassesOwn.never (pt_cmpR op_notN (pv 3) pe_non (nomark _)) (pss_cons (ps_expr (pe_bm PySem.F.plainAttrs_list PySem.F.slot_list_append PySem.F.type_list_append mt_append (pv 1) (pa_cons (pe_ix (r := rIxT K) ix_tup (pv 3) pe_int (fun _ _ => rfl)) pa_nil)))
    (pss_cons (ps_set (i := 2) scRead.nd rfl (Or.inl rfl) (pe_ix (r := rIxT K) ix_tup (pv 3) pe_int (fun _ _ => rfl)))
    (pss_one (ps_set (i := 3) scRead.nd rfl (Or.inl rfl) (pe_call FO (hr.mono (by decide)) rfl mgO kO bO .nil pass0 (pa_cons (pv 0) (pa_cons (pv 2) pa_nil))))))))
    (pss_one (ps_ret (pe_tup (pa_cons (pv 1) (pa_cons (pv 2) pa_nil))))))))), ?_⟩
    refine ⟨by show 0 ≤ sizeLine; decide, fun fa hfa => ?_⟩
    have s0 : Same H (upd H fa (.lst [])) := same_upd (Same.refl _) hfa
    -- what stands at the loop's head
    let Inv : Nat → L2.St → Hp → Prop := fun m σ H' => ∃ (a : Nat) (acc : List (List Nat)) (fr : V), m = (tl x).length - a ∧ a ≤ (tl x).length ∧ σ = [some (.str x), some (.ref fa), some (.int (a : Int)), some fr] ∧ Same H H' ∧ H' fa = some (.lst (vT acc)) ∧ acc.length ≤ a ∧
      readL (tl x) = (acc ++ (readL ((tl x).drop a)).1, a + (readL ((tl x).drop a)).2) ∧
      ((fr = .non ∧ oneFr ((tl x).drop a) = none) ∨ ∃ t k p, fr = .ref p ∧ oneFr ((tl x).drop a) = some (t, k) ∧ H' p = some (.tup [.str (mkS t), .int ((a + k : Nat) : Int)]))
    have loop : ∀ m σ H', Inv m σ H' → True := fun _ _ _ _ => trivial
    refine ⟨_, rfl, _, rfl, x, 0, rfl, hx, Nat.zero_le _, fun t k e1 H1 p1 s1 hp1 => ?_, fun e1 H1 s1 => ?_⟩
    · refine ⟨Inv, ⟨_, 0, [], .ref p1, rfl, Nat.zero_le _, rfl, s0.trans s1, s1 _ _ upd_same, Nat.le_refl _, by rw [List.drop_zero]; simp, .inr ⟨t, k, p1, rfl, e1, by rw [hp1]⟩⟩, ?_⟩
      rintro m σ H' ⟨a, acc, fr, rfl, ha, rfl, sH, hF, hA, hR, hfr⟩
      refine ⟨_, rfl, rfl, _, rfl, ?_⟩
      rcases hfr with ⟨rfl, e2⟩ | ⟨t2, k2, p2, rfl, e2, hp2⟩
      · refine iteF ?_
        refine ⟨_, rfl, _, rfl, by show 2 ≤ sizeLine; decide, fun p hp => ?_⟩
        rw [readL_none e2] at hR
        have hR' : readL (tl x) = (acc, a) := by simpa using hR
        refine q _ p fa (same_upd sH hp) hfa ?_ ?_
        · rw [upd_same, hR']
        · rw [upd_ne (ne_of_none hF hp), hR']; exact hF
      · refine iteT ?_
        have hk := oneFr_some e2
        have hdl : ((tl x).drop a).length = (tl x).length - a := List.length_drop
        rw [readL_some e2, List.drop_drop] at hR
        refine ⟨_, fun _ _ z => z, ?_⟩
        have nfp : p2 ≠ fa := ne_of hp2 hF (by intro z; cases z)
        refine ⟨_, rfl, .inl ⟨rfl, _, SqL.of hF⟩, _, rfl, p2, _, _, _, rfl, rfl, SqT.of hp2, atI_nat (j := 0) rfl, fa, _, _, rfl, rfl, hF, by unfold vT; rw [List.length_map, sizeLine_eq]; omega, ?_⟩
        have hF2 : upd H' fa (.lst (vT acc ++ [V.str (mkS t2)])) fa = some (.lst (vT (acc ++ [t2]))) := by rw [upd_same]; unfold vT; rw [List.map_append]; rfl
        have hp2' : upd H' fa (.lst (vT acc ++ [V.str (mkS t2)])) p2 = some (.tup [.str (mkS t2), .int ((a + k2 : Nat) : Int)]) := by rw [upd_ne nfp]; exact hp2
        have sH2 : Same H (upd H' fa (.lst (vT acc ++ [V.str (mkS t2)]))) := fun b o e => by
          have nb : b ≠ fa := fun z => by rw [z, hfa] at e; cases e
          rw [upd_ne nb]; exact sH _ _ e
        refine ⟨_, rfl, p2, _, _, _, rfl, rfl, SqT.of hp2', atI_nat (j := 1) rfl, ?_⟩
        refine ⟨_, rfl, _, rfl, x, a + k2, rfl, hx, by omega, fun t3 k3 e3 H3 p3 s3 hp3 => ?_, fun e3 H3 s3 => ?_⟩
        · refine ⟨(tl x).length - (a + k2), by omega, a + k2, acc ++ [t2], .ref p3, rfl, by omega, rfl, sH2.trans s3, s3 _ _ hF2, by rw [List.length_append, List.length_singleton]; omega, ?_, .inr ⟨t3, k3, p3, rfl, e3, hp3⟩⟩
          rw [hR, List.append_assoc, Nat.add_assoc]; rfl
        · refine ⟨(tl x).length - (a + k2), by omega, a + k2, acc ++ [t2], .non, rfl, by omega, rfl, sH2.trans s3, s3 _ _ hF2, by rw [List.length_append, List.length_singleton]; omega, ?_, .inl ⟨rfl, e3⟩⟩
          rw [hR, List.append_assoc, Nat.add_assoc]; rfl
    · refine ⟨Inv, ⟨_, 0, [], .non, rfl, Nat.zero_le _, rfl, s0.trans s1, s1 _ _ upd_same, Nat.le_refl _, by rw [List.drop_zero]; simp, .inl ⟨rfl, e1⟩⟩, ?_⟩
      rintro m σ H' ⟨a, acc, fr, rfl, ha, rfl, sH, hF, hA, hR, hfr⟩
      refine ⟨_, rfl, rfl, _, rfl, ?_⟩
      rcases hfr with ⟨rfl, e2⟩ | ⟨t2, k2, p2, rfl, e2, hp2⟩
      · refine iteF ?_
        refine ⟨_, rfl, _, rfl, by show 2 ≤ sizeLine; decide, fun p hp => ?_⟩
        rw [readL_none e2] at hR
        have hR' : readL (tl x) = (acc, a) := by simpa using hR
        refine q _ p fa (same_upd sH hp) hfa ?_ ?_
        · rw [upd_same, hR']
        · rw [upd_ne (ne_of_none hF hp), hR']; exact hF
      · refine iteT ?_
        have hk := oneFr_some e2
        have hdl : ((tl x).drop a).length = (tl x).length - a := List.length_drop
        rw [readL_some e2, List.drop_drop] at hR
        refine ⟨_, fun _ _ z => z, ?_⟩
        have nfp : p2 ≠ fa := ne_of hp2 hF (by intro z; cases z)
        refine ⟨_, rfl, .inl ⟨rfl, _, SqL.of hF⟩, _, rfl, p2, _, _, _, rfl, rfl, SqT.of hp2, atI_nat (j := 0) rfl, fa, _, _, rfl, rfl, hF, by unfold vT; rw [List.length_map, sizeLine_eq]; omega, ?_⟩
        have hF2 : upd H' fa (.lst (vT acc ++ [V.str (mkS t2)])) fa = some (.lst (vT (acc ++ [t2]))) := by rw [upd_same]; unfold vT; rw [List.map_append]; rfl
        have hp2' : upd H' fa (.lst (vT acc ++ [V.str (mkS t2)])) p2 = some (.tup [.str (mkS t2), .int ((a + k2 : Nat) : Int)]) := by rw [upd_ne nfp]; exact hp2
        have sH2 : Same H (upd H' fa (.lst (vT acc ++ [V.str (mkS t2)]))) := fun b o e => by
          have nb : b ≠ fa := fun z => by rw [z, hfa] at e; cases e
          rw [upd_ne nb]; exact sH _ _ e
        refine ⟨_, rfl, p2, _, _, _, rfl, rfl, SqT.of hp2', atI_nat (j := 1) rfl, ?_⟩
        refine ⟨_, rfl, _, rfl, x, a + k2, rfl, hx, by omega, fun t3 k3 e3 H3 p3 s3 hp3 => ?_, fun e3 H3 s3 => ?_⟩
        · refine ⟨(tl x).length - (a + k2), by omega, a + k2, acc ++ [t2], .ref p3, rfl, by omega, rfl, sH2.trans s3, s3 _ _ hF2, by rw [List.length_append, List.length_singleton]; omega, ?_, .inr ⟨t3, k3, p3, rfl, e3, hp3⟩⟩
          rw [hR, List.append_assoc, Nat.add_assoc]; rfl
        · refine ⟨(tl x).length - (a + k2), by omega, a + k2, acc ++ [t2], .non, rfl, by omega, rfl, sH2.trans s3, s3 _ _ hF2, by rw [List.length_append, List.length_singleton]; omega, ?_, .inl ⟨rfl, e3⟩⟩
          rw [hR, List.append_assoc, Nat.add_assoc]; rfl
end
end K53

namespace K53
open PySem PySem.Spec PyProof.Rows L2
/-! ### methods and makings that may raise; text times a number; X(e) -/
theorem ok_low {P : Program} {w : World} {K : PySem.W.Frag} {mg : Str → Option Value} {base : Heap} {k : Nat} {f : Addr} {fd : FuncData} {ps : List Str} {sp sp' : Sp} (F : FnOk P w K mg base (L2N.CX P w) k f fd ps sp)
    (h : ∀ vs H Q E, sp' vs H Q E → sp vs H Q fun _ _ _ => False) : FnOk P w K mg base CX0 k f fd ps sp' :=
  ⟨fun vs H Q E z => F.len _ _ _ _ (h _ _ _ _ z), fun A outer s H args us vs Q E hr e0 b r z => codeAny_mono (F.run A outer s H args us vs Q _ hr e0 b r (h _ _ _ _ z)) fun res s' q => by
    match res, q with
    | .ok (.ret _), q => exact q
    | .ok .next, q => exact q.elim
    | .ok .brk, q => exact q.elim
    | .ok .cont, q => exact q.elim
    | .error _, ⟨_, _, _, _, _, _, _, _, _, _, _, _, z⟩ => exact z.elim⟩
def tMethS (C : Addr) (m : Str) (sp : Sp) (E : L2.St → XK) (ta : TE) (t : TA) : TE := fun σ H Q => ta σ H fun x H1 => ∃ a dx fs, x = .ref a ∧ H1 a = some (.ins C dx fs) ∧ fs.lookup m = none ∧ t σ H1 fun vs H2 => sp (x :: vs) H2 Q (E σ)
def tMakeS (C : Addr) (sp : Sp) (E : L2.St → XK) (t : TA) : TE := fun σ H Q => t σ H fun vs H1 => ∀ x dx, H1 x = none → H1 dx = none → dx ≠ x →
  sp (.ref x :: vs) (upd (upd H1 dx (.own x)) x (.ins C dx [])) (fun v H2 => v = .non ∧ Q (.ref x) H2) (E σ)
section
variable {X : Cx} {CX : CXT} {k : Nat} {f C : Addr} {fd : FuncData} {ps : List Str} {sp : Sp} {E : L2.St → XK} {x m : Str} {p pos apos : Pos} {e o : Expr} {es : List Expr} {ta : TE} {t : TA}
theorem pe_methS1 {pl : Sem Bool} (he : PE X o ta) (c : Cls X.K C) (hm : Meth X.K C m f) (F : FnOk X.prog X.w X.K X.mg X.base CX k f fd ps sp) (hr : Room k X.A) (hb : Binds X.K fd ps []) (hx : ∀ σ, PassesAt CX X σ (E σ)) (ha : PA X (e :: es) t)
    (hst : starEach (e :: es) X.env = (false, eval e X.env) :: starEach es X.env := by rfl) (hpl : (backTo pos (starEach es X.env)).any (·.1) = false := by rfl)
    (ht : eval (.Call (.Attribute o m apos) (e :: es) [] pos) X.env = (do
      let ov ← eval o X.env
      standAt apos.atName
      let (f, first) ← holding [ov] (getMethod ov m pl)
      callWith pos f first (backTo pos (starEach (e :: es) X.env)) (backToKw pos (keywordEach [] X.env))) := by rfl) :
    PE X (.Call (.Attribute o m apos) (e :: es) [] pos) (tMethS C m sp E ta t) := by
  refine ⟨fun pins s σ H Q I h => ?_⟩
  refine PySem.W.methodCall_KW (pl := pl) (thn (he.run pins s σ H _ I h) fun u s1 ⟨x, H1, I1, rx, a, dx, fs, ex, ea, l, q⟩ => ?_) ht
  subst ex
  obtain rfl : u = Value.ref a := rx
  refine getmeth_ok I1 ea c hm l ?_
  refine PySem.W.callWith_K (first := [.ref a]) (h₀ := X.base) I.ok.mod.kin hm.kp (thn (ha.run pos pins s1 σ H1 _ I1 q) fun us s2 ⟨vs, H2, I2, r, q2⟩ => ⟨I2.kIn, ?_⟩) hst hpl
  exact run_fnS (us := .ref a :: us) (vs := .ref a :: vs) F hr hb (hx σ) I2 (.cons rfl r) q2
theorem pe_methS0 {pl : Sem Bool} (he : PE X o ta) (c : Cls X.K C) (hm : Meth X.K C m f) (F : FnOk X.prog X.w X.K X.mg X.base CX k f fd ps sp) (hr : Room k X.A) (hb : Binds X.K fd ps []) (hx : ∀ σ, PassesAt CX X σ (E σ))
    (ht : eval (.Call (.Attribute o m apos) [] [] pos) X.env = (do
      let ov ← eval o X.env
      standAt apos.atName
      let (f, first) ← holding [ov] (getMethod ov m pl)
      callWith pos f first (backTo pos (starEach [] X.env)) (backToKw pos (keywordEach [] X.env))) := by rfl) :
    PE X (.Call (.Attribute o m apos) [] [] pos) (tMethS C m sp E ta tNil) := by
  refine ⟨fun pins s σ H Q I h => ?_⟩
  refine PySem.W.methodCall_KW (pl := pl) (thn (he.run pins s σ H _ I h) fun u s1 ⟨x, H1, I1, rx, a, dx, fs, ex, ea, l, q⟩ => ?_) ht
  subst ex
  obtain rfl : u = Value.ref a := rx
  refine getmeth_ok I1 ea c hm l ?_
  exact PySem.W.callWith_K0 (first := [.ref a]) I1.kIn hm.kp (run_fnS (us := [.ref a]) (vs := [.ref a]) F hr hb (hx σ) I1 (.cons rfl .nil) q)
theorem run_makeS {pins : List (Addr × Obj)} {σ : L2.St} {H : Hp} {s : Shared} {Q : VK} {us : List Value} {vs : List V} (M : Mk X.K C f) (F : FnOk X.prog X.w X.K X.mg X.base CX k f fd ps sp) (hr : Room (k + 1) X.A) (hb : Binds X.K fd ps [])
    (hx : PassesAt CX X σ (E σ)) (I : Inv X pins σ H s) (r : Vals vs us)
    (h : ∀ x dx, H x = none → H dx = none → dx ≠ x → sp (.ref x :: vs) (upd (upd H dx (.own x)) x (.ins C dx [])) (fun v H2 => v = .non ∧ Q (.ref x) H2) (E σ)) :
    wpAny (model X.prog X.w) X.A (call (.ref C) us) (EP X pins σ Q) X.xe s := by
  have hq := h (s.heap.objs.size + 1) s.heap.objs.size (I.hok.fresh (Nat.le_succ _)) (I.hok.fresh (Nat.le_refl _)) (Nat.ne_of_lt (Nat.lt_succ_self _))
  have I2 := Inv.made (C := C) I
  have r2 : Vals (V.ref (s.heap.objs.size + 1) :: vs) (Value.ref (s.heap.objs.size + 1) :: us) := .cons rfl r
  have hl : (Value.ref (s.heap.objs.size + 1) :: us ++ []).length = ps.length := by
    have e := r2.length
    rw [F.len _ _ _ _ hq] at e
    rw [List.append_nil]
    exact e.symm
  have b := hb _ (Value.ref (s.heap.objs.size + 1) :: us) I2.kIn hl
  rw [List.append_nil] at b
  refine wpAny_call (make_map (f := f) I.kIn M.makes M.init (beq_iff_eq.mp M.fn) (codeAny_mono (F.run _ X.stack _ _ ⟨Value.ref (s.heap.objs.size + 1) :: us, []⟩ (Value.ref (s.heap.objs.size + 1) :: us) _ _ (E σ) (hr.make C us [])
    (I2.env0.make C us []) b r2 hq) fun r s' hq' => ?_))
  cases r with
  | error e => exact hx pins _ _ e s' I2 hq'
  | ok fl =>
    cases fl with
    | ret u =>
      obtain ⟨v, H', I3, rv, ev, q3⟩ := I2.after hq'
      subst ev
      exact ⟨rv, ⟨V.ref (s.heap.objs.size + 1), H', I3, rfl, q3⟩⟩
    | next => exact False.elim hq'
    | brk => exact False.elim hq'
    | cont => exact False.elim hq'
theorem pe_makeS1 (M : Mk X.K C f) (F : FnOk X.prog X.w X.K X.mg X.base CX k f fd ps sp) (hr : Room (k + 1) X.A) (hg : Gl X x) (hm : X.mg x = some (.ref C)) (hb : Binds X.K fd ps []) (hx : ∀ σ, PassesAt CX X σ (E σ))
    (ha : PA X (e :: es) t) (hdb : (x == ("__debug__" : Str)) = false := by decide) (he : starEach (e :: es) X.env = (false, eval e X.env) :: starEach es X.env := by rfl) (hpl : (backTo pos (starEach es X.env)).any (·.1) = false := by rfl) :
    PE X (.Call (.Name x p) (e :: es) [] pos) (tMakeS C sp E t) := by
  refine ⟨fun pins s σ H Q I h => ?_⟩
  refine wpAny_Call_Name_kw (ld_glob I hg hm ?_ hdb)
  refine PySem.W.callWith_K (h₀ := X.base) I.ok.mod.kin M.kp (thn (ha.run pos pins s σ H _ I h) fun us s1 ⟨vs, H1, I1, r, q⟩ => ⟨I1.kIn, ?_⟩) he hpl
  exact run_makeS M F hr hb (hx σ) I1 r q
/-- X(e), where what is made keeps no context -/
theorem pmk_own1N {bmB : List Value} {B newId initId : String} (F : ExcBaseFacts B newId initId bmB) (q : PySem.W.excIn X.K C bmB newId = true) (gC : X.mg x = some (.ref C)) (kC : PySem.W.keepIn X.K (.ref C) = true) (r : Raises X (.ref C)) (hg : Gl X x)
    (he : PE X e ta) (hs : starEach [e] X.env = (false, eval e X.env) :: starEach [] X.env := by rfl) (hdb : (x == ("__debug__" : Str)) = false := by decide) :
    L2N.PMk X (.Call (.Name x p) [e] [] pos) (fun σ H Q => ta σ H fun _ H1 => Q (.ref C) none H1) := by
  intro pins s σ H Q I h
  refine wpAny_Call_Name_kw (ld_glob I hg gC ?_ hdb)
  refine PySem.W.callWith_K (h₀ := X.base) I.ok.mod.kin kC ?_ hs (by rfl)
  rw [hs]
  show wpAny _ _ (spliced ((false, eval e X.env) :: backTo pos (starEach [] X.env))) _ _ s
  refine Calls.spliced_cons (thn (he.run pins s σ H _ I h) fun u s1 ⟨v, H1, I1, r1, q1⟩ => ?_)
  refine Calls.spliced_nil ⟨I1.kIn, ?_⟩
  show wpAny _ _ (call (.ref C) [u]) _ _ _
  obtain ⟨bm, N, nm, qn, bs, hdct, sn, sub, ab, col, dd, k0, k1, k2, k3, k5, mN, hC, hN, hni, T⟩ := exc_obj I1.kIn q
  refine wpAny_call_exc_subT F T hC hN hni (fun h' e hm => ?_) (by show 1 ≤ sizeLine; rw [sizeLine_eq]; omega)
  exact L2N.mk_of I1 hm r q1 (I1.hok.gone hm.new)
theorem op_mul_str : OpR X (binaryOp .Mult) (fun x y H Q => ∃ (z : Str) (n : Int), x = .str z ∧ y = .int n ∧ MulOk z n ∧ Q (.str (Txt.mul z n)) H) := by
  intro pins s σ H x y v u Q I rx ry h
  obtain ⟨z, n, rfl, rfl, ok, q⟩ := h
  obtain ⟨t, rfl⟩ := rx
  obtain ⟨t', rfl⟩ := ry
  exact PySem.SB.mul ok fun t2 k => ⟨.str _, H, I.kept (t' := k) fun _ _ e => e, ⟨_, rfl⟩, q⟩
end
section steps
variable {σ : L2.St} {H : Hp} {D : Ends}
theorem w_methS {C : Addr} {m : Str} {sp : Sp} {E : L2.St → XK} {ta : TE} {t : TA} {Q : VK} (h : ta σ H fun x H1 => ∃ a dx fs, x = .ref a ∧ H1 a = some (.ins C dx fs) ∧ fs.lookup m = none ∧ t σ H1 fun vs H2 => sp (x :: vs) H2 Q (E σ)) : tMethS C m sp E ta t σ H Q := h
theorem w_makeS {C : Addr} {sp : Sp} {E : L2.St → XK} {t : TA} {Q : VK} (h : t σ H fun vs H1 => ∀ x dx, H1 x = none → H1 dx = none → dx ≠ x → sp (.ref x :: vs) (upd (upd H1 dx (.own x)) x (.ins C dx [])) (fun v H2 => v = .non ∧ Q (.ref x) H2) (E σ)) : tMakeS C sp E t σ H Q := h
theorem w_dictD {a : Addr} {kvs : List (Key × V)} {R : List (Key × V) → Addr → Prop} (h : H a = some (.dK kvs)) (k : ∀ p, H p = none → R kvs p) : ∃ (b : Addr) (ks : List (Key × V)), [V.ref a] = [.ref b] ∧ Rd H b (.dK ks) ∧ ∀ p, H p = none → R ks p := ⟨a, kvs, rfl, Rd.of h, k⟩
theorem w_isD {a : Addr} {kvs : List (Key × V)} {P : Addr → Prop} (h : H a = some (.dK kvs)) (k : P a) : ∃ b, V.ref a = .ref b ∧ IsD H b ∧ P b := ⟨a, rfl, .inl ⟨kvs, Rd.of h⟩, k⟩
theorem w_dpop {td ty : TE} {Q : VK} (h : td σ H fun x H1 => ∃ a, x = .ref a ∧ IsD H1 a ∧ ty σ H1 fun y H2 => ∃ kvs k v, H2 a = some (.dK kvs) ∧ y = kV k ∧ valV kvs k = some v ∧ Q v (upd H2 a (.dK (dropK kvs k)))) : tDPop1 td ty σ H Q := h
theorem w_dpopS {a : Addr} {kvs : List (Key × V)} {x : Str} {v : V} {R : List (Key × V) → Key → V → Prop} (h : H a = some (.dK kvs)) (e : valV kvs (Sum.inr x : Key) = some v) (k : R kvs (Sum.inr x) v) :
    ∃ kvs k v, H a = some (.dK kvs) ∧ V.str x = kV k ∧ valV kvs k = some v ∧ R kvs k v := ⟨kvs, Sum.inr x, v, h, rfl, e, k⟩
end steps
theorem _root_.L2.Fun.okN {P : Program} {w : World} {K : PySem.W.Frag} {mg : Str → Option Value} {base : Heap} {x qual : Str} {st : Stmt} {f : Addr} {fd : FuncData} {N ps : List Str} {k : Nat} {sp : Sp} (F : Fun K x qual st f fd) (S : FnScope N ps (defScope st)) (len : ∀ vs H Q E, sp vs H Q E → vs.length = ps.length)
    (hbody : ∀ (cdv : Value) (A : Around) (outer : List Env) (s : Shared) (H : Hp) (vs : List V) (Q : VK) (E : XK), Room k (A.deeper (envOfC qual (defScope st) s.heap.objs.size f cdv)) → sp vs H Q E →
      ∃ t, PSs (cxOf (L2N.CX P w) P w K mg base N qual (defScope st) f cdv A outer s H E) (defBody st) t ∧ t { nx := fun _ H' => Q .non H', rt := Q } (start N vs) H) : FnOk P w K mg base (L2N.CX P w) (k + 1) f fd ps sp := by
  obtain ⟨oc, od, kV, doc, pm, an, cdv, ct, osl, rfl, lk, hcd⟩ := F.ex
  exact fn_of lk hcd S len fun A outer s H vs Q E hr hsp => hbody cdv A outer s H vs Q E hr hsp
theorem w_notT {K : PySem.W.Frag} {ta : TE} {σ : L2.St} {H : Hp} {Q : VK} (h : ta σ H fun x H1 => ∃ k, TruV K x H1 k ∧ Q (.bl (!k)) H1) : tNotT K ta σ H Q := h
section steps
variable {H : Hp} {K : PySem.W.Frag}
theorem w_isiI {i : Int} {n : String} {b : Bool} {Q : VK} (k : kitB "int" n = some b) (q : Q (.bl b) H) : rIsi K [.int i, .ty n] H Q := ⟨_, _, .type "int", .type n, b, rfl, .ty n, .base (.int _), kit_ty k, q⟩
theorem w_isiB {i : Bool} {n : String} {b : Bool} {Q : VK} (k : kitB "bool" n = some b) (q : Q (.bl b) H) : rIsi K [.bl i, .ty n] H Q := ⟨_, _, .type "bool", .type n, b, rfl, .ty n, .base (.bl _), kit_ty k, q⟩
theorem w_isiS {i : Str} {n : String} {b : Bool} {Q : VK} (k : kitB "str" n = some b) (q : Q (.bl b) H) : rIsi K [.str i, .ty n] H Q := ⟨_, _, .type "str", .type n, b, rfl, .ty n, .base (.str _), kit_ty k, q⟩
theorem w_isiN {n : String} {b : Bool} {Q : VK} (k : kitB "NoneType" n = some b) (q : Q (.bl b) H) : rIsi K [.non, .ty n] H Q := ⟨_, _, .type "NoneType", .type n, b, rfl, .ty n, .base .non, kit_ty k, q⟩
theorem w_isiL {a : Addr} {xs : List V} {n : String} {b : Bool} {Q : VK} (h : H a = some (.lst xs)) (k : kitB "list" n = some b) (q : Q (.bl b) H) : rIsi K [.ref a, .ty n] H Q := ⟨_, _, .type "list", .type n, b, rfl, .ty n, .base (.lst h), kit_ty k, q⟩
theorem w_isiT {a : Addr} {xs : List V} {n : String} {b : Bool} {Q : VK} (h : H a = some (.tup xs)) (k : kitB "tuple" n = some b) (q : Q (.bl b) H) : rIsi K [.ref a, .ty n] H Q := ⟨_, _, .type "tuple", .type n, b, rfl, .ty n, tyT (SqT.of h), kit_ty k, q⟩
theorem w_trL {a : Addr} {xs : List V} {P : Bool → Prop} (h : H a = some (.lst xs)) (k : P (!xs.isEmpty)) : ∃ c, TruV K (.ref a) H c ∧ P c := ⟨_, .inl ⟨_, SqL.of h, rfl⟩, k⟩
end steps
theorem w_chain {r r' : R2} {ta tb tc : TE} {σ : L2.St} {H : Hp} {Q : VK} (h : ta σ H fun x H1 => tb σ H1 fun y H2 => r x y H2 fun z H3 => ∃ k, z = .bl k ∧ (if k = true then tc σ H3 fun w' H4 => r' y w' H4 Q else Q (.bl false) H3)) : tChain r r' ta tb tc σ H Q := h
theorem mkS_app (a b : List Nat) : mkS a ++ mkS b = mkS (a ++ b) := TL.ext_tl (by rw [TL.tl_append])
section steps
variable {σ : L2.St} {H : Hp} {K : PySem.W.Frag}
theorem w_gTup {n : Nat} {g : TGs} {a : Addr} {xs : List V} {Q : L2.St → Hp → Prop} (h : H a = some (.tup xs)) (l : xs.length = n) (k : g xs σ H Q) : gTup K n g (.ref a) σ H Q := ⟨a, xs, rfl, SqT.of h, l, k⟩
theorem w_gLst {n : Nat} {g : TGs} {a : Addr} {xs : List V} {Q : L2.St → Hp → Prop} (h : H a = some (.lst xs)) (l : xs.length = n) (k : g xs σ H Q) : gLst K n g (.ref a) σ H Q := ⟨a, xs, rfl, SqL.of h, l, k⟩
theorem w_gCons {t : TG} {u : TGs} {v : V} {r : List V} {Q : L2.St → Hp → Prop} (h : t v σ H fun σ' H' => u r σ' H' Q) : gCons t u (v :: r) σ H Q := ⟨v, r, rfl, h⟩
theorem w_gNil {Q : L2.St → Hp → Prop} (h : Q σ H) : gNil [] σ H Q := ⟨rfl, h⟩
end steps
end K53

namespace K53
open PySem PySem.Spec PyProof.Rows L2
/-! ### dicts by index, dicts of texts -/
def kvI (l : List V) : List (Key × V) := l.zipIdx.map fun p => ((Sum.inl (p.2 : Int) : Key), p.1)
def kvIn (n : Nat) (l : List V) : List (Key × V) := (l.zipIdx n).map fun p => ((Sum.inl (p.2 : Int) : Key), p.1)
theorem kvIn_cons (n : Nat) (a : V) (r : List V) : kvIn n (a :: r) = ((Sum.inl (n : Int) : Key), a) :: kvIn (n + 1) r := rfl
theorem kvIn_val : ∀ (l : List V) (n i : Nat), valV (kvIn n l) (Sum.inl ((n + i : Nat) : Int)) = l[i]?
  | [], _, _ => rfl
  | a :: r, n, 0 => valV_pos rfl
  | a :: r, n, i + 1 => by
    rw [kvIn_cons, valV_neg (by intro z; have := Sum.inl.inj z; omega), show n + (i + 1) = (n + 1) + i by omega, kvIn_val r (n + 1) i]
    rfl
theorem kvI_val (l : List V) (i : Nat) : valV (kvI l) (Sum.inl (i : Int)) = l[i]? := by
  have := kvIn_val l 0 i
  rw [Nat.zero_add] at this
  exact this
theorem kvI_get {l : List V} {i : Nat} {v : V} (h : l[i]? = some v) : valV (kvI l) (Sum.inl (i : Int)) = some v := by rw [kvI_val]; exact h
theorem kvI_len (l : List V) : (kvI l).length = l.length := by unfold kvI; rw [List.length_map, List.length_zipIdx]
theorem kvIn_any : ∀ (l : List V) (n i : Nat), ((kvIn n l).any fun kv => decide (kv.1 = (Sum.inl ((n + i : Nat) : Int) : Key))) = decide (i < l.length)
  | [], _, _ => rfl
  | a :: r, n, 0 => by rw [kvIn_cons, List.any_cons]; simp
  | a :: r, n, i + 1 => by
    rw [kvIn_cons, List.any_cons, show n + (i + 1) = (n + 1) + i by omega, kvIn_any r (n + 1) i, List.length_cons]
    have : decide ((Sum.inl (n : Int) : Key) = Sum.inl ((n + 1 + i : Nat) : Int)) = false := decide_eq_false fun z => by have := Sum.inl.inj z; omega
    rw [this, Bool.false_or]
    rw [Bool.eq_iff_iff, decide_eq_true_eq, decide_eq_true_eq]
    omega
theorem kvIn_map : ∀ (l : List V) (n i : Nat) (v : V), (kvIn n l).map (fun kv => if kv.1 = (Sum.inl ((n + i : Nat) : Int) : Key) then (kv.1, v) else kv) = kvIn n (l.set i v)
  | [], _, _, _ => rfl
  | a :: r, n, 0, v => by
    rw [kvIn_cons, List.map_cons, List.set_cons_zero, kvIn_cons, if_pos (show (Sum.inl (n : Int) : Key) = Sum.inl ((n + 0 : Nat) : Int) from rfl)]
    congr 1
    have : ∀ (r : List V) (m : Nat), n + 0 < m → (kvIn m r).map (fun kv => if kv.1 = (Sum.inl ((n + 0 : Nat) : Int) : Key) then (kv.1, v) else kv) = kvIn m r := by
      intro r
      induction r with
      | nil => intro m _; rfl
      | cons b s ih =>
        intro m hm
        rw [kvIn_cons, List.map_cons, if_neg (by intro z; have := Sum.inl.inj z; omega), ih (m + 1) (by omega)]
    exact this r (n + 1) (by omega)
  | a :: r, n, i + 1, v => by
    rw [kvIn_cons, List.map_cons, List.set_cons_succ, kvIn_cons, if_neg (by intro z; have := Sum.inl.inj z; omega), show n + (i + 1) = (n + 1) + i by omega, kvIn_map r (n + 1) i v]
theorem kvI_put {l : List V} {i : Nat} {v : V} (h : i < l.length) : putK (kvI l) (Sum.inl (i : Int)) v = kvI (l.set i v) := by
  have e1 := kvIn_any l 0 i
  have e2 := kvIn_map l 0 i v
  rw [Nat.zero_add] at e1 e2
  unfold putK
  show (if ((kvIn 0 l).any fun kv => decide (kv.1 = (Sum.inl ((i : Nat) : Int) : Key))) = true then (kvIn 0 l).map (fun kv => if kv.1 = (Sum.inl ((i : Nat) : Int) : Key) then (kv.1, v) else kv) else _) = kvIn 0 (l.set i v)
  rw [e1, if_pos (decide_eq_true h), e2]
theorem kvI_end {l : List V} {v : V} : putK (kvI l) (Sum.inl (l.length : Int)) v = kvI (l ++ [v]) := by
  have e1 := kvIn_any l 0 l.length
  rw [Nat.zero_add] at e1
  unfold putK
  show (if ((kvIn 0 l).any fun kv => decide (kv.1 = (Sum.inl ((l.length : Nat) : Int) : Key))) = true then _ else kvIn 0 l ++ [(Sum.inl ((l.length : Nat) : Int), v)]) = kvIn 0 (l ++ [v])
  rw [e1, if_neg (by simp)]
  unfold kvIn
  rw [List.zipIdx_append, List.map_append]
  simp
def kvN (l : List (List Nat × Nat)) : List (Key × V) := l.map fun p => ((Sum.inr (mkS p.1) : Key), V.int p.2)
theorem mkS_inj {a b : List Nat} (h : mkS a = mkS b) : a = b := by
  have := congrArg tl h
  exact this
theorem kvN_val : ∀ (l : List (List Nat × Nat)) (x : List Nat), valV (kvN l) (Sum.inr (mkS x)) = (l.lookup x).map fun n => V.int n
  | [], _ => rfl
  | (y, n) :: r, x => by
    show valV (((Sum.inr (mkS y) : Key), V.int n) :: kvN r) _ = _
    by_cases e : y = x
    · subst e
      rw [valV_pos rfl, List.lookup_cons, show (y == y) = true by simp]
      rfl
    · rw [valV_neg (by intro z; exact e (mkS_inj (Sum.inr.inj z))), kvN_val r x, List.lookup_cons, show (x == y) = false by simpa using fun z : x = y => e z.symm]
theorem kvN_len (l : List (List Nat × Nat)) : (kvN l).length = l.length := by unfold kvN; rw [List.length_map]
theorem kvN_put {l : List (List Nat × Nat)} {x : List Nat} {n : Nat} (h : l.lookup x = none) : putK (kvN l) (Sum.inr (mkS x)) (.int n) = kvN (l ++ [(x, n)]) := by
  unfold putK
  rw [valV_any, kvN_val, h, if_neg (by simp)]
  unfold kvN
  rw [List.map_append]; rfl
theorem kvN_drop (l : List (List Nat × Nat)) (x : List Nat) : dropK (kvN l) (Sum.inr (mkS x)) = kvN (l.filter fun p => decide (p.1 ≠ x)) := by
  unfold dropK kvN
  rw [List.filter_map]
  congr 1
  apply List.filter_congr
  intro p _
  show decide ((Sum.inr (mkS p.1) : Key) ≠ Sum.inr (mkS x)) = decide (p.1 ≠ x)
  rw [Bool.eq_iff_iff, decide_eq_true_eq, decide_eq_true_eq]
  exact ⟨fun z y => z (by rw [y]), fun z y => z (mkS_inj (Sum.inr.inj y))⟩
theorem kvN_keys (l : List (List Nat × Nat)) : (kvN l).map (·.1) = (l.map fun p => mkS p.1).map Sum.inr := by
  unfold kvN
  rw [List.map_map, List.map_map]
  rfl

/-! ### disks as data -/
structure DS where
  kept : List (List Nat)
  late : List (List Nat)
  names : List (List Nat × Nat)
  chn : Nat
  deriving DecidableEq
abbrev sv (t : List Nat) : V := .str (mkS t)
def small (D : DS) (nx : Nat) : Prop := D.late.length = D.kept.length ∧ D.kept.length ≤ 30 ∧ D.names.length ≤ 30 ∧ D.chn ≤ 30 ∧ nx ≤ D.kept.length ∧ (∀ t ∈ D.kept, t.length ≤ 400000) ∧ (∀ t ∈ D.late, t.length ≤ 400000) ∧ ∀ p ∈ D.names, p.2 < D.kept.length
instance {D : DS} {nx : Nat} : Decidable (small D nx) := by unfold small; exact inferInstance
def dF (k l n s c : Addr) (nx : Nat) : List (Str × V) := [("_kept", .ref k), ("_late", .ref l), ("_names", .ref n), ("_sure", .ref s), ("_changes", .ref c), ("_next", .int (nx : Int))]
structure DiskP (CD : Addr) (H : Hp) (a k l n s c : Addr) (D : DS) (nx : Nat) (su : List (Key × V)) (cv : List V) : Prop where
  nd : [a, k, l, n, s, c].Nodup
  ins : ∃ dx, H a = some (.ins CD dx (dF k l n s c nx))
  hk : H k = some (.dK (kvI (D.kept.map sv)))
  hl : H l = some (.dK (kvI (D.late.map sv)))
  hn : H n = some (.dK (kvN D.names))
  hs : H s = some (.dK su)
  hc : H c = some (.lst cv)
  cl : cv.length = D.chn
  sm : small D nx
def DiskN (CD : Addr) (H : Hp) (a : Addr) (fp : List Addr) (D : DS) (nx : Nat) : Prop := ∃ k l n s c su cv, fp = [a, k, l, n, s, c] ∧ DiskP CD H a k l n s c D nx su cv
abbrev DiskAt (CD : Addr) (H : Hp) (a : Addr) (fp : List Addr) (D : DS) : Prop := DiskN CD H a fp D D.kept.length
/-- outside fp all stands; what is new in fp' was free -/
def Fr (fp fp' : List Addr) (H H' : Hp) : Prop := (∀ b o, H b = some o → b ∉ fp → H' b = some o) ∧ ∀ b ∈ fp', b ∈ fp ∨ H b = none
theorem Fr.refl (fp : List Addr) (H : Hp) : Fr fp fp H H := ⟨fun _ _ e _ => e, fun _ m => .inl m⟩
theorem Fr.trans {f g h : List Addr} {H G I : Hp} (x : Fr f g H G) (y : Fr g h G I) : Fr f h H I :=
  ⟨fun b o e m => y.1 b o (x.1 b o e m) fun z => (x.2 b z).elim m fun n => by rw [n] at e; (cases e), fun b m => by
    rcases y.2 b m with z | z
    · exact x.2 b z
    · by_cases hb : b ∈ f
      · exact .inl hb
      · refine .inr ?_
        cases e : H b with
        | none => rfl
        | some o => have := x.1 b o e hb; rw [z] at this; cases this⟩
theorem Fr.same {f : List Addr} {H G : Hp} (s : Same H G) : Fr f f H G := ⟨fun b o e _ => s b o e, fun _ m => .inl m⟩
theorem Fr.keep {f g : List Addr} {H G : Hp} (x : Fr f g H G) {b : Addr} {o : HO} (e : H b = some o) (m : b ∉ f) : G b = some o := x.1 b o e m
theorem DiskP.keep {CD : Addr} {H H' : Hp} {a k l n s c : Addr} {D : DS} {nx : Nat} {su : List (Key × V)} {cv : List V} (x : DiskP CD H a k l n s c D nx su cv) (h : ∀ b o, H b = some o → b ∈ [a, k, l, n, s, c] → H' b = some o) : DiskP CD H' a k l n s c D nx su cv := by
  obtain ⟨nd, ⟨dx, hi⟩, hk, hl, hn, hs, hc, cl, sm⟩ := x
  exact ⟨nd, ⟨dx, h _ _ hi (by simp)⟩, h _ _ hk (by simp), h _ _ hl (by simp), h _ _ hn (by simp), h _ _ hs (by simp), h _ _ hc (by simp), cl, sm⟩
theorem DiskN.keep {CD : Addr} {H H' : Hp} {a : Addr} {fp : List Addr} {D : DS} {nx : Nat} (x : DiskN CD H a fp D nx) (h : ∀ b o, H b = some o → b ∈ fp → H' b = some o) : DiskN CD H' a fp D nx := by
  obtain ⟨k, l, n, s, c, su, cv, rfl, p⟩ := x
  exact ⟨k, l, n, s, c, su, cv, rfl, p.keep h⟩
theorem DiskN.same {CD : Addr} {H H' : Hp} {a : Addr} {fp : List Addr} {D : DS} {nx : Nat} (x : DiskN CD H a fp D nx) (s : Same H H') : DiskN CD H' a fp D nx := x.keep fun b o e _ => s b o e
theorem DiskN.has {CD : Addr} {H : Hp} {a : Addr} {fp : List Addr} {D : DS} {nx : Nat} (x : DiskN CD H a fp D nx) : ∀ b ∈ fp, H b ≠ none := by
  obtain ⟨k, l, n, s, c, su, cv, rfl, ⟨nd, ⟨dx, hi⟩, hk, hl, hn, hs, hc, cl, sm⟩⟩ := x
  intro b m z
  simp only [List.mem_cons, List.not_mem_nil, or_false] at m
  rcases m with rfl | rfl | rfl | rfl | rfl | rfl
  · rw [z] at hi; cases hi
  · rw [z] at hk; cases hk
  · rw [z] at hl; cases hl
  · rw [z] at hn; cases hn
  · rw [z] at hs; cases hs
  · rw [z] at hc; cases hc
def readD (D : DS) (i : Nat) : List Nat := (D.kept[i]?).getD [] ++ (D.late[i]?).getD []
def openD (D : DS) : DS := { D with kept := D.kept ++ [[]], late := D.late ++ [[]] }
def nameD (D : DS) (x : List Nat) (n : Nat) : DS := { D with names := D.names ++ [(x, n)], chn := D.chn + 1 }
def makeD (D : DS) (x : List Nat) : DS := nameD (openD D) x D.kept.length
def writeD (D : DS) (i : Nat) (t : List Nat) : DS := { D with late := D.late.set i ((D.late[i]?).getD [] ++ t) }
def syncD (D : DS) (i : Nat) : DS := { D with kept := D.kept.set i (readD D i), late := D.late.set i [] }
def cutD (D : DS) (i n : Nat) : DS := { D with kept := D.kept.set i ((readD D i).take n), late := D.late.set i [] }
def syncN (D : DS) : DS := { D with chn := 0 }
def dropD (D : DS) (x : List Nat) : DS := { D with names := D.names.filter fun p => decide (p.1 ≠ x), chn := D.chn + 1 }
def noneD : DS := ⟨[], [], [], 0⟩
end K53

namespace K53
open PySem PySem.Spec PyProof.Rows L2
local macro_rules | `(tactic| array_mem_dec) => `(tactic| first | with_reducible assumption | with_reducible exact upd_same | ((with_reducible apply same_at); (with_reducible assumption); array_mem_dec) | ((with_reducible apply upd_atN); (with_reducible assumption); array_mem_dec) | ((with_reducible apply upd_at); (first | with_reducible assumption | (apply Ne.symm; with_reducible assumption)); array_mem_dec))
local macro_rules | `(tactic| array_get_dec) => `(tactic| first | (with_reducible refine w_seq ?_) | (with_reducible refine w_asg ?_) | (with_reducible refine w_drop ?_) | (with_reducible refine w_ret ?_) | (with_reducible refine w_retN ?_) | (with_reducible refine w_next ?_) | (with_reducible refine w_break ?_) | (with_reducible refine w_cont ?_) | (with_reducible refine w_ifS ?_) | (with_reducible refine w_sub ?_) | (with_reducible refine w_c ?_) | (with_reducible refine w_op ?_) | (with_reducible refine w_un ?_) | (with_reducible refine w_test ?_) | (with_reducible refine w_B ?_) | (with_reducible refine w_yes ?_) | (with_reducible refine w_not ?_) | (with_reducible refine w_and ?_) | (with_reducible refine w_or ?_) | (with_reducible refine w_andV ?_) | (with_reducible refine w_orV ?_) | (with_reducible refine w_notV ?_) | (with_reducible refine w_ifE ?_) | (with_reducible refine w_nil ?_) | (with_reducible refine w_cons ?_) | (with_reducible refine w_call ?_) | (with_reducible refine w_callS ?_) | (with_reducible refine w_cB ?_) | (with_reducible refine w_lst ?_) | (with_reducible refine w_tup ?_) | (with_reducible refine w_sl ?_) | (with_reducible refine w_noPart ?_) | (with_reducible refine w_part ?_) | (with_reducible refine w_bm ?_) | (with_reducible refine w_bm0 ?_) | (with_reducible refine w_strTy ?_) | (with_reducible refine w_bl ?_) | (with_reducible refine w_int1 ?_) | (with_reducible refine w_str1 ?_) | (with_reducible refine w_rI0 ?_) | (with_reducible refine w_rU ?_) | (with_reducible refine w_eqI ?_) | (with_reducible refine w_eqS ?_) | (with_reducible refine w_neI ?_) | (with_reducible refine w_neS ?_) | (with_reducible refine w_bl2 ?_) | (with_reducible refine w_isN ?_) | (with_reducible refine w_for ?_) | (with_reducible refine w_iRng1 ?_) | (with_reducible refine w_iRng2 ?_) | (with_reducible refine w_iList ?_) | (with_reducible refine w_iTup ?_) | (with_reducible refine w_iStr ?_) | (with_reducible refine w_lc ?_) | (with_reducible refine w_M1 ?_) | (with_reducible refine w_M0 ?_) | (with_reducible refine w_isS ?_) | ((with_reducible apply w_name); (simp only [wipe, List.map_cons, List.map_nil, List.foldl_cons, List.foldl_nil, List.set_cons_zero, List.set_cons_succ]; exact rfl)) | ((with_reducible apply w_var); exact rfl) | ((with_reducible apply w_lstTy); array_mem_dec) | ((with_reducible apply w_lenL); array_mem_dec) | ((with_reducible apply w_lenT); array_mem_dec) | ((with_reducible apply w_listOf); array_mem_dec) | ((with_reducible apply w_lenS); (first | (with_reducible assumption) | omega | (rw [sizeLine_eq]; omega))) | ((with_reducible apply w_slS); (first | (with_reducible assumption) | omega | (rw [sizeLine_eq]; omega))) | ((with_reducible apply w_wipe); exact rfl) | ((with_reducible apply w_acc); array_mem_dec; (try (first | (with_reducible assumption) | omega | (rw [sizeLine_eq]; omega)))) | ((with_reducible apply w_itl); array_mem_dec) | ((with_reducible apply w_itt); array_mem_dec) | ((with_reducible apply w_append); array_mem_dec; (try (first | (with_reducible assumption) | omega | (rw [sizeLine_eq]; omega)))) | ((with_reducible apply w_rng1); (first | (with_reducible assumption) | omega); (first | (with_reducible assumption) | omega)) | ((with_reducible apply w_ixL); array_mem_dec; (first | (with_reducible assumption) | exact rfl | (apply atI_nat; (with_reducible assumption)) | exact atI_last _ _)) | ((with_reducible apply w_ixT); array_mem_dec; (first | (with_reducible assumption) | exact rfl | (apply atI_nat; (with_reducible assumption)) | exact atI_last _ _)) | ((with_reducible apply w_iT); first | exact rfl | (with_reducible assumption)) | ((with_reducible apply w_iF); first | exact rfl | (with_reducible assumption)) | ((with_reducible apply w_isiI (b := true)); decide +kernel) | ((with_reducible apply w_isiI (b := false)); decide +kernel) | ((with_reducible apply w_isiB (b := true)); decide +kernel) | ((with_reducible apply w_isiB (b := false)); decide +kernel) | ((with_reducible apply w_isiS (b := true)); decide +kernel) | ((with_reducible apply w_isiS (b := false)); decide +kernel) | ((with_reducible apply w_isiN (b := true)); decide +kernel) | ((with_reducible apply w_isiN (b := false)); decide +kernel) | ((with_reducible apply w_isiL (b := true)); array_mem_dec; decide +kernel) | ((with_reducible apply w_isiL (b := false)); array_mem_dec; decide +kernel) | ((with_reducible apply w_isiT (b := true)); array_mem_dec; decide +kernel) | ((with_reducible apply w_isiT (b := false)); array_mem_dec; decide +kernel) | (with_reducible refine w_notT ?_) | (with_reducible refine w_chain ?_) | ((with_reducible apply w_trL); array_mem_dec) | (with_reducible refine w_Fld ?_) | (with_reducible refine w_sFld ?_) | (with_reducible refine w_dget ?_) | (with_reducible refine w_dIn ?_) | (with_reducible refine w_dNotIn ?_) | (with_reducible refine w_sDPut ?_) | (with_reducible refine w_dnewK ?_) | (with_reducible refine w_meth ?_) | (with_reducible refine w_make ?_) | (with_reducible refine w_methS ?_) | (with_reducible refine w_makeS ?_) | (with_reducible refine w_dpop ?_) | ((with_reducible apply w_fld1); array_mem_dec; (first | exact M.clD | exact M.clL); (first | exact M.nD_kept | exact M.nD_late | exact M.nD_names | exact M.nD_sure | exact M.nD_changes | exact M.nD_next | exact M.nL_disk | exact M.nL_most | exact M.nL_parts | exact M.nL_sure); exact rfl) | ((with_reducible apply w_sfld1); array_mem_dec; (first | exact M.clD | exact M.clL); (first | exact M.nD_kept | exact M.nD_late | exact M.nD_names | exact M.nD_sure | exact M.nD_changes | exact M.nD_next | exact M.nL_disk | exact M.nL_most | exact M.nL_parts | exact M.nL_sure); (show _ < 1000; decide)) | ((with_reducible apply w_meth1); array_mem_dec; exact rfl) | ((with_reducible apply w_dgetS); array_mem_dec; (with_reducible assumption)) | ((with_reducible apply w_dgetI); array_mem_dec; (with_reducible assumption)) | ((with_reducible apply w_dinS); array_mem_dec) | ((with_reducible apply w_dputI); array_mem_dec; (try (first | (with_reducible assumption) | omega | (rw [sizeLine_eq]; omega)))) | ((with_reducible apply w_dputS); array_mem_dec; (try (first | (with_reducible assumption) | omega | (rw [sizeLine_eq]; omega)))) | ((with_reducible apply w_isD); array_mem_dec) | ((with_reducible apply w_dictD); array_mem_dec) | ((with_reducible apply w_dpopS); array_mem_dec; (with_reducible assumption)))
/-! ### numbers, names of parts -/
def spIsNum : Sp := fun vs H Q _ => ∃ lo hi : Int, (∃ i : Int, vs = [.int i, .int lo, .int hi] ∧ Q (.bl (decide (lo ≤ i) && decide (i ≤ hi))) H) ∨ (∃ b, vs = [.bl b, .int lo, .int hi] ∧ Q (.bl false) H)
def spChkNum (CN : Addr) : Sp := fun vs H Q E => ∃ lo hi : Nat, lo ≤ 1000000 ∧ hi ≤ 1000000 ∧ ((∃ i : Int, vs = [.int i, .int (lo : Int), .int (hi : Int)] ∧ ((lo : Int) ≤ i ∧ i ≤ (hi : Int) → Q (.int i) H) ∧ (¬ ((lo : Int) ≤ i ∧ i ≤ (hi : Int)) → E (.ref CN) none H)) ∨ (∃ b, vs = [.bl b, .int (lo : Int), .int (hi : Int)] ∧ E (.ref CN) none H))
def partL (n : Nat) : List Nat := [108, 111, 103, 46] ++ (List.replicate (6 - (TL.numL n).length) 48 ++ TL.numL n)
def spPart (CN : Addr) : Sp := fun vs H Q E => (∃ n : Nat, vs = [.int (n : Int)] ∧ n ≤ 999999 ∧ Q (.str (mkS (partL n))) H) ∨ (((∃ i : Int, vs = [.int i] ∧ ¬ (0 ≤ i ∧ i ≤ 999999)) ∨ ∃ b, vs = [.bl b]) ∧ E (.ref CN) none H)
def isPartL (l : List Nat) : Bool := (l.take 4 == [108, 111, 103, 46]) && (decide ((l.drop 4).length = 6) && (l.drop 4).all isDig)
def spIsPart : Sp := fun vs H Q _ => ∃ l : List Nat, vs = [.str (mkS l)] ∧ l.length ≤ 100 ∧ ∀ H', Same H H' → Q (.bl (isPartL l)) H'
def spFirst (CP : Addr) : Sp := fun vs H Q E => ∃ l : List Nat, vs = [.str (mkS l)] ∧ l.length ≤ 100 ∧ (isPartL l = true → ∀ H', Same H H' → Q (.int ((NumText.digitsVal (l.drop 4) : Nat) : Int)) H') ∧ (isPartL l = false → ∀ H', Same H H' → E (.ref CP) none H')
theorem sw4 (l : List Nat) : Txt.startswith (mkS l) (Str.ofString "log.") = (l.take 4 == [108, 111, 103, 46]) := by
  have e : Str.ofString "log." = mkS [108, 111, 103, 46] := by decide +kernel
  rw [e]
  unfold Txt.startswith PySem.Builtin.Str.subAt
  show (decide (0 + 4 ≤ l.toArray.size) && (l.toArray.extract 0 (0 + 4) == [108, 111, 103, 46].toArray)) = _
  have e2 : l.toArray.extract 0 (0 + 4) = (l.take 4).toArray := by simp
  rw [e2]
  have e3 : ((l.take 4).toArray == [108, 111, 103, 46].toArray) = (l.take 4 == [108, 111, 103, 46]) := by
    rw [Bool.eq_iff_iff, beq_iff_eq, beq_iff_eq]
    exact ⟨fun z => by simpa using z, fun z => by rw [z]⟩
  rw [e3, Bool.eq_iff_iff, Bool.and_eq_true, beq_iff_eq, decide_eq_true_eq]
  refine ⟨fun z => z.2, fun z => ⟨?_, z⟩⟩
  have := congrArg List.length z
  rw [List.length_take] at this
  simp at this ⊢
  omega
theorem numS_len {n : Nat} (h : n ≤ 9999999) : (Str.ofString (toString ((n : Nat) : Int))).length ≤ 7 := by rw [len_tl, show tl _ = TL.numL _ from TL.tl_num _]; exact num_len h
theorem cut_from (x : Str) : cutS x (some 4) none = mkS ((tl x).drop 4) := by
  have hn : x.length = (tl x).length := len_tl x
  have e : cutS x (some 4) none = cutS x (some ((4 : Nat) : Int)) (some ((x.length : Nat) : Int)) := by
    have e1 : HT.sIx x.length x.length (some ((x.length : Nat) : Int)) = x.length := by
      show (if (((x.length : Nat) : Int)) < 0 then (((x.length : Nat) : Int) + (x.length : Int)).toNat else min (((x.length : Nat) : Int)).toNat x.length) = _
      rw [if_neg (by omega)]
      show min x.length x.length = x.length
      omega
    unfold cutS
    rw [e1]
    rfl
  rw [e, cut_any, hn, List.take_of_length_le (by rw [List.length_drop]; omega)]
theorem mul0 : ∀ k, k ≤ 6 → MulOk (Str.ofString "0") ((k : Nat) : Int) ∧ Txt.mul (Str.ofString "0") ((k : Nat) : Int) = mkS (List.replicate k 48) := by
  intro k hk
  match k, hk with
  | 0, _ => exact ⟨by refine ⟨by decide +kernel, by decide +kernel, by decide +kernel⟩, by decide +kernel⟩
  | 1, _ => exact ⟨by refine ⟨by decide +kernel, by decide +kernel, by decide +kernel⟩, by decide +kernel⟩
  | 2, _ => exact ⟨by refine ⟨by decide +kernel, by decide +kernel, by decide +kernel⟩, by decide +kernel⟩
  | 3, _ => exact ⟨by refine ⟨by decide +kernel, by decide +kernel, by decide +kernel⟩, by decide +kernel⟩
  | 4, _ => exact ⟨by refine ⟨by decide +kernel, by decide +kernel, by decide +kernel⟩, by decide +kernel⟩
  | 5, _ => exact ⟨by refine ⟨by decide +kernel, by decide +kernel, by decide +kernel⟩, by decide +kernel⟩
  | 6, _ => exact ⟨by refine ⟨by decide +kernel, by decide +kernel, by decide +kernel⟩, by decide +kernel⟩
  | k + 7, h => omega
theorem part_txt (n : Nat) : Str.ofString "log." ++ mkS (List.replicate (6 - (TL.numL n).length) 48) ++ Str.ofString (toString ((n : Nat) : Int)) = mkS (partL n) := by
  refine TL.ext_tl ?_
  rw [TL.tl_append, TL.tl_append, TL.tl_num]
  unfold partL
  show ([108, 111, 103, 46] ++ _) ++ _ = [108, 111, 103, 46] ++ (_ ++ _)
  rw [List.append_assoc]
section
variable {P : Program} {w : World} {K : PySem.W.Frag} {mg : Str → Option Value} {base : Heap}
theorem ok_is_number (M : Nms K mg) : FnOk P w K mg base CX0 1 M.a_is_number M.d_is_number ["value", "least", "most"] spIsNum := by
  obtain ⟨dvs, F⟩ := M.F_is_number
  refine F.ok sc_is_number (fun vs H Q E h => ?_) (fun cdv A outer s H vs Q E hr h => ?_)
  · obtain ⟨lo, hi, ⟨i, rfl, _⟩ | ⟨b, rfl, _⟩⟩ := h <;> rfl
  · refine ⟨_, (pss_cons (ps_if (PW.pt (pw_or (pt_val (pe_callB call_isi (by rfl) M.T.b_isinstance (by decide +kernel) (pa_cons (pv 0) (pa_cons (pe_bltn (v := .ty "bool") (u := .type "bool") (by rfl) M.T.b_bool (by decide +kernel) rfl) pa_nil)))) (pw_or1 (pt_not (pt_val (pe_callB call_isi (by rfl) M.T.b_isinstance (by decide +kernel) (pa_cons (pv 0) (pa_cons (pe_bltn (v := .ty "int") (u := .type "int") (by rfl) M.T.b_int (by decide +kernel) rfl) pa_nil)))))))) (pss_one (ps_ret pe_bl)) pss_nil)
    (pss_one (ps_ret (pe_chain op_le op_le (pv 1) (pv 0) (pv 2))))), ?_⟩
    dsimp only [cxOf, Cx.nox]
    obtain ⟨lo, hi, ⟨i, rfl, q⟩ | ⟨b, rfl, q⟩⟩ := h
    · refine w_start (σ' := [some (.int i), some (.int lo), some (.int hi)]) rfl ?_
      (repeat array_get_dec)
      refine ite2 (fun h1 => ?_) (fun h1 => ?_)
      · (repeat array_get_dec)
        rw [h1, Bool.true_and] at q
        exact q
      · have h1' : decide (lo ≤ i) = false := by simpa using h1
        rw [h1', Bool.false_and] at q
        exact q
    · refine w_start (σ' := [some (.bl b), some (.int lo), some (.int hi)]) rfl ?_
      (repeat array_get_dec)
      exact q
theorem ok_checked_number (M : Nms K mg) : FnOk P w K mg base (L2N.CX P w) 2 M.a_checked_number M.d_checked_number ["value", "least", "most"] (spChkNum M.CN) := by
  obtain ⟨dvs, F⟩ := M.F_checked_number
  refine F.ok sc_checked_number (fun vs H Q E h => ?_) (fun cdv A outer s H vs Q E hr h => ?_)
  · obtain ⟨lo, hi, _, _, ⟨i, rfl, _⟩ | ⟨b, rfl, _⟩⟩ := h <;> rfl
  · refine ⟨_, (pss_cons (ps_if (pt_not (pt_val (pe_call (ok_is_number M) (hr.mono (by decide)) rfl M.g_is_number M.k_is_number M.b_is_number .nil pass0 (pa_cons (pv 0) (pa_cons (pv 1) (pa_cons (pv 2) pa_nil)))))) (pss_one (L2N.ps_raise rfl (L2N.takes_of rfl rfl rfl rfl) (pmk_own1N PySem.F.excBase_ValueError M.XN.xP M.XN.gP M.XN.kP (raises_own M.XN.bP M.XN.tP) rfl (pe_op op_add_str (pe_op op_add_str (pe_op op_add_str pe_str (pe_callTy call_str_int (by rfl) M.T.b_str (by decide +kernel) (pa_cons (pv 1) pa_nil))) pe_str) (pe_callTy call_str_int (by rfl) M.T.b_str (by decide +kernel) (pa_cons (pv 2) pa_nil)))))) pss_nil)
    (pss_one (ps_ret (pv 0)))), ?_⟩
    dsimp only [cxOf, Cx.nox]
    obtain ⟨lo, hi, hlo, hhi, h⟩ := h
    have l1 := numS_len (n := lo) (by omega)
    have l2 := numS_len (n := hi) (by omega)
    have c1 : (Str.ofString "no number from ").length ≤ 15 := by decide +kernel
    have c2 : (Str.ofString " to ").length ≤ 4 := by decide +kernel
    obtain ⟨i, rfl, q, e⟩ | ⟨b, rfl, e⟩ := h
    · refine w_start (σ' := [some (.int i), some (.int lo), some (.int hi)]) rfl ?_
      (repeat array_get_dec)
      refine ⟨_, _, .inl ⟨_, rfl, ?_⟩⟩
      (repeat array_get_dec)
      refine ite2 (fun h1 => ?_) (fun h1 => ?_)
      · (repeat array_get_dec)
        refine w_strOf (log_small lo (by omega)) ?_
        (repeat array_get_dec)
        refine w_addS (fit_add c1 l1 (by decide)) ?_
        (repeat array_get_dec)
        refine w_addS (fit_add (fit_app c1 l1 (Nat.le_refl _)) c2 (by decide)) ?_
        (repeat array_get_dec)
        refine w_strOf (log_small hi (by omega)) ?_
        (repeat array_get_dec)
        refine w_addS (fit_add (fit_app (fit_app c1 l1 (Nat.le_refl _)) c2 (Nat.le_refl _)) l2 (by decide)) ?_
        exact e fun z => by rw [decide_eq_true z.1, decide_eq_true z.2] at h1; exact absurd h1 (by decide)
      · (repeat array_get_dec)
        refine q ?_
        have h1' : (decide ((lo : Int) ≤ i) && decide (i ≤ (hi : Int))) = true := by simpa using h1
        rw [Bool.and_eq_true, decide_eq_true_eq, decide_eq_true_eq] at h1'
        exact h1'
    · refine w_start (σ' := [some (.bl b), some (.int lo), some (.int hi)]) rfl ?_
      (repeat array_get_dec)
      refine ⟨_, _, .inr ⟨_, rfl, ?_⟩⟩
      (repeat array_get_dec)
      (repeat array_get_dec)
      refine w_strOf (log_small lo (by omega)) ?_
      (repeat array_get_dec)
      refine w_addS (fit_add c1 l1 (by decide)) ?_
      (repeat array_get_dec)
      refine w_addS (fit_add (fit_app c1 l1 (Nat.le_refl _)) c2 (by decide)) ?_
      (repeat array_get_dec)
      refine w_strOf (log_small hi (by omega)) ?_
      (repeat array_get_dec)
      refine w_addS (fit_add (fit_app (fit_app c1 l1 (Nat.le_refl _)) c2 (Nat.le_refl _)) l2 (by decide)) ?_
      exact e
theorem ok_part_name (M : Nms K mg) : FnOk P w K mg base (L2N.CX P w) 3 M.a_part_name M.d_part_name ["first"] (spPart M.CN) := by
  refine M.F_part_name.okN sc_part_name (fun vs H Q E h => ?_) (fun cdv A outer s H vs Q E hr h => ?_)
  · obtain ⟨n, rfl, _⟩ | ⟨⟨i, rfl, _⟩ | ⟨b, rfl⟩, _⟩ := h <;> rfl
  · refine ⟨_, (pss_cons (ps_set (i := 1) sc_part_name.nd rfl (Or.inl rfl) (pe_callTy call_str_int (by rfl) M.T.b_str (by decide +kernel) (pa_cons (pe_callS (ok_checked_number M) (hr.mono (by decide)) rfl M.g_checked_number M.k_checked_number M.b_checked_number (fun σ => L2N.passAt (L2N.takes_of rfl rfl rfl rfl) σ) (pa_cons (pv 0) (pa_cons pe_int (pa_cons pe_int pa_nil)))) pa_nil)))
    (pss_one (ps_ret (pe_op op_add_str (pe_op op_add_str pe_str (pe_op op_mul_str pe_str (pe_op op_sub pe_int (pe_callB call_len (by rfl) M.T.b_len (by decide +kernel) (pa_cons (pv 1) pa_nil))))) (pv 1))))), ?_⟩
    dsimp only [cxOf, Cx.nox]
    obtain ⟨n, rfl, hn, q⟩ | ⟨⟨i, rfl, hi⟩ | ⟨b, rfl⟩, e⟩ := h
    · refine w_start (σ' := [some (.int n), none]) rfl ?_
      (repeat array_get_dec)
      refine ⟨0, 999999, by decide, by decide, .inl ⟨_, rfl, fun _ => ?_, fun z => absurd ⟨Int.natCast_nonneg n, by omega⟩ z⟩⟩
      (repeat array_get_dec)
      refine w_strOf (log_small n (by omega)) ?_
      have l6 : (TL.numL n).length ≤ 6 := TL.numL_len (by decide) (by omega)
      have ln : (Str.ofString (toString ((n : Nat) : Int))).length = (TL.numL n).length := by rw [len_tl, show tl _ = TL.numL _ from TL.tl_num _]
      have lz : (Str.ofString (toString ((n : Nat) : Int))).length ≤ sizeLine := by rw [ln, sizeLine_eq]; omega
      (repeat array_get_dec)
      have e6 : (6 : Int) - (((Str.ofString (toString ((n : Nat) : Int))).length : Nat) : Int) = ((6 - (TL.numL n).length : Nat) : Int) := by rw [ln]; omega
      obtain ⟨m1, m2⟩ := mul0 (6 - (TL.numL n).length) (by omega)
      refine ⟨_, ((6 - (TL.numL n).length : Nat) : Int), rfl, congrArg V.int e6, m1, ?_⟩
      rw [m2]
      have c1 : (Str.ofString "log.").length ≤ 4 := by decide +kernel
      have c2 : (mkS (List.replicate (6 - (TL.numL n).length) 48)).length ≤ 6 := by rw [len_tl]; show (List.replicate _ _).length ≤ 6; rw [List.length_replicate]; omega
      refine w_addS (fit_add c1 c2 (by decide)) ?_
      (repeat array_get_dec)
      refine w_addS (fit_add (fit_app c1 c2 (Nat.le_refl _)) (Nat.le_of_eq ln) (by omega)) ?_
      rw [part_txt]
      exact q
    · refine w_start (σ' := [some (.int i), none]) rfl ?_
      (repeat array_get_dec)
      exact ⟨0, 999999, by decide, by decide, .inl ⟨_, rfl, fun z => absurd z hi, fun _ => e⟩⟩
    · refine w_start (σ' := [some (.bl b), none]) rfl ?_
      (repeat array_get_dec)
      exact ⟨0, 999999, by decide, by decide, .inr ⟨_, rfl, e⟩⟩
theorem ok_is_part (M : Nms K mg) : FnOk P w K mg base CX0 1 M.a_is_part M.d_is_part ["name"] spIsPart := by
  refine M.F_is_part.ok sc_is_part (fun vs H Q E h => ?_) (fun cdv A outer s H vs Q E hr h => ?_)
  · obtain ⟨l, rfl, _⟩ := h
    rfl
  · refine ⟨_, (pss_cons (ps_set (i := 1) sc_is_part.nd rfl (Or.inl rfl) (pe_slice sl_str (pv 0) (po_some pe_int) po_none))
    (pss_one (ps_ret (pe_and (pe_bm PySem.F.plainAttrs_str PySem.F.slot_str_startswith PySem.F.type_str_startswith mt_startswith (pv 0) (pa_cons pe_str pa_nil)) (pe_and (pe_cmpR op_eq (pe_callB call_len (by rfl) M.T.b_len (by decide +kernel) (pa_cons (pv 1) pa_nil)) pe_int (nomark _)) (pe_one (pe_notT (pe_lc (own := [("sign", 2)]) rfl sc_is_part.nd (pi_str (pv 1)) (blkOk_by (N := ["name", "figures", "sign"]) (sc := defScope s_is_part) (own := [("sign", 2)]) (by decide +kernel)) (fun _ _ _ _ _ => (pg_name (i := 2) sc_is_part.nd rfl (Or.inl rfl))) (fun _ _ _ _ _ => pts_one (pt_cmpR op_notIn_sign (pv 2) pe_str rfl)) (fun _ _ _ _ _ => (pv 2)))))))))), ?_⟩
    dsimp only [cxOf, Cx.nox]
    obtain ⟨l, rfl, hl, q⟩ := h
    refine w_start (σ' := [some (.str (mkS l)), none, none]) rfl ?_
    have hl' : (mkS l).length ≤ sizeLine := by rw [sizeLine_eq]; show l.toArray.size ≤ _; simp; omega
    (repeat array_get_dec)
    refine ⟨_, _, rfl, rfl, ?_⟩
    rw [sw4]
    (repeat array_get_dec)
    unfold isPartL at q
    refine ite2 (fun h1 => ?_) (fun h1 => ?_)
    · rw [cut_from]
      have lu' : (mkS ((tl (mkS l)).drop 4)).length ≤ sizeLine := by rw [len_tl, sizeLine_eq]; show (l.drop 4).length ≤ _; rw [List.length_drop]; omega
      (repeat array_get_dec)
      have ed : decide (V.int (((mkS ((tl (mkS l)).drop 4)).length : Nat) : Int) = V.int 6) = decide ((l.drop 4).length = 6) := by
        rw [len_tl, Bool.eq_iff_iff, decide_eq_true_eq, decide_eq_true_eq]
        show V.int (((l.drop 4).length : Nat) : Int) = V.int 6 ↔ _
        exact ⟨fun z => by have := V.int.inj z; omega, fun z => by rw [z]; rfl⟩
      rw [ed]
      rw [h1, Bool.true_and] at q
      refine ite2 (fun h2 => ?_) (fun h2 => ?_)
      · rw [h2, Bool.true_and] at q
        (repeat array_get_dec)
        intro D hD
        refine lc_filter (bad := fun c => !isDig c) lu' hD (fun _ => rfl) (fun _ => rfl) ?_ ?_
        · intro c H' R hc hR
          refine ⟨_, rfl, c, Str.ofString "0123456789", rfl, rfl, _, rfl, ?_⟩
          rw [dig_in]
          exact hR
        intro H' s1 g1
        (repeat array_get_dec)
        rw [filt_empty]
        have ea : ((tl (mkS ((tl (mkS l)).drop 4))).all fun c => !!isDig c) = (l.drop 4).all isDig := by
          congr 1
          funext c
          exact Bool.not_not _
        rw [ea, Bool.not_not]
        exact q _ s1
      · have h2' : decide ((l.drop 4).length = 6) = false := by simpa using h2
        rw [h2', Bool.false_and] at q
        exact q _ (Same.refl _)
    · have h1' : (l.take 4 == [108, 111, 103, 46]) = false := by simpa using h1
      rw [h1', Bool.false_and] at q
      exact q _ (Same.refl _)
theorem ok_first_of (M : Nms K mg) : FnOk P w K mg base (L2N.CX P w) 2 M.a_first_of M.d_first_of ["name"] (spFirst M.CP) := by
  refine M.F_first_of.okN sc_first_of (fun vs H Q E h => ?_) (fun cdv A outer s H vs Q E hr h => ?_)
  · obtain ⟨l, rfl, _⟩ := h
    rfl
  · refine ⟨_, (pss_cons (ps_if (pt_not (pt_val (pe_call (ok_is_part M) (hr.mono (by decide)) rfl M.g_is_part M.k_is_part M.b_is_part .nil pass0 (pa_cons (pv 0) pa_nil)))) (pss_one (L2N.ps_raise rfl (L2N.takes_of rfl rfl rfl rfl) (L2N.pmk_own PySem.F.excBase_ValueError M.XP.xP M.XP.gP M.XP.kP (raises_own M.XP.bP M.XP.tP) rfl))) pss_nil)
    (pss_one (ps_ret (pe_callTy call_int_str (by rfl) M.T.b_int (by decide +kernel) (pa_cons (pe_slice sl_str (pv 0) (po_some pe_int) po_none) pa_nil))))), ?_⟩
    dsimp only [cxOf, Cx.nox]
    obtain ⟨l, rfl, hl, q, e⟩ := h
    refine w_start (σ' := [some (.str (mkS l))]) rfl ?_
    have hl' : (mkS l).length ≤ sizeLine := by rw [sizeLine_eq]; show l.toArray.size ≤ _; simp; omega
    (repeat array_get_dec)
    refine ⟨l, rfl, hl, fun H1 s1 => ?_⟩
    (repeat array_get_dec)
    refine ite2 (fun h1 => ?_) (fun h1 => ?_)
    · exact e (by simpa using h1) _ s1
    · have hp : isPartL l = true := by simpa using h1
      (repeat array_get_dec)
      rw [cut_from]
      have hp2 := hp
      unfold isPartL at hp2
      rw [Bool.and_eq_true, Bool.and_eq_true, decide_eq_true_eq] at hp2
      have hAll : NumText.AllDigits (mkS (l.drop 4)).cps.toList := fun c hc => by
        have := List.all_eq_true.mp hp2.2.2 c hc
        unfold isDig at this
        rw [Bool.and_eq_true, decide_eq_true_eq, decide_eq_true_eq] at this
        exact this
      have ll : (mkS (l.drop 4)).length = 6 := by rw [len_tl]; exact hp2.2.1
      refine ⟨_, _, rfl, intText_digits hAll (fun z => by have z' : (l.drop 4) = [] := z; rw [z'] at hp2; exact absurd hp2.2.1 (by decide)) (by rw [ll]; decide), by show (mkS (l.drop 4)).length ≤ 640; rw [ll]; decide, ?_⟩
      exact q hp _ s1
end
end K53

namespace K53
open PySem PySem.Spec PyProof.Rows L2
local macro_rules | `(tactic| array_mem_dec) => `(tactic| first | with_reducible assumption | with_reducible exact upd_same | ((with_reducible apply same_at); (with_reducible assumption); array_mem_dec) | ((with_reducible apply upd_atN); (with_reducible assumption); array_mem_dec) | ((with_reducible apply upd_at); (first | with_reducible assumption | (apply Ne.symm; with_reducible assumption)); array_mem_dec))
local macro_rules | `(tactic| array_get_dec) => `(tactic| first | (with_reducible refine w_seq ?_) | (with_reducible refine w_asg ?_) | (with_reducible refine w_drop ?_) | (with_reducible refine w_ret ?_) | (with_reducible refine w_retN ?_) | (with_reducible refine w_next ?_) | (with_reducible refine w_break ?_) | (with_reducible refine w_cont ?_) | (with_reducible refine w_ifS ?_) | (with_reducible refine w_sub ?_) | (with_reducible refine w_c ?_) | (with_reducible refine w_op ?_) | (with_reducible refine w_un ?_) | (with_reducible refine w_test ?_) | (with_reducible refine w_B ?_) | (with_reducible refine w_yes ?_) | (with_reducible refine w_not ?_) | (with_reducible refine w_and ?_) | (with_reducible refine w_or ?_) | (with_reducible refine w_andV ?_) | (with_reducible refine w_orV ?_) | (with_reducible refine w_notV ?_) | (with_reducible refine w_ifE ?_) | (with_reducible refine w_nil ?_) | (with_reducible refine w_cons ?_) | (with_reducible refine w_call ?_) | (with_reducible refine w_callS ?_) | (with_reducible refine w_cB ?_) | (with_reducible refine w_lst ?_) | (with_reducible refine w_tup ?_) | (with_reducible refine w_sl ?_) | (with_reducible refine w_noPart ?_) | (with_reducible refine w_part ?_) | (with_reducible refine w_bm ?_) | (with_reducible refine w_bm0 ?_) | (with_reducible refine w_strTy ?_) | (with_reducible refine w_bl ?_) | (with_reducible refine w_int1 ?_) | (with_reducible refine w_str1 ?_) | (with_reducible refine w_rI0 ?_) | (with_reducible refine w_rU ?_) | (with_reducible refine w_eqI ?_) | (with_reducible refine w_eqS ?_) | (with_reducible refine w_neI ?_) | (with_reducible refine w_neS ?_) | (with_reducible refine w_bl2 ?_) | (with_reducible refine w_isN ?_) | (with_reducible refine w_for ?_) | (with_reducible refine w_iRng1 ?_) | (with_reducible refine w_iRng2 ?_) | (with_reducible refine w_iList ?_) | (with_reducible refine w_iTup ?_) | (with_reducible refine w_iStr ?_) | (with_reducible refine w_lc ?_) | (with_reducible refine w_M1 ?_) | (with_reducible refine w_M0 ?_) | (with_reducible refine w_isS ?_) | ((with_reducible apply w_name); (simp only [wipe, List.map_cons, List.map_nil, List.foldl_cons, List.foldl_nil, List.set_cons_zero, List.set_cons_succ]; exact rfl)) | ((with_reducible apply w_var); exact rfl) | ((with_reducible apply w_lstTy); array_mem_dec) | ((with_reducible apply w_lenL); array_mem_dec) | ((with_reducible apply w_lenT); array_mem_dec) | ((with_reducible apply w_listOf); array_mem_dec) | ((with_reducible apply w_lenS); (first | (with_reducible assumption) | omega | (rw [sizeLine_eq]; omega))) | ((with_reducible apply w_slS); (first | (with_reducible assumption) | omega | (rw [sizeLine_eq]; omega))) | ((with_reducible apply w_wipe); exact rfl) | ((with_reducible apply w_acc); array_mem_dec; (try (first | (with_reducible assumption) | omega | (rw [sizeLine_eq]; omega)))) | ((with_reducible apply w_itl); array_mem_dec) | ((with_reducible apply w_itt); array_mem_dec) | ((with_reducible apply w_append); array_mem_dec; (try (first | (with_reducible assumption) | omega | (rw [sizeLine_eq]; omega)))) | ((with_reducible apply w_rng1); (first | (with_reducible assumption) | omega); (first | (with_reducible assumption) | omega)) | ((with_reducible apply w_ixL); array_mem_dec; (first | (with_reducible assumption) | exact rfl | (apply atI_nat; (with_reducible assumption)) | exact atI_last _ _)) | ((with_reducible apply w_ixT); array_mem_dec; (first | (with_reducible assumption) | exact rfl | (apply atI_nat; (with_reducible assumption)) | exact atI_last _ _)) | ((with_reducible apply w_iT); first | exact rfl | (with_reducible assumption)) | ((with_reducible apply w_iF); first | exact rfl | (with_reducible assumption)) | ((with_reducible apply w_isiI (b := true)); decide +kernel) | ((with_reducible apply w_isiI (b := false)); decide +kernel) | ((with_reducible apply w_isiB (b := true)); decide +kernel) | ((with_reducible apply w_isiB (b := false)); decide +kernel) | ((with_reducible apply w_isiS (b := true)); decide +kernel) | ((with_reducible apply w_isiS (b := false)); decide +kernel) | ((with_reducible apply w_isiN (b := true)); decide +kernel) | ((with_reducible apply w_isiN (b := false)); decide +kernel) | ((with_reducible apply w_isiL (b := true)); array_mem_dec; decide +kernel) | ((with_reducible apply w_isiL (b := false)); array_mem_dec; decide +kernel) | ((with_reducible apply w_isiT (b := true)); array_mem_dec; decide +kernel) | ((with_reducible apply w_isiT (b := false)); array_mem_dec; decide +kernel) | (with_reducible refine w_notT ?_) | (with_reducible refine w_chain ?_) | ((with_reducible apply w_trL); array_mem_dec) | ((with_reducible apply w_gTup); array_mem_dec; exact rfl) | ((with_reducible apply w_gLst); array_mem_dec; exact rfl) | (with_reducible refine w_gCons ?_) | (with_reducible refine w_gNil ?_) | (with_reducible refine w_Fld ?_) | (with_reducible refine w_sFld ?_) | (with_reducible refine w_dget ?_) | (with_reducible refine w_dIn ?_) | (with_reducible refine w_dNotIn ?_) | (with_reducible refine w_sDPut ?_) | (with_reducible refine w_dnewK ?_) | (with_reducible refine w_meth ?_) | (with_reducible refine w_make ?_) | (with_reducible refine w_methS ?_) | (with_reducible refine w_makeS ?_) | (with_reducible refine w_dpop ?_) | ((with_reducible apply w_fld1); array_mem_dec; (with_reducible assumption); (with_reducible assumption); exact rfl) | ((with_reducible apply w_sfld1); array_mem_dec; (with_reducible assumption); (with_reducible assumption); exact Nat.le_of_ble_eq_true rfl) | ((with_reducible apply w_meth1); array_mem_dec; exact rfl) | ((with_reducible apply w_dgetS); array_mem_dec; (with_reducible assumption)) | ((with_reducible apply w_dgetI); array_mem_dec; (with_reducible assumption)) | ((with_reducible apply w_dinS); array_mem_dec) | ((with_reducible apply w_dputI); array_mem_dec; (try (first | (with_reducible assumption) | omega | (rw [sizeLine_eq]; omega)))) | ((with_reducible apply w_dputS); array_mem_dec; (try (first | (with_reducible assumption) | omega | (rw [sizeLine_eq]; omega)))) | ((with_reducible apply w_isD); array_mem_dec) | ((with_reducible apply w_dictD); array_mem_dec) | ((with_reducible apply w_dpopS); array_mem_dec; (with_reducible assumption)))
/-! ### the disk's methods -/
theorem hu1 {k : Nat} {A : Around} (r : Room k A) : A.units + 1 < cLine := by have := r.units; omega
theorem hu2 {H : Hp} {a b : Addr} {o : HO} (h : upd H a o b = none) : b ≠ a ∧ H b = none := by
  by_cases e : b = a
  · subst e; rw [upd_same] at h; cases h
  · rw [upd_ne e] at h; exact ⟨e, h⟩
abbrev leS (a b : Str) : Prop := tl a ≤ tl b
theorem risingS_pair : ∀ (l : List Str) (p : Str), risingS p l = true → (p :: l).Pairwise leS
  | [], p, _ => List.pairwise_singleton _ _
  | x :: r, p, h => by
    unfold risingS at h
    rw [Bool.and_eq_true] at h
    have ih := risingS_pair r x h.2
    have h1 : tl p ≤ tl x := by
      have e := h.1
      rw [ltCps_eq] at e
      simpa using e
    refine List.pairwise_cons.mpr ⟨fun y hy => ?_, ih⟩
    rcases List.mem_cons.mp hy with rfl | hy
    · exact h1
    · exact List.le_trans h1 ((List.pairwise_cons.mp ih).1 y hy)
theorem sortedS_pair : ∀ (l : List Str), sortedS l = true → l.Pairwise leS
  | [], _ => List.Pairwise.nil
  | x :: r, h => risingS_pair r x h
theorem sorted_same {ys xs : List Str} (p : ys.Perm xs) (h : sortedS ys = true) (g : sortedS xs = true) : ys = xs :=
  List.Perm.eq_of_pairwise (fun a b _ _ h1 h2 => TL.ext_tl (List.le_antisymm h1 h2)) (sortedS_pair _ h) (sortedS_pair _ g) p
theorem lookup_mem {l : List (List Nat × Nat)} {x : List Nat} {i : Nat} (h : l.lookup x = some i) : (x, i) ∈ l := by
  induction l with
  | nil => cases h
  | cons p r ih =>
    obtain ⟨y, n⟩ := p
    rw [List.lookup_cons] at h
    split at h
    · rename_i e
      cases h
      have : x = y := by simpa using e
      subst this
      exact List.mem_cons_self
    · exact List.mem_cons_of_mem _ (ih h)
theorem texts_at {D : DS} {nx : Nat} {x : List Nat} {i : Nat} (sm : small D nx) (h : D.names.lookup x = some i) : ∃ t u, D.kept[i]? = some t ∧ D.late[i]? = some u ∧ t.length ≤ 400000 ∧ u.length ≤ 400000 ∧ readD D i = t ++ u := by
  have hi : i < D.kept.length := sm.2.2.2.2.2.2.2 _ (lookup_mem h)
  have hi' : i < D.late.length := by rw [sm.1]; exact hi
  refine ⟨D.kept[i], D.late[i], by simp [hi], by simp [hi'], sm.2.2.2.2.2.1 _ (List.getElem_mem _), sm.2.2.2.2.2.2.1 _ (List.getElem_mem _), ?_⟩
  unfold readD
  simp [hi, hi']
def upN (l : List (List Nat × Nat)) : Bool := sortedS (l.map fun p => mkS p.1)
def spFileD (CD : Addr) : Sp := fun vs H Q _ => ∃ a fp D nx x i, vs = [.ref a, .str (mkS x)] ∧ DiskN CD H a fp D nx ∧ D.names.lookup x = some i ∧ Q (.int ((i : Nat) : Int)) H
def spNamesD (CD : Addr) : Sp := fun vs H Q _ => ∃ a fp D nx, vs = [.ref a] ∧ DiskN CD H a fp D nx ∧ upN D.names = true ∧ ∀ p, H p = none → Q (.ref p) (upd H p (.lst (D.names.map fun q => sv q.1)))
def spReadD (CD : Addr) : Sp := fun vs H Q _ => ∃ a fp D nx x i, vs = [.ref a, .str (mkS x)] ∧ DiskN CD H a fp D nx ∧ D.names.lookup x = some i ∧ Q (.str (mkS (readD D i))) H
def spSizeD (CD : Addr) : Sp := fun vs H Q _ => ∃ a fp D nx x i, vs = [.ref a, .str (mkS x)] ∧ DiskN CD H a fp D nx ∧ D.names.lookup x = some i ∧ Q (.int (((readD D i).length : Nat) : Int)) H
def chg (l : List (List Nat × Nat)) (w : Str) (x : List Nat) (j : Nat) : Option (List (List Nat × Nat)) :=
  if w = Str.ofString "make" then (if (l.lookup x).isNone then some (l ++ [(x, j)]) else none) else if w = Str.ofString "remove" then (if (l.lookup x).isSome then some (l.filter fun p => decide (p.1 ≠ x)) else none) else none
def spApplied : Sp := fun vs H Q _ => ∃ (n c t : Addr) (l l2 : List (List Nat × Nat)) (w : Str) (x : List Nat) (j : Nat), vs = [.ref n, .ref c] ∧ H n = some (.dK (kvN l)) ∧ H c = some (.lst [.ref t]) ∧ H t = some (.tup [.str w, .str (mkS x), .int (j : Int)]) ∧ l.length ≤ 1000 ∧
  chg l w x j = some l2 ∧ ∀ p H', Same H H' → H p = none → H' p = some (.dK (kvN l2)) → Q (.ref p) H'
def spChange (CD : Addr) : Sp := fun vs H Q _ => ∃ (a t : Addr) (fp : List Addr) (D : DS) (nx : Nat) (l2 : List (List Nat × Nat)) (w : Str) (x : List Nat) (j : Nat), vs = [.ref a, .ref t] ∧ DiskN CD H a fp D nx ∧ H t = some (.tup [.str w, .str (mkS x), .int (j : Int)]) ∧ t ∉ fp ∧ chg D.names w x j = some l2 ∧ small { D with names := l2, chn := D.chn + 1 } nx ∧
  ∀ H' fp', DiskN CD H' a fp' { D with names := l2, chn := D.chn + 1 } nx → Fr fp fp' H H' → Q .non H'
def spMakeD (CD : Addr) : Sp := fun vs H Q _ => ∃ a fp D x, vs = [.ref a, .str (mkS x)] ∧ DiskAt CD H a fp D ∧ D.names.lookup x = none ∧ x ≠ [] ∧ small (makeD D x) (makeD D x).kept.length ∧
  ∀ H' fp', DiskAt CD H' a fp' (makeD D x) → Fr fp fp' H H' → Q .non H'
def spWriteD (CD : Addr) : Sp := fun vs H Q _ => ∃ a fp D nx x i t, vs = [.ref a, .str (mkS x), .str (mkS t)] ∧ DiskN CD H a fp D nx ∧ D.names.lookup x = some i ∧ ¬ 63 ∈ t ∧ t.length ≤ 400000 ∧ small (writeD D i t) nx ∧
  ∀ H', DiskN CD H' a fp (writeD D i t) nx → Fr fp fp H H' → Q .non H'
def spSyncD (CD : Addr) : Sp := fun vs H Q _ => ∃ a fp D nx x i, vs = [.ref a, .str (mkS x)] ∧ DiskN CD H a fp D nx ∧ D.names.lookup x = some i ∧ small (syncD D i) nx ∧
  ∀ H', DiskN CD H' a fp (syncD D i) nx → Fr fp fp H H' → Q .non H'
def spSyncN (CD : Addr) : Sp := fun vs H Q _ => ∃ a fp D nx, vs = [.ref a] ∧ DiskN CD H a fp D nx ∧ ∀ H' fp', DiskN CD H' a fp' (syncN D) nx → Fr fp fp' H H' → Q .non H'
def spRemoveD (CD : Addr) : Sp := fun vs H Q _ => ∃ a fp D nx x i, vs = [.ref a, .str (mkS x)] ∧ DiskN CD H a fp D nx ∧ D.names.lookup x = some i ∧ small (dropD D x) nx ∧
  ∀ H' fp', DiskN CD H' a fp' (dropD D x) nx → Fr fp fp' H H' → Q .non H'
def spCutD (CD : Addr) : Sp := fun vs H Q _ => ∃ (a : Addr) (fp : List Addr) (D : DS) (nx : Nat) (x : List Nat) (i m : Nat), vs = [.ref a, .str (mkS x), .int (m : Int)] ∧ DiskN CD H a fp D nx ∧ D.names.lookup x = some i ∧ m ≤ (readD D i).length ∧ small (cutD D i m) nx ∧
  ∀ H', DiskN CD H' a fp (cutD D i m) nx → Fr fp fp H H' → Q .non H'
def spInitD (CD : Addr) : Sp := fun vs H Q _ => ∃ a dx, vs = [.ref a] ∧ H a = some (.ins CD dx []) ∧ ∀ H' fp', DiskAt CD H' a fp' noneD → Fr [a] fp' H H' → Q .non H'
def spCopyD (CD : Addr) : Sp := fun vs H Q _ => ∃ a fp D nx, vs = [.ref a] ∧ DiskN CD H a fp D nx ∧ ∀ b H' fp', DiskN CD H' b fp' D nx → Same H H' → (∀ c ∈ fp', H c = none) → Q (.ref b) H'
theorem Fr.put {f g : List Addr} {H G : Hp} (x : Fr f g H G) {a : Addr} {o : HO} (m : a ∈ f) : Fr f g H (upd G a o) := ⟨fun b u e nb => by
  have nz : b ≠ a := fun z => nb (by rw [z]; exact m)
  rw [upd_ne nz]; exact x.1 b u e nb, x.2⟩
theorem Fr.neu {f g : List Addr} {H G : Hp} (x : Fr f g H G) {t : Addr} {o : HO} (h : G t = none) : Fr f g H (upd G t o) := ⟨fun b u e nb => by have := x.1 b u e nb; rw [upd_ne (ne_of_none this h)]; exact this, x.2⟩
section
variable {P : Program} {w : World} {K : PySem.W.Frag} {mg : Str → Option Value} {base : Heap}
theorem ok_Disk__file (M : Nms K mg) : FnOk P w K mg base CX0 1 M.a_Disk__file M.d_Disk__file ["self", "name"] (spFileD M.CD) := by
  refine M.F_Disk__file.ok sc_Disk__file (fun vs H Q E h => ?_) (fun cdv A outer s H vs Q E hr h => ?_)
  · obtain ⟨a, fp, D, nx, x, i, rfl, _⟩ := h
    rfl
  · have hu := hu1 hr
    have clD := M.clD
    have clL := M.clL
    have nD_kept := M.nD_kept
    have nD_late := M.nD_late
    have nD_names := M.nD_names
    have nD_sure := M.nD_sure
    have nD_changes := M.nD_changes
    have nD_next := M.nD_next
    have nL_disk := M.nL_disk
    have nL_most := M.nL_most
    have nL_parts := M.nL_parts
    have nL_sure := M.nL_sure
    refine ⟨_, (pss_cons (ps_if (pt_cmp (pc_dnotin hu (pv 1) (pe_fld (pv 0) rfl))) (pss_one ps_never) pss_nil)
    (pss_one (ps_ret (pe_dget hu (pe_fld (pv 0) rfl) (pv 1) (fun _ _ => rfl))))), ?_⟩
    try dsimp only [cxOf, Cx.nox]
    obtain ⟨a, fp, D, nx, x, i, rfl, ⟨k, l, n, sa, c, su, cv, rfl, ⟨nd, ⟨dx, hi⟩, hk, hl, hn, hs, hc, cl, sm⟩⟩, hx, q⟩ := h
    refine w_start (σ' := [some (.ref a), some (.str (mkS x))]) rfl ?_
    have e1 : valV (kvN D.names) (Sum.inr (mkS x)) = some (.int ((i : Nat) : Int)) := by rw [kvN_val, hx]; rfl
    (repeat array_get_dec)
    rw [e1]
    (repeat array_get_dec)
    exact q
theorem ok_Disk_names (M : Nms K mg) : FnOk P w K mg base CX0 1 M.a_Disk_names M.d_Disk_names ["self"] (spNamesD M.CD) := by
  refine M.F_Disk_names.ok sc_Disk_names (fun vs H Q E h => ?_) (fun cdv A outer s H vs Q E hr h => ?_)
  · obtain ⟨a, fp, D, nx, rfl, _⟩ := h
    rfl
  · have hu := hu1 hr
    have clD := M.clD
    have clL := M.clL
    have nD_kept := M.nD_kept
    have nD_late := M.nD_late
    have nD_names := M.nD_names
    have nD_sure := M.nD_sure
    have nD_changes := M.nD_changes
    have nD_next := M.nD_next
    have nL_disk := M.nL_disk
    have nL_most := M.nL_most
    have nL_parts := M.nL_parts
    have nL_sure := M.nL_sure
    refine ⟨_, (pss_one (ps_ret (pe_callB (call_sortedD rfl) (by rfl) M.T.b_sorted (by decide +kernel) (pa_cons (pe_fld (pv 0) rfl) pa_nil)))), ?_⟩
    try dsimp only [cxOf, Cx.nox]
    obtain ⟨a, fp, D, nx, rfl, ⟨k, l, n, sa, c, su, cv, rfl, ⟨nd, ⟨dx, hi⟩, hk, hl, hn, hs, hc, cl, sm⟩⟩, hx, q⟩ := h
    refine w_start (σ' := [some (.ref a)]) rfl ?_
    (repeat array_get_dec)
    refine ⟨n, kvN D.names, D.names.map fun p => mkS p.1, rfl, Rd.of hn, kvN_keys _, ?_, fun ys p hp h1 h2 => ?_⟩
    · rw [List.length_map]
      have := sm.2.2.1
      omega
    · rw [sorted_same hp h1 hx, List.map_map]
      exact q p h2
theorem ok_Disk_read (M : Nms K mg) : FnOk P w K mg base CX0 2 M.a_Disk_read M.d_Disk_read ["self", "name"] (spReadD M.CD) := by
  refine M.F_Disk_read.ok sc_Disk_read (fun vs H Q E h => ?_) (fun cdv A outer s H vs Q E hr h => ?_)
  · obtain ⟨a, fp, D, nx, x, i, rfl, _⟩ := h
    rfl
  · have hu := hu1 hr
    have clD := M.clD
    have clL := M.clL
    have nD_kept := M.nD_kept
    have nD_late := M.nD_late
    have nD_names := M.nD_names
    have nD_sure := M.nD_sure
    have nD_changes := M.nD_changes
    have nD_next := M.nD_next
    have nL_disk := M.nL_disk
    have nL_most := M.nL_most
    have nL_parts := M.nL_parts
    have nL_sure := M.nL_sure
    refine ⟨_, (pss_cons (ps_set (i := 2) sc_Disk_read.nd rfl (Or.inl rfl) (pe_meth (pv 0) M.clD M.m_Disk__file (ok_Disk__file M) (hr.mono (by decide)) M.b_Disk__file .nil pass0 (pa_cons (pv 1) pa_nil)))
    (pss_one (ps_ret (pe_op op_add_str (pe_dget hu (pe_fld (pv 0) rfl) (pv 2) (fun _ _ => rfl)) (pe_dget hu (pe_fld (pv 0) rfl) (pv 2) (fun _ _ => rfl)))))), ?_⟩
    try dsimp only [cxOf, Cx.nox]
    obtain ⟨a, fp, D, nx, x, i, rfl, dk, hx, q⟩ := h
    have dk' := dk
    obtain ⟨k, l, n, sa, c, su, cv, rfl, ⟨nd, ⟨dx, hi⟩, hk, hl, hn, hs, hc, cl, sm⟩⟩ := dk'
    refine w_start (σ' := [some (.ref a), some (.str (mkS x)), none]) rfl ?_
    obtain ⟨t, u, g1, g2, b1, b2, er⟩ := texts_at sm hx
    have e1 := kvI_get (l := D.kept.map sv) (i := i) (v := sv t) (by rw [List.getElem?_map, g1]; rfl)
    have e2 := kvI_get (l := D.late.map sv) (i := i) (v := sv u) (by rw [List.getElem?_map, g2]; rfl)
    (repeat array_get_dec)
    refine ⟨a, _, D, nx, x, i, rfl, dk, hx, ?_⟩
    (repeat array_get_dec)
    refine w_addS (fit_add (s := mkS t) (t := mkS u) (a := t.length) (b := u.length) (Nat.le_of_eq (len_tl _)) (Nat.le_of_eq (len_tl _)) (by omega)) ?_
    rw [er] at q
    rw [mkS_app]
    exact q
theorem ok_Disk_size (M : Nms K mg) : FnOk P w K mg base CX0 3 M.a_Disk_size M.d_Disk_size ["self", "name"] (spSizeD M.CD) := by
  refine M.F_Disk_size.ok sc_Disk_size (fun vs H Q E h => ?_) (fun cdv A outer s H vs Q E hr h => ?_)
  · obtain ⟨a, fp, D, nx, x, i, rfl, _⟩ := h
    rfl
  · have hu := hu1 hr
    have clD := M.clD
    have clL := M.clL
    have nD_kept := M.nD_kept
    have nD_late := M.nD_late
    have nD_names := M.nD_names
    have nD_sure := M.nD_sure
    have nD_changes := M.nD_changes
    have nD_next := M.nD_next
    have nL_disk := M.nL_disk
    have nL_most := M.nL_most
    have nL_parts := M.nL_parts
    have nL_sure := M.nL_sure
    refine ⟨_, (pss_one (ps_ret (pe_callB call_len (by rfl) M.T.b_len (by decide +kernel) (pa_cons (pe_meth (pv 0) M.clD M.m_Disk_read (ok_Disk_read M) (hr.mono (by decide)) M.b_Disk_read .nil pass0 (pa_cons (pv 1) pa_nil)) pa_nil)))), ?_⟩
    try dsimp only [cxOf, Cx.nox]
    obtain ⟨a, fp, D, nx, x, i, rfl, dk, hx, q⟩ := h
    have dk' := dk
    obtain ⟨k, l, n, sa, c, su, cv, rfl, ⟨nd, ⟨dx, hi⟩, hk, hl, hn, hs, hc, cl, sm⟩⟩ := dk'
    refine w_start (σ' := [some (.ref a), some (.str (mkS x))]) rfl ?_
    obtain ⟨t, u, g1, g2, b1, b2, er⟩ := texts_at sm hx
    have hz : (mkS (readD D i)).length ≤ sizeLine := by rw [er, sizeLine_eq, len_tl]; show (t ++ u).length ≤ _; rw [List.length_append]; omega
    (repeat array_get_dec)
    refine ⟨a, _, D, nx, x, i, rfl, dk, hx, ?_⟩
    (repeat array_get_dec)
    rw [len_tl]
    exact q
theorem ok_applied (M : Nms K mg) : FnOk P w K mg base CX0 1 M.a_applied M.d_applied ["names", "changes"] spApplied := by
  refine M.F_applied.ok sc_applied (fun vs H Q E h => ?_) (fun cdv A outer s H vs Q E hr h => ?_)
  · obtain ⟨n, c, t, l, l2, w', x, j, rfl, _⟩ := h
    rfl
  · have hu := hu1 hr
    have clD := M.clD
    have clL := M.clL
    have nD_kept := M.nD_kept
    have nD_late := M.nD_late
    have nD_names := M.nD_names
    have nD_sure := M.nD_sure
    have nD_changes := M.nD_changes
    have nD_next := M.nD_next
    have nL_disk := M.nL_disk
    have nL_most := M.nL_most
    have nL_parts := M.nL_parts
    have nL_sure := M.nL_sure
    refine ⟨_, (pss_cons (ps_set (i := 2) sc_applied.nd rfl (Or.inl rfl) (pe_callTy call_dictD (by rfl) M.T.b_dict (by decide +kernel) (pa_cons (pv 0) pa_nil)))
    (pss_cons (ps_for PassesOwn.never rfl (pi_list (pv 1)) (pg_tup rfl (pgs_cons (pg_name (i := 3) sc_applied.nd rfl (Or.inl rfl)) (pgs_cons (pg_name (i := 4) sc_applied.nd rfl (Or.inl rfl)) (pgs_cons (pg_name (i := 5) sc_applied.nd rfl (Or.inl rfl)) pgs_nil)))) (pss_one (ps_if (pt_cmpR op_eq (pv 3) pe_str (nomark _)) (pss_one (ps_dput hu (pv 2) (pv 4) (pv 5) rfl)) (pss_one (ps_if (pt_cmpR op_eq (pv 3) pe_str (nomark _)) (pss_one ps_never) (pss_one (ps_expr (pe_dpop1 (pv 2) (pv 4) ⟨rfl, rfl, rfl, rfl⟩))))))))
    (pss_one (ps_ret (pv 2))))), ?_⟩
    try dsimp only [cxOf, Cx.nox]
    obtain ⟨n, c, t, l, l2, w', x, j, rfl, hn, hc, ht, hl, hg, q⟩ := h
    refine w_start (σ' := [some (.ref n), some (.ref c), none, none, none, none]) rfl ?_
    (repeat array_get_dec)
    intro p hp
    (repeat array_get_dec)
    refine for_list (K := K) (a := c) (xs := [.ref t]) (fun i σ H' => ∃ v3 v4 v5, σ = [some (.ref n), some (.ref c), some (.ref p), v3, v4, v5] ∧ (∀ b, b ≠ p → H' b = H b) ∧ H' p = some (.dK (kvN (if i = 0 then l else l2)))) ⟨none, none, none, rfl, fun b hb => upd_ne hb, upd_same⟩ ?_ ?_ ?_
    · rintro i σ H' hi ⟨v3, v4, v5, rfl, hs, hpp⟩
      exact SqL.of (by rw [hs c (ne_of_none hc hp)]; exact hc)
    · rintro i v σ H' hv ⟨v3, v4, v5, rfl, hs, hpp⟩
      have hi : i = 0 ∧ v = .ref t := by
        cases i with
        | zero => exact ⟨rfl, by simpa using hv.symm⟩
        | succ i => simp at hv
      obtain ⟨rfl, rfl⟩ := hi
      have ht' : H' t = some (.tup [.str w', .str (mkS x), .int (j : Int)]) := by rw [hs t (ne_of_none ht hp)]; exact ht
      rw [if_pos rfl] at hpp
      have lz : (kvN l).length < sizeLine := by rw [kvN_len, sizeLine_eq]; omega
      (repeat array_get_dec)
      unfold chg at hg
      refine ite2 (fun h1 => ?_) (fun h1 => ?_)
      · have h1' : w' = Str.ofString "make" := V.str.inj (of_decide_eq_true h1)
        rw [if_pos h1'] at hg
        split at hg
        · rename_i h2
          cases hg
          (repeat array_get_dec)
          refine ⟨_, _, _, rfl, fun b hb => by rw [upd_ne hb]; exact hs b hb, ?_⟩
          rw [upd_same, if_neg (by omega), kvN_put (by simpa using h2)]
        · cases hg
      · have h1' : ¬ w' = Str.ofString "make" := fun z => h1 (decide_eq_true (by rw [z]))
        rw [if_neg h1'] at hg
        split at hg
        · rename_i h2
          (repeat array_get_dec)
          rw [h2]
          refine iteF' (by decide +kernel) ?_
          split at hg
          · rename_i h3
            cases hg
            obtain ⟨i, hi⟩ := Option.isSome_iff_exists.mp h3
            have e1 : valV (kvN l) (Sum.inr (mkS x)) = some (.int ((i : Nat) : Int)) := by rw [kvN_val, hi]; rfl
            (repeat array_get_dec)
            refine ⟨_, _, _, rfl, fun b hb => by rw [upd_ne hb]; exact hs b hb, ?_⟩
            rw [upd_same, if_neg (by omega), kvN_drop]
          · cases hg
        · cases hg
    · rintro σ H' ⟨v3, v4, v5, rfl, hs, hpp⟩
      (repeat array_get_dec)
      refine q p H' (fun b o e => by rw [hs b (ne_of_none e hp)]; exact e) hp ?_
      rw [if_neg (by simp)] at hpp
      exact hpp
theorem ok_Disk__change (M : Nms K mg) : FnOk P w K mg base CX0 2 M.a_Disk__change M.d_Disk__change ["self", "row"] (spChange M.CD) := by
  refine M.F_Disk__change.ok sc_Disk__change (fun vs H Q E h => ?_) (fun cdv A outer s H vs Q E hr h => ?_)
  · obtain ⟨a, t, fp, D, nx, l2, w', x, j, rfl, _⟩ := h
    rfl
  · have hu := hu1 hr
    have clD := M.clD
    have clL := M.clL
    have nD_kept := M.nD_kept
    have nD_late := M.nD_late
    have nD_names := M.nD_names
    have nD_sure := M.nD_sure
    have nD_changes := M.nD_changes
    have nD_next := M.nD_next
    have nL_disk := M.nL_disk
    have nL_most := M.nL_most
    have nL_parts := M.nL_parts
    have nL_sure := M.nL_sure
    refine ⟨_, (pss_cons (ps_expr (pe_bm PySem.F.plainAttrs_list PySem.F.slot_list_append PySem.F.type_list_append mt_append (pe_fld (pv 0) rfl) (pa_cons (pv 1) pa_nil)))
    (pss_one (ps_fld (pv 0) (pe_call (ok_applied M) (hr.mono (by decide)) rfl M.g_applied M.k_applied M.b_applied .nil pass0 (pa_cons (pe_fld (pv 0) rfl) (pa_cons (pe_lst (pa_cons (pv 1) pa_nil)) pa_nil))) rfl))), ?_⟩
    try dsimp only [cxOf, Cx.nox]
    obtain ⟨a, t, fp, D, nx, l2, w', x, j, rfl, ⟨k, l, n, sa, c, su, cv, rfl, ⟨nd, ⟨dx, hi⟩, hk, hl, hn, hs, hc, cl, sm⟩⟩, ht, nt, hg, sm2, q⟩ := h
    refine w_start (σ' := [some (.ref a), some (.ref t)]) rfl ?_
    have lc : cv.length < sizeLine := by rw [cl, sizeLine_eq]; have := sm.2.2.2.1; omega
    simp only [List.nodup_cons, List.mem_cons, List.not_mem_nil, or_false, not_or] at nd nt
    obtain ⟨⟨n1, n2, n3, n4, n5⟩, ⟨n6, n7, n8, n9⟩, ⟨n10, n11, n12⟩, ⟨n13, n14⟩, n15, _⟩ := nd
    obtain ⟨m1, m2, m3, m4, m5, m6⟩ := nt
    (repeat array_get_dec)
    refine ⟨by show 1 ≤ sizeLine; decide, fun p hp => ?_⟩
    obtain ⟨p1, p2⟩ := hu2 hp
    (repeat array_get_dec)
    have gn : upd (upd H c (.lst (cv ++ [.ref t]))) p (.lst [.ref t]) n = some (.dK (kvN D.names)) := by array_mem_dec
    have gt : upd (upd H c (.lst (cv ++ [.ref t]))) p (.lst [.ref t]) t = some (.tup [.str w', .str (mkS x), .int (j : Int)]) := by array_mem_dec
    refine ⟨n, p, t, D.names, l2, w', x, j, rfl, gn, upd_same, gt, by have := sm.2.2.1; omega, hg, fun p3 H3 s3 f3 g3 => ?_⟩
    have fr : ∀ b o, H b = some o → b ≠ c → H3 b = some o := fun b o e nb => s3 _ _ (by rw [upd_ne (ne_of_none e p2), upd_ne nb]; exact e)
    have gi := fr _ _ hi n5
    have gk := fr _ _ hk n9
    have gl := fr _ _ hl n12
    have gs := fr _ _ hs n15
    have gc : H3 c = some (.lst (cv ++ [.ref t])) := s3 _ _ (by rw [upd_ne (ne_of_none hc p2), upd_same])
    obtain ⟨f3a, f3b⟩ := hu2 f3
    obtain ⟨f3c, f3d⟩ := hu2 f3b
    have d1 := ne_of_none hi f3d
    have d2 := ne_of_none hk f3d
    have d3 := ne_of_none hl f3d
    have d4 := ne_of_none hs f3d
    have d5 := ne_of_none hc f3d
    (repeat array_get_dec)
    refine q _ [a, k, l, p3, sa, c] ⟨k, l, p3, sa, c, su, cv ++ [.ref t], rfl, ⟨(by simp only [List.nodup_cons, List.mem_cons, List.not_mem_nil, or_false, not_or]; refine ⟨⟨?_, ?_, ?_, ?_, ?_⟩, ⟨?_, ?_, ?_, ?_⟩, ⟨?_, ?_, ?_⟩, ⟨?_, ?_⟩, ?_, not_false, List.nodup_nil⟩ <;> first | assumption | (apply Ne.symm; assumption)), ⟨dx, upd_same⟩, by array_mem_dec, by array_mem_dec, by array_mem_dec, by array_mem_dec, by array_mem_dec, by rw [List.length_append, cl]; rfl, sm2⟩⟩ ⟨fun b o e nb => ?_, fun b m => ?_⟩
    · simp only [List.mem_cons, List.not_mem_nil, or_false, not_or] at nb
      rw [upd_ne nb.1]
      exact fr b o e nb.2.2.2.2.2
    · simp only [List.mem_cons, List.not_mem_nil, or_false] at m ⊢
      rcases m with rfl | rfl | rfl | rfl | rfl | rfl
      · exact .inl (by simp)
      · exact .inl (by simp)
      · exact .inl (by simp)
      · exact .inr f3d
      · exact .inl (by simp)
      · exact .inl (by simp)
theorem DiskN.next {CD : Addr} {H : Hp} {a : Addr} {fp : List Addr} {D : DS} {nx : Nat} (x : DiskN CD H a fp D nx) : ∃ dx k l n s c, H a = some (.ins CD dx (dF k l n s c nx)) ∧ a ∈ fp ∧ ∀ m, small D m → DiskN CD (upd H a (.ins CD dx (dF k l n s c m))) a fp D m := by
  obtain ⟨k, l, n, s, c, su, cv, rfl, ⟨nd, ⟨dx, hi⟩, hk, hl, hn, hs, hc, cl, sm⟩⟩ := x
  refine ⟨dx, k, l, n, s, c, hi, by simp, fun m sm2 => ⟨k, l, n, s, c, su, cv, rfl, ⟨nd, ⟨dx, upd_same⟩, ?_, ?_, ?_, ?_, ?_, cl, sm2⟩⟩⟩
  all_goals (simp only [List.nodup_cons, List.mem_cons, List.not_mem_nil, or_false, not_or] at nd)
  · rw [upd_ne (Ne.symm nd.1.1)]; exact hk
  · rw [upd_ne (Ne.symm nd.1.2.1)]; exact hl
  · rw [upd_ne (Ne.symm nd.1.2.2.1)]; exact hn
  · rw [upd_ne (Ne.symm nd.1.2.2.2.1)]; exact hs
  · rw [upd_ne (Ne.symm nd.1.2.2.2.2)]; exact hc
theorem ok_Disk_make (M : Nms K mg) : FnOk P w K mg base CX0 3 M.a_Disk_make M.d_Disk_make ["self", "name"] (spMakeD M.CD) := by
  refine M.F_Disk_make.ok sc_Disk_make (fun vs H Q E h => ?_) (fun cdv A outer s H vs Q E hr h => ?_)
  · obtain ⟨a, fp, D, x, rfl, _⟩ := h
    rfl
  · have hu := hu1 hr
    have clD := M.clD
    have clL := M.clL
    have nD_kept := M.nD_kept
    have nD_late := M.nD_late
    have nD_names := M.nD_names
    have nD_sure := M.nD_sure
    have nD_changes := M.nD_changes
    have nD_next := M.nD_next
    have nL_disk := M.nL_disk
    have nL_most := M.nL_most
    have nL_parts := M.nL_parts
    have nL_sure := M.nL_sure
    refine ⟨_, (pss_cons (ps_if (PW.pt (pw_or (pt_not (pt_val (pe_callB call_isi (by rfl) M.T.b_isinstance (by decide +kernel) (pa_cons (pv 1) (pa_cons (pe_bltn (v := .ty "str") (u := .type "str") (by rfl) M.T.b_str (by decide +kernel) rfl) pa_nil))))) (pw_or (pt_cmpR op_eq (pv 1) pe_str (nomark _)) (pw_or1 (pt_cmp (pc_din hu (pv 1) (pe_fld (pv 0) rfl))))))) (pss_one ps_never) pss_nil)
    (pss_cons (ps_dput hu (pe_fld (pv 0) rfl) (pe_fld (pv 0) rfl) pe_str rfl)
    (pss_cons (ps_dput hu (pe_fld (pv 0) rfl) (pe_fld (pv 0) rfl) pe_str rfl)
    (pss_cons (ps_expr (pe_meth (pv 0) M.clD M.m_Disk__change (ok_Disk__change M) (hr.mono (by decide)) M.b_Disk__change .nil pass0 (pa_cons (pe_tup (pa_cons pe_str (pa_cons (pv 1) (pa_cons (pe_fld (pv 0) rfl) pa_nil)))) pa_nil)))
    (pss_one (ps_fld (pv 0) (pe_op op_add (pe_fld (pv 0) rfl) pe_int) rfl)))))), ?_⟩
    try dsimp only [cxOf, Cx.nox]
    obtain ⟨a, fp, D, x, rfl, ⟨k, l, n, sa, c, su, cv, rfl, ⟨nd, ⟨dx, hi⟩, hk, hl, hn, hs, hc, cl, sm⟩⟩, hx, hne, sm2, q⟩ := h
    refine w_start (σ' := [some (.ref a), some (.str (mkS x))]) rfl ?_
    have nd0 := nd
    simp only [List.nodup_cons, List.mem_cons, List.not_mem_nil, or_false, not_or] at nd
    obtain ⟨⟨n1, n2, n3, n4, n5⟩, ⟨n6, n7, n8, n9⟩, ⟨n10, n11, n12⟩, ⟨n13, n14⟩, n15, _⟩ := nd
    have e1 : valV (kvN D.names) (Sum.inr (mkS x)) = none := by rw [kvN_val, hx]; rfl
    have z1 : (kvI (D.kept.map sv)).length < sizeLine := by rw [kvI_len, List.length_map, sizeLine_eq]; have := sm.2.1; omega
    have z2 : (kvI (D.late.map sv)).length < sizeLine := by rw [kvI_len, List.length_map, sizeLine_eq]; have := sm.2.1; have := sm.1; omega
    have ek : putK (kvI (D.kept.map sv)) (Sum.inl ((D.kept.length : Nat) : Int)) (.str (Str.ofString "")) = kvI ((D.kept ++ [[]]).map sv) := by
      rw [← List.length_map (f := sv), kvI_end, List.map_append]; rfl
    have el : putK (kvI (D.late.map sv)) (Sum.inl ((D.kept.length : Nat) : Int)) (.str (Str.ofString "")) = kvI ((D.late ++ [[]]).map sv) := by
      rw [← sm.1, ← List.length_map (f := sv), kvI_end, List.map_append]; rfl
    (repeat array_get_dec)
    refine iteF' (decide_eq_false fun z => hne (by have := congrArg tl (V.str.inj z); exact this)) ?_
    (repeat array_get_dec)
    rw [e1]
    (repeat array_get_dec)
    rw [ek, el]
    refine ⟨by show 3 ≤ sizeLine; decide, fun t ht => ?_⟩
    obtain ⟨t1, t2⟩ := hu2 ht
    obtain ⟨t3, t4⟩ := hu2 t2
    have d1 := ne_of_none hi t4
    have d2 := ne_of_none hn t4
    have d3 := ne_of_none hs t4
    have d4 := ne_of_none hc t4
    have eL : (makeD D x).kept.length = D.kept.length + 1 := by show (D.kept ++ [[]]).length = _; rw [List.length_append]; rfl
    have smo : small (openD D) D.kept.length := ⟨sm2.1, sm2.2.1, sm.2.2.1, sm.2.2.2.1, by show _ ≤ (makeD D x).kept.length; omega, sm2.2.2.2.2.2.1, sm2.2.2.2.2.2.2.1, fun p hp => by show p.2 < (makeD D x).kept.length; have := sm.2.2.2.2.2.2.2 p hp; omega⟩
    have smn : small (makeD D x) D.kept.length := ⟨sm2.1, sm2.2.1, sm2.2.2.1, sm2.2.2.2.1, by omega, sm2.2.2.2.2.2.1, sm2.2.2.2.2.2.2.1, sm2.2.2.2.2.2.2.2⟩
    (repeat array_get_dec)
    refine ⟨a, t, [a, k, l, n, sa, c], openD D, D.kept.length, D.names ++ [(x, D.kept.length)], Str.ofString "make", x, D.kept.length, rfl, ⟨k, l, n, sa, c, su, cv, rfl, ⟨nd0, ⟨dx, by ((repeat (first | with_reducible exact upd_same | with_reducible refine (upd_ne (by first | assumption | (apply Ne.symm; assumption))).trans ?_)); (try (first | assumption | exact upd_same)))⟩, by ((repeat (first | with_reducible exact upd_same | with_reducible refine (upd_ne (by first | assumption | (apply Ne.symm; assumption))).trans ?_)); (try (first | assumption | exact upd_same))), by ((repeat (first | with_reducible exact upd_same | with_reducible refine (upd_ne (by first | assumption | (apply Ne.symm; assumption))).trans ?_)); (try (first | assumption | exact upd_same))), by ((repeat (first | with_reducible exact upd_same | with_reducible refine (upd_ne (by first | assumption | (apply Ne.symm; assumption))).trans ?_)); (try (first | assumption | exact upd_same))), by ((repeat (first | with_reducible exact upd_same | with_reducible refine (upd_ne (by first | assumption | (apply Ne.symm; assumption))).trans ?_)); (try (first | assumption | exact upd_same))), by ((repeat (first | with_reducible exact upd_same | with_reducible refine (upd_ne (by first | assumption | (apply Ne.symm; assumption))).trans ?_)); (try (first | assumption | exact upd_same))), cl, smo⟩⟩, upd_same, ?_, ?_, smn, fun H' fp' dk fr => ?_⟩
    · simp only [List.mem_cons, List.not_mem_nil, or_false, not_or]
      exact ⟨Ne.symm d1, t3, t1, Ne.symm d2, Ne.symm d3, Ne.symm d4⟩
    · show chg D.names _ _ _ = _
      unfold chg
      rw [if_pos rfl, hx]; rfl
    obtain ⟨dx', k', l', n', s', c', gi, ma, nxt⟩ := dk.next
    (repeat array_get_dec)
    refine q _ fp' (by show DiskN _ _ _ _ _ (makeD D x).kept.length; rw [eL]; exact nxt (D.kept.length + 1) (eL ▸ sm2)) ?_
    exact (((((Fr.refl _ H).put (a := k) (by simp)).put (a := l) (by simp)).neu ht).trans fr).put (by simp)
theorem ok_Disk_write (M : Nms K mg) : FnOk P w K mg base CX0 2 M.a_Disk_write M.d_Disk_write ["self", "name", "text"] (spWriteD M.CD) := by
  obtain ⟨tSP, GSP⟩ := M.cSP
  refine M.F_Disk_write.ok sc_Disk_write (fun vs H Q E h => ?_) (fun cdv A outer s H vs Q E hr h => ?_)
  · obtain ⟨a, fp, D, nx, x, i, t, rfl, _⟩ := h
    rfl
  · have hu := hu1 hr
    have clD := M.clD
    have clL := M.clL
    have nD_kept := M.nD_kept
    have nD_late := M.nD_late
    have nD_names := M.nD_names
    have nD_sure := M.nD_sure
    have nD_changes := M.nD_changes
    have nD_next := M.nD_next
    have nL_disk := M.nL_disk
    have nL_most := M.nL_most
    have nL_parts := M.nL_parts
    have nL_sure := M.nL_sure
    refine ⟨_, (pss_cons (ps_set (i := 3) sc_Disk_write.nd rfl (Or.inl rfl) (pe_meth (pv 0) M.clD M.m_Disk__file (ok_Disk__file M) (hr.mono (by decide)) M.b_Disk__file .nil pass0 (pa_cons (pv 1) pa_nil)))
    (pss_cons (ps_if (PW.pt (pw_or (pt_not (pt_val (pe_callB call_isi (by rfl) M.T.b_isinstance (by decide +kernel) (pa_cons (pv 2) (pa_cons (pe_bltn (v := .ty "str") (u := .type "str") (by rfl) M.T.b_str (by decide +kernel) rfl) pa_nil))))) (pw_or1 (pt_cmpR op_in_sign (pe_glob (v := .str (Str.ofString "?")) rfl GSP ⟨_, rfl⟩) (pv 2) rfl)))) (pss_one ps_never) pss_nil)
    (pss_one (ps_dput hu (pe_fld (pv 0) rfl) (pv 3) (pe_op op_add_str (pe_dget hu (pe_fld (pv 0) rfl) (pv 3) (fun _ _ => rfl)) (pv 2)) rfl)))), ?_⟩
    try dsimp only [cxOf, Cx.nox]
    obtain ⟨a, fp, D, nx, x, i, t, rfl, dk, hx, h63, hlen, sm2, q⟩ := h
    have dk' := dk
    obtain ⟨k, l, n, sa, c, su, cv, rfl, ⟨nd, ⟨dx, hi⟩, hk, hl, hn, hs, hc, cl, sm⟩⟩ := dk'
    have nd0 := nd
    simp only [List.nodup_cons, List.mem_cons, List.not_mem_nil, or_false, not_or] at nd
    obtain ⟨⟨n1, n2, n3, n4, n5⟩, ⟨n6, n7, n8, n9⟩, ⟨n10, n11, n12⟩, ⟨n13, n14⟩, n15, _⟩ := nd
    refine w_start (σ' := [some (.ref a), some (.str (mkS x)), some (.str (mkS t)), none]) rfl ?_
    obtain ⟨t0, u, g1, g2, b1, b2, er⟩ := texts_at sm hx
    have hil : i < D.late.length := (List.getElem?_eq_some_iff.mp g2).1
    have e2 := kvI_get (l := D.late.map sv) (i := i) (v := sv u) (by rw [List.getElem?_map, g2]; rfl)
    have z2 : (kvI (D.late.map sv)).length < sizeLine := by rw [kvI_len, List.length_map, sizeLine_eq]; have := sm.2.1; have := sm.1; omega
    (repeat array_get_dec)
    refine ⟨a, _, D, nx, x, i, rfl, dk, hx, ?_⟩
    (repeat array_get_dec)
    refine ⟨63, mkS t, rfl, rfl, ?_⟩
    (repeat array_get_dec)
    refine iteF' (decide_eq_false h63) ?_
    (repeat array_get_dec)
    refine w_addS (fit_add (s := mkS u) (t := mkS t) (a := u.length) (b := t.length) (Nat.le_of_eq (len_tl _)) (Nat.le_of_eq (len_tl _)) (by omega)) ?_
    (repeat array_get_dec)
    have ep : putK (kvI (D.late.map sv)) (Sum.inl ((i : Nat) : Int)) (.str (mkS u ++ mkS t)) = kvI ((writeD D i t).late.map sv) := by
      rw [kvI_put (by rw [List.length_map]; exact hil), mkS_app]
      unfold writeD
      rw [List.map_set, g2]; rfl
    rw [ep]
    exact q _ ⟨k, l, n, sa, c, su, cv, rfl, ⟨nd0, ⟨dx, by ((repeat (first | with_reducible exact upd_same | with_reducible refine (upd_ne (by first | assumption | (apply Ne.symm; assumption))).trans ?_)); (try (first | assumption | exact upd_same)))⟩, by ((repeat (first | with_reducible exact upd_same | with_reducible refine (upd_ne (by first | assumption | (apply Ne.symm; assumption))).trans ?_)); (try (first | assumption | exact upd_same))), upd_same, by ((repeat (first | with_reducible exact upd_same | with_reducible refine (upd_ne (by first | assumption | (apply Ne.symm; assumption))).trans ?_)); (try (first | assumption | exact upd_same))), by ((repeat (first | with_reducible exact upd_same | with_reducible refine (upd_ne (by first | assumption | (apply Ne.symm; assumption))).trans ?_)); (try (first | assumption | exact upd_same))), by ((repeat (first | with_reducible exact upd_same | with_reducible refine (upd_ne (by first | assumption | (apply Ne.symm; assumption))).trans ?_)); (try (first | assumption | exact upd_same))), cl, sm2⟩⟩ ((Fr.refl _ H).put (by simp))
theorem ok_Disk_sync (M : Nms K mg) : FnOk P w K mg base CX0 2 M.a_Disk_sync M.d_Disk_sync ["self", "name"] (spSyncD M.CD) := by
  refine M.F_Disk_sync.ok sc_Disk_sync (fun vs H Q E h => ?_) (fun cdv A outer s H vs Q E hr h => ?_)
  · obtain ⟨a, fp, D, nx, x, i, rfl, _⟩ := h
    rfl
  · have hu := hu1 hr
    have clD := M.clD
    have clL := M.clL
    have nD_kept := M.nD_kept
    have nD_late := M.nD_late
    have nD_names := M.nD_names
    have nD_sure := M.nD_sure
    have nD_changes := M.nD_changes
    have nD_next := M.nD_next
    have nL_disk := M.nL_disk
    have nL_most := M.nL_most
    have nL_parts := M.nL_parts
    have nL_sure := M.nL_sure
    refine ⟨_, (pss_cons (ps_set (i := 2) sc_Disk_sync.nd rfl (Or.inl rfl) (pe_meth (pv 0) M.clD M.m_Disk__file (ok_Disk__file M) (hr.mono (by decide)) M.b_Disk__file .nil pass0 (pa_cons (pv 1) pa_nil)))
    (pss_cons (ps_dput hu (pe_fld (pv 0) rfl) (pv 2) (pe_op op_add_str (pe_dget hu (pe_fld (pv 0) rfl) (pv 2) (fun _ _ => rfl)) (pe_dget hu (pe_fld (pv 0) rfl) (pv 2) (fun _ _ => rfl))) rfl)
    (pss_one (ps_dput hu (pe_fld (pv 0) rfl) (pv 2) pe_str rfl)))), ?_⟩
    try dsimp only [cxOf, Cx.nox]
    obtain ⟨a, fp, D, nx, x, i, rfl, dk, hx, sm2, q⟩ := h
    have dk' := dk
    obtain ⟨k, l, n, sa, c, su, cv, rfl, ⟨nd, ⟨dx, hi⟩, hk, hl, hn, hs, hc, cl, sm⟩⟩ := dk'
    have nd0 := nd
    simp only [List.nodup_cons, List.mem_cons, List.not_mem_nil, or_false, not_or] at nd
    obtain ⟨⟨n1, n2, n3, n4, n5⟩, ⟨n6, n7, n8, n9⟩, ⟨n10, n11, n12⟩, ⟨n13, n14⟩, n15, _⟩ := nd
    refine w_start (σ' := [some (.ref a), some (.str (mkS x)), none]) rfl ?_
    obtain ⟨t0, u, g1, g2, b1, b2, er⟩ := texts_at sm hx
    have hik : i < D.kept.length := (List.getElem?_eq_some_iff.mp g1).1
    have hil : i < D.late.length := (List.getElem?_eq_some_iff.mp g2).1
    have e1 := kvI_get (l := D.kept.map sv) (i := i) (v := sv t0) (by rw [List.getElem?_map, g1]; rfl)
    have e2 := kvI_get (l := D.late.map sv) (i := i) (v := sv u) (by rw [List.getElem?_map, g2]; rfl)
    have z1 : (kvI (D.kept.map sv)).length < sizeLine := by rw [kvI_len, List.length_map, sizeLine_eq]; have := sm.2.1; omega
    have z2 : (kvI (D.late.map sv)).length < sizeLine := by rw [kvI_len, List.length_map, sizeLine_eq]; have := sm.2.1; have := sm.1; omega
    (repeat array_get_dec)
    refine ⟨a, _, D, nx, x, i, rfl, dk, hx, ?_⟩
    (repeat array_get_dec)
    refine w_addS (fit_add (s := mkS t0) (t := mkS u) (a := t0.length) (b := u.length) (Nat.le_of_eq (len_tl _)) (Nat.le_of_eq (len_tl _)) (by omega)) ?_
    (repeat array_get_dec)
    have ep : putK (kvI (D.kept.map sv)) (Sum.inl ((i : Nat) : Int)) (.str (mkS t0 ++ mkS u)) = kvI ((syncD D i).kept.map sv) := by
      rw [kvI_put (by rw [List.length_map]; exact hik), mkS_app]
      unfold syncD
      rw [List.map_set, er]
    have eq : putK (kvI (D.late.map sv)) (Sum.inl ((i : Nat) : Int)) (.str (Str.ofString "")) = kvI ((syncD D i).late.map sv) := by
      rw [kvI_put (by rw [List.length_map]; exact hil)]
      unfold syncD
      rw [List.map_set]; rfl
    rw [ep, eq]
    exact q _ ⟨k, l, n, sa, c, su, cv, rfl, ⟨nd0, ⟨dx, by ((repeat (first | with_reducible exact upd_same | with_reducible refine (upd_ne (by first | assumption | (apply Ne.symm; assumption))).trans ?_)); (try (first | assumption | exact upd_same)))⟩, by ((repeat (first | with_reducible exact upd_same | with_reducible refine (upd_ne (by first | assumption | (apply Ne.symm; assumption))).trans ?_)); (try (first | assumption | exact upd_same))), upd_same, by ((repeat (first | with_reducible exact upd_same | with_reducible refine (upd_ne (by first | assumption | (apply Ne.symm; assumption))).trans ?_)); (try (first | assumption | exact upd_same))), by ((repeat (first | with_reducible exact upd_same | with_reducible refine (upd_ne (by first | assumption | (apply Ne.symm; assumption))).trans ?_)); (try (first | assumption | exact upd_same))), by ((repeat (first | with_reducible exact upd_same | with_reducible refine (upd_ne (by first | assumption | (apply Ne.symm; assumption))).trans ?_)); (try (first | assumption | exact upd_same))), cl, sm2⟩⟩ (((Fr.refl _ H).put (by simp)).put (by simp))
theorem ok_Disk_cut (M : Nms K mg) : FnOk P w K mg base CX0 3 M.a_Disk_cut M.d_Disk_cut ["self", "name", "size"] (spCutD M.CD) := by
  refine M.F_Disk_cut.ok sc_Disk_cut (fun vs H Q E h => ?_) (fun cdv A outer s H vs Q E hr h => ?_)
  · obtain ⟨a, fp, D, nx, x, i, m, rfl, _⟩ := h
    rfl
  · have hu := hu1 hr
    have clD := M.clD
    have clL := M.clL
    have nD_kept := M.nD_kept
    have nD_late := M.nD_late
    have nD_names := M.nD_names
    have nD_sure := M.nD_sure
    have nD_changes := M.nD_changes
    have nD_next := M.nD_next
    have nL_disk := M.nL_disk
    have nL_most := M.nL_most
    have nL_parts := M.nL_parts
    have nL_sure := M.nL_sure
    refine ⟨_, (pss_cons (ps_set (i := 3) sc_Disk_cut.nd rfl (Or.inl rfl) (pe_meth (pv 0) M.clD M.m_Disk__file (ok_Disk__file M) (hr.mono (by decide)) M.b_Disk__file .nil pass0 (pa_cons (pv 1) pa_nil)))
    (pss_cons (ps_if (pt_not (pt_val (pe_call (ok_is_number M) (hr.mono (by decide)) rfl M.g_is_number M.k_is_number M.b_is_number .nil pass0 (pa_cons (pv 2) (pa_cons pe_int (pa_cons (pe_callB call_len (by rfl) M.T.b_len (by decide +kernel) (pa_cons (pe_meth (pv 0) M.clD M.m_Disk_read (ok_Disk_read M) (hr.mono (by decide)) M.b_Disk_read .nil pass0 (pa_cons (pv 1) pa_nil)) pa_nil)) pa_nil)))))) (pss_one ps_never) pss_nil)
    (pss_cons (ps_dput hu (pe_fld (pv 0) rfl) (pv 3) (pe_slice sl_str (pe_meth (pv 0) M.clD M.m_Disk_read (ok_Disk_read M) (hr.mono (by decide)) M.b_Disk_read .nil pass0 (pa_cons (pv 1) pa_nil)) po_none (po_some (pv 2))) rfl)
    (pss_one (ps_dput hu (pe_fld (pv 0) rfl) (pv 3) pe_str rfl))))), ?_⟩
    try dsimp only [cxOf, Cx.nox]
    obtain ⟨a, fp, D, nx, x, i, m, rfl, dk, hx, hm, sm2, q⟩ := h
    have dk' := dk
    obtain ⟨k, l, n, sa, c, su, cv, rfl, ⟨nd, ⟨dx, hi⟩, hk, hl, hn, hs, hc, cl, sm⟩⟩ := dk'
    have nd0 := nd
    simp only [List.nodup_cons, List.mem_cons, List.not_mem_nil, or_false, not_or] at nd
    obtain ⟨⟨n1, n2, n3, n4, n5⟩, ⟨n6, n7, n8, n9⟩, ⟨n10, n11, n12⟩, ⟨n13, n14⟩, n15, _⟩ := nd
    refine w_start (σ' := [some (.ref a), some (.str (mkS x)), some (.int (m : Int)), none]) rfl ?_
    obtain ⟨t0, u, g1, g2, b1, b2, er⟩ := texts_at sm hx
    have hik : i < D.kept.length := (List.getElem?_eq_some_iff.mp g1).1
    have hil : i < D.late.length := (List.getElem?_eq_some_iff.mp g2).1
    have z1 : (kvI (D.kept.map sv)).length < sizeLine := by rw [kvI_len, List.length_map, sizeLine_eq]; have := sm.2.1; omega
    have z2 : (kvI (D.late.map sv)).length < sizeLine := by rw [kvI_len, List.length_map, sizeLine_eq]; have := sm.2.1; have := sm.1; omega
    have lr : (readD D i).length ≤ 800000 := by rw [er, List.length_append]; omega
    have hz : (mkS (readD D i)).length ≤ sizeLine := by rw [sizeLine_eq, len_tl]; show (readD D i).length ≤ _; omega
    (repeat array_get_dec)
    refine ⟨a, _, D, nx, x, i, rfl, dk, hx, ?_⟩
    (repeat array_get_dec)
    refine ⟨a, _, D, nx, x, i, rfl, dk, hx, ?_⟩
    (repeat array_get_dec)
    refine ⟨_, _, .inl ⟨_, rfl, ?_⟩⟩
    (repeat array_get_dec)
    have eb : (decide ((0 : Int) ≤ (m : Int)) && decide ((m : Int) ≤ (((mkS (readD D i)).length : Nat) : Int))) = true := by
      rw [Bool.and_eq_true, decide_eq_true_eq, decide_eq_true_eq, len_tl]
      exact ⟨Int.natCast_nonneg _, by show (m : Int) ≤ (((readD D i).length : Nat) : Int); omega⟩
    rw [eb]
    (repeat array_get_dec)
    refine ⟨a, _, D, nx, x, i, rfl, dk, hx, ?_⟩
    (repeat array_get_dec)
    rw [cut_pre]
    have ep : putK (kvI (D.kept.map sv)) (Sum.inl ((i : Nat) : Int)) (.str (mkS ((tl (mkS (readD D i))).take m))) = kvI ((cutD D i m).kept.map sv) := by
      rw [kvI_put (by rw [List.length_map]; exact hik)]
      unfold cutD
      rw [List.map_set]
      try rfl
    have eq : putK (kvI (D.late.map sv)) (Sum.inl ((i : Nat) : Int)) (.str (Str.ofString "")) = kvI ((cutD D i m).late.map sv) := by
      rw [kvI_put (by rw [List.length_map]; exact hil)]
      unfold cutD
      rw [List.map_set]; rfl
    rw [ep, eq]
    exact q _ ⟨k, l, n, sa, c, su, cv, rfl, ⟨nd0, ⟨dx, by ((repeat (first | with_reducible exact upd_same | with_reducible refine (upd_ne (by first | assumption | (apply Ne.symm; assumption))).trans ?_)); (try (first | assumption | exact upd_same)))⟩, by ((repeat (first | with_reducible exact upd_same | with_reducible refine (upd_ne (by first | assumption | (apply Ne.symm; assumption))).trans ?_)); (try (first | assumption | exact upd_same))), upd_same, by ((repeat (first | with_reducible exact upd_same | with_reducible refine (upd_ne (by first | assumption | (apply Ne.symm; assumption))).trans ?_)); (try (first | assumption | exact upd_same))), by ((repeat (first | with_reducible exact upd_same | with_reducible refine (upd_ne (by first | assumption | (apply Ne.symm; assumption))).trans ?_)); (try (first | assumption | exact upd_same))), by ((repeat (first | with_reducible exact upd_same | with_reducible refine (upd_ne (by first | assumption | (apply Ne.symm; assumption))).trans ?_)); (try (first | assumption | exact upd_same))), cl, sm2⟩⟩ (((Fr.refl _ H).put (by simp)).put (by simp))
theorem ok_Disk_remove (M : Nms K mg) : FnOk P w K mg base CX0 3 M.a_Disk_remove M.d_Disk_remove ["self", "name"] (spRemoveD M.CD) := by
  refine M.F_Disk_remove.ok sc_Disk_remove (fun vs H Q E h => ?_) (fun cdv A outer s H vs Q E hr h => ?_)
  · obtain ⟨a, fp, D, nx, x, i, rfl, _⟩ := h
    rfl
  · have hu := hu1 hr
    have clD := M.clD
    have clL := M.clL
    have nD_kept := M.nD_kept
    have nD_late := M.nD_late
    have nD_names := M.nD_names
    have nD_sure := M.nD_sure
    have nD_changes := M.nD_changes
    have nD_next := M.nD_next
    have nL_disk := M.nL_disk
    have nL_most := M.nL_most
    have nL_parts := M.nL_parts
    have nL_sure := M.nL_sure
    refine ⟨_, (pss_cons (ps_expr (pe_meth (pv 0) M.clD M.m_Disk__file (ok_Disk__file M) (hr.mono (by decide)) M.b_Disk__file .nil pass0 (pa_cons (pv 1) pa_nil)))
    (pss_one (ps_expr (pe_meth (pv 0) M.clD M.m_Disk__change (ok_Disk__change M) (hr.mono (by decide)) M.b_Disk__change .nil pass0 (pa_cons (pe_tup (pa_cons pe_str (pa_cons (pv 1) (pa_cons pe_int pa_nil)))) pa_nil))))), ?_⟩
    try dsimp only [cxOf, Cx.nox]
    obtain ⟨a, fp, D, nx, x, i, rfl, dk, hx, sm2, q⟩ := h
    have dh := dk.has
    have dk' := dk
    obtain ⟨k, l, n, sa, c, su, cv, rfl, ⟨nd, ⟨dx, hi⟩, hk, hl, hn, hs, hc, cl, sm⟩⟩ := dk'
    refine w_start (σ' := [some (.ref a), some (.str (mkS x))]) rfl ?_
    (repeat array_get_dec)
    refine ⟨a, _, D, nx, x, i, rfl, dk, hx, ?_⟩
    (repeat array_get_dec)
    refine ⟨by show 3 ≤ sizeLine; decide, fun t ht => ?_⟩
    (repeat array_get_dec)
    refine ⟨a, t, _, D, nx, _, Str.ofString "remove", x, 0, rfl, dk.same (same_upd (Same.refl _) ht), upd_same, fun z => dh t z ht, ?_, sm2, fun H' fp' dk2 fr => ?_⟩
    · unfold chg
      rw [if_neg (by decide +kernel), if_pos rfl, hx]; rfl
    (repeat array_get_dec)
    exact q _ fp' dk2 (((Fr.refl _ H).neu ht).trans fr)
end
end K53

namespace K53
open PySem PySem.Spec PyProof.Rows L2
local macro_rules | `(tactic| array_mem_dec) => `(tactic| first | with_reducible assumption | with_reducible exact upd_same | ((with_reducible apply same_at); (with_reducible assumption); array_mem_dec) | ((with_reducible apply upd_atN); (with_reducible assumption); array_mem_dec) | ((with_reducible apply upd_at); (first | with_reducible assumption | (apply Ne.symm; with_reducible assumption)); array_mem_dec))
local macro_rules | `(tactic| array_get_dec) => `(tactic| first | (with_reducible refine w_seq ?_) | (with_reducible refine w_asg ?_) | (with_reducible refine w_drop ?_) | (with_reducible refine w_ret ?_) | (with_reducible refine w_retN ?_) | (with_reducible refine w_next ?_) | (with_reducible refine w_break ?_) | (with_reducible refine w_cont ?_) | (with_reducible refine w_ifS ?_) | (with_reducible refine w_sub ?_) | (with_reducible refine w_c ?_) | (with_reducible refine w_op ?_) | (with_reducible refine w_un ?_) | (with_reducible refine w_test ?_) | (with_reducible refine w_B ?_) | (with_reducible refine w_yes ?_) | (with_reducible refine w_not ?_) | (with_reducible refine w_and ?_) | (with_reducible refine w_or ?_) | (with_reducible refine w_andV ?_) | (with_reducible refine w_orV ?_) | (with_reducible refine w_notV ?_) | (with_reducible refine w_ifE ?_) | (with_reducible refine w_nil ?_) | (with_reducible refine w_cons ?_) | (with_reducible refine w_call ?_) | (with_reducible refine w_callS ?_) | (with_reducible refine w_cB ?_) | (with_reducible refine w_lst ?_) | (with_reducible refine w_tup ?_) | (with_reducible refine w_sl ?_) | (with_reducible refine w_noPart ?_) | (with_reducible refine w_part ?_) | (with_reducible refine w_bm ?_) | (with_reducible refine w_bm0 ?_) | (with_reducible refine w_strTy ?_) | (with_reducible refine w_bl ?_) | (with_reducible refine w_int1 ?_) | (with_reducible refine w_str1 ?_) | (with_reducible refine w_rI0 ?_) | (with_reducible refine w_rU ?_) | (with_reducible refine w_eqI ?_) | (with_reducible refine w_eqS ?_) | (with_reducible refine w_neI ?_) | (with_reducible refine w_neS ?_) | (with_reducible refine w_bl2 ?_) | (with_reducible refine w_isN ?_) | (with_reducible refine w_for ?_) | (with_reducible refine w_iRng1 ?_) | (with_reducible refine w_iRng2 ?_) | (with_reducible refine w_iList ?_) | (with_reducible refine w_iTup ?_) | (with_reducible refine w_iStr ?_) | (with_reducible refine w_lc ?_) | (with_reducible refine w_M1 ?_) | (with_reducible refine w_M0 ?_) | (with_reducible refine w_isS ?_) | ((with_reducible apply w_name); (simp only [wipe, List.map_cons, List.map_nil, List.foldl_cons, List.foldl_nil, List.set_cons_zero, List.set_cons_succ]; exact rfl)) | ((with_reducible apply w_var); exact rfl) | ((with_reducible apply w_lstTy); array_mem_dec) | ((with_reducible apply w_lenL); array_mem_dec) | ((with_reducible apply w_lenT); array_mem_dec) | ((with_reducible apply w_listOf); array_mem_dec) | ((with_reducible apply w_lenS); (first | (with_reducible assumption) | omega | (rw [sizeLine_eq]; omega))) | ((with_reducible apply w_slS); (first | (with_reducible assumption) | omega | (rw [sizeLine_eq]; omega))) | ((with_reducible apply w_wipe); exact rfl) | ((with_reducible apply w_acc); array_mem_dec; (try (first | (with_reducible assumption) | omega | (rw [sizeLine_eq]; omega)))) | ((with_reducible apply w_itl); array_mem_dec) | ((with_reducible apply w_itt); array_mem_dec) | ((with_reducible apply w_append); array_mem_dec; (try (first | (with_reducible assumption) | omega | (rw [sizeLine_eq]; omega)))) | ((with_reducible apply w_rng1); (first | (with_reducible assumption) | omega); (first | (with_reducible assumption) | omega)) | ((with_reducible apply w_ixL); array_mem_dec; (first | (with_reducible assumption) | exact rfl | (apply atI_nat; (with_reducible assumption)) | exact atI_last _ _)) | ((with_reducible apply w_ixT); array_mem_dec; (first | (with_reducible assumption) | exact rfl | (apply atI_nat; (with_reducible assumption)) | exact atI_last _ _)) | ((with_reducible apply w_iT); first | exact rfl | (with_reducible assumption)) | ((with_reducible apply w_iF); first | exact rfl | (with_reducible assumption)) | ((with_reducible apply w_isiI (b := true)); decide +kernel) | ((with_reducible apply w_isiI (b := false)); decide +kernel) | ((with_reducible apply w_isiB (b := true)); decide +kernel) | ((with_reducible apply w_isiB (b := false)); decide +kernel) | ((with_reducible apply w_isiS (b := true)); decide +kernel) | ((with_reducible apply w_isiS (b := false)); decide +kernel) | ((with_reducible apply w_isiN (b := true)); decide +kernel) | ((with_reducible apply w_isiN (b := false)); decide +kernel) | ((with_reducible apply w_isiL (b := true)); array_mem_dec; decide +kernel) | ((with_reducible apply w_isiL (b := false)); array_mem_dec; decide +kernel) | ((with_reducible apply w_isiT (b := true)); array_mem_dec; decide +kernel) | ((with_reducible apply w_isiT (b := false)); array_mem_dec; decide +kernel) | (with_reducible refine w_notT ?_) | (with_reducible refine w_chain ?_) | ((with_reducible apply w_trL); array_mem_dec) | ((with_reducible apply w_gTup); array_mem_dec; exact rfl) | ((with_reducible apply w_gLst); array_mem_dec; exact rfl) | (with_reducible refine w_gCons ?_) | (with_reducible refine w_gNil ?_) | (with_reducible refine w_Fld ?_) | (with_reducible refine w_sFld ?_) | (with_reducible refine w_dget ?_) | (with_reducible refine w_dIn ?_) | (with_reducible refine w_dNotIn ?_) | (with_reducible refine w_sDPut ?_) | (with_reducible refine w_dnewK ?_) | (with_reducible refine w_meth ?_) | (with_reducible refine w_make ?_) | (with_reducible refine w_methS ?_) | (with_reducible refine w_makeS ?_) | (with_reducible refine w_dpop ?_) | ((with_reducible apply w_fld1); array_mem_dec; (with_reducible assumption); (with_reducible assumption); exact rfl) | ((with_reducible apply w_sfld1); array_mem_dec; (with_reducible assumption); (with_reducible assumption); exact Nat.le_of_ble_eq_true rfl) | ((with_reducible apply w_meth1); array_mem_dec; exact rfl) | ((with_reducible apply w_dgetS); array_mem_dec; (with_reducible assumption)) | ((with_reducible apply w_dgetI); array_mem_dec; (with_reducible assumption)) | ((with_reducible apply w_dinS); array_mem_dec) | ((with_reducible apply w_dputI); array_mem_dec; (try (first | (with_reducible assumption) | omega | (rw [sizeLine_eq]; omega)))) | ((with_reducible apply w_dputS); array_mem_dec; (try (first | (with_reducible assumption) | omega | (rw [sizeLine_eq]; omega)))) | ((with_reducible apply w_isD); array_mem_dec) | ((with_reducible apply w_dictD); array_mem_dec) | ((with_reducible apply w_dpopS); array_mem_dec; (with_reducible assumption)))
section
variable {P : Program} {w : World} {K : PySem.W.Frag} {mg : Str → Option Value} {base : Heap}
theorem ok_Disk_sync_names (M : Nms K mg) : FnOk P w K mg base CX0 1 M.a_Disk_sync_names M.d_Disk_sync_names ["self"] (spSyncN M.CD) := by
  refine M.F_Disk_sync_names.ok sc_Disk_sync_names (fun vs H Q E h => ?_) (fun cdv A outer s H vs Q E hr h => ?_)
  · obtain ⟨a, fp, D, nx, rfl, _⟩ := h
    rfl
  · have hu := hu1 hr
    have clD := M.clD
    have clL := M.clL
    have nD_kept := M.nD_kept
    have nD_late := M.nD_late
    have nD_names := M.nD_names
    have nD_sure := M.nD_sure
    have nD_changes := M.nD_changes
    have nD_next := M.nD_next
    have nL_disk := M.nL_disk
    have nL_most := M.nL_most
    have nL_parts := M.nL_parts
    have nL_sure := M.nL_sure
    refine ⟨_, (pss_cons (ps_fld (pv 0) (pe_callTy call_dictD (by rfl) M.T.b_dict (by decide +kernel) (pa_cons (pe_fld (pv 0) rfl) pa_nil)) rfl)
    (pss_one (ps_fld (pv 0) (pe_lst pa_nil) rfl))), ?_⟩
    try dsimp only [cxOf, Cx.nox]
    obtain ⟨a, fp, D, nx, rfl, ⟨k, l, n, sa, c, su, cv, rfl, ⟨nd, ⟨dx, hi⟩, hk, hl, hn, hs, hc, cl, sm⟩⟩, q⟩ := h
    simp only [List.nodup_cons, List.mem_cons, List.not_mem_nil, or_false, not_or] at nd
    obtain ⟨⟨n1, n2, n3, n4, n5⟩, ⟨n6, n7, n8, n9⟩, ⟨n10, n11, n12⟩, ⟨n13, n14⟩, n15, _⟩ := nd
    refine w_start (σ' := [some (.ref a)]) rfl ?_
    (repeat array_get_dec)
    intro p hp
    have d1 := ne_of_none hi hp
    have d2 := ne_of_none hk hp
    have d3 := ne_of_none hl hp
    have d4 := ne_of_none hn hp
    (repeat array_get_dec)
    refine ⟨by show 0 ≤ sizeLine; decide, fun r hr2 => ?_⟩
    have nhr2 := hr2
    obtain ⟨_, nhr2⟩ := hu2 nhr2
    obtain ⟨_, nhr2⟩ := hu2 nhr2
    have c1 := ne_of_none hi nhr2
    have c2 := ne_of_none hk nhr2
    have c3 := ne_of_none hl nhr2
    have c4 := ne_of_none hn nhr2
    (repeat array_get_dec)
    refine q _ [a, k, l, n, p, r] ⟨k, l, n, p, r, _, [], rfl, ⟨(by simp only [List.nodup_cons, List.mem_cons, List.not_mem_nil, or_false, not_or]; refine ⟨⟨?_, ?_, ?_, ?_, ?_⟩, ⟨?_, ?_, ?_, ?_⟩, ⟨?_, ?_, ?_⟩, ⟨?_, ?_⟩, ?_, not_false, List.nodup_nil⟩ <;> first | assumption | (apply Ne.symm; assumption)), ⟨dx, upd_same⟩, by ((repeat (first | with_reducible exact upd_same | with_reducible refine (upd_ne (by first | assumption | (apply Ne.symm; assumption))).trans ?_)); (try (first | assumption | exact upd_same))), by ((repeat (first | with_reducible exact upd_same | with_reducible refine (upd_ne (by first | assumption | (apply Ne.symm; assumption))).trans ?_)); (try (first | assumption | exact upd_same))), by ((repeat (first | with_reducible exact upd_same | with_reducible refine (upd_ne (by first | assumption | (apply Ne.symm; assumption))).trans ?_)); (try (first | assumption | exact upd_same))), by ((repeat (first | with_reducible exact upd_same | with_reducible refine (upd_ne (by first | assumption | (apply Ne.symm; assumption))).trans ?_)); (try (first | assumption | exact upd_same))), by ((repeat (first | with_reducible exact upd_same | with_reducible refine (upd_ne (by first | assumption | (apply Ne.symm; assumption))).trans ?_)); (try (first | assumption | exact upd_same))), rfl, ⟨sm.1, sm.2.1, sm.2.2.1, Nat.zero_le _, sm.2.2.2.2⟩⟩⟩ ⟨(((((Fr.refl _ H).neu hp).put (a := a) (by simp)).neu hr2).put (by simp)).1, fun b m => ?_⟩
    simp only [List.mem_cons, List.not_mem_nil, or_false] at m ⊢
    rcases m with rfl | rfl | rfl | rfl | rfl | rfl
    · exact .inl (by simp)
    · exact .inl (by simp)
    · exact .inl (by simp)
    · exact .inl (by simp)
    · exact .inr hp
    · exact .inr nhr2
theorem ok_Disk___init__ (M : Nms K mg) : FnOk P w K mg base CX0 1 M.a_Disk___init__ M.d_Disk___init__ ["self"] (spInitD M.CD) := by
  refine M.F_Disk___init__.ok sc_Disk___init__ (fun vs H Q E h => ?_) (fun cdv A outer s H vs Q E hr h => ?_)
  · obtain ⟨a, dx, rfl, _⟩ := h
    rfl
  · have hu := hu1 hr
    have clD := M.clD
    have clL := M.clL
    have nD_kept := M.nD_kept
    have nD_late := M.nD_late
    have nD_names := M.nD_names
    have nD_sure := M.nD_sure
    have nD_changes := M.nD_changes
    have nD_next := M.nD_next
    have nL_disk := M.nL_disk
    have nL_most := M.nL_most
    have nL_parts := M.nL_parts
    have nL_sure := M.nL_sure
    refine ⟨_, (pss_cons (ps_fld (pv 0) pe_dnewK rfl)
    (pss_cons (ps_fld (pv 0) pe_dnewK rfl)
    (pss_cons (ps_fld (pv 0) pe_dnewK rfl)
    (pss_cons (ps_fld (pv 0) pe_dnewK rfl)
    (pss_cons (ps_fld (pv 0) (pe_lst pa_nil) rfl)
    (pss_one (ps_fld (pv 0) pe_int rfl))))))), ?_⟩
    try dsimp only [cxOf, Cx.nox]
    obtain ⟨a, dx, rfl, hi, q⟩ := h
    refine w_start (σ' := [some (.ref a)]) rfl ?_
    (repeat array_get_dec)
    intro k hk
    (repeat array_get_dec)
    intro l hl
    have nhl := hl
    obtain ⟨_, nhl⟩ := hu2 nhl
    obtain ⟨_, nhl⟩ := hu2 nhl
    (repeat array_get_dec)
    intro n hn
    have nhn := hn
    obtain ⟨_, nhn⟩ := hu2 nhn
    obtain ⟨_, nhn⟩ := hu2 nhn
    obtain ⟨_, nhn⟩ := hu2 nhn
    obtain ⟨_, nhn⟩ := hu2 nhn
    (repeat array_get_dec)
    intro sa hs
    have nhs := hs
    obtain ⟨_, nhs⟩ := hu2 nhs
    obtain ⟨_, nhs⟩ := hu2 nhs
    obtain ⟨_, nhs⟩ := hu2 nhs
    obtain ⟨_, nhs⟩ := hu2 nhs
    obtain ⟨_, nhs⟩ := hu2 nhs
    obtain ⟨_, nhs⟩ := hu2 nhs
    (repeat array_get_dec)
    refine ⟨by show 0 ≤ sizeLine; decide, fun c hc => ?_⟩
    have nhc := hc
    obtain ⟨_, nhc⟩ := hu2 nhc
    obtain ⟨_, nhc⟩ := hu2 nhc
    obtain ⟨_, nhc⟩ := hu2 nhc
    obtain ⟨_, nhc⟩ := hu2 nhc
    obtain ⟨_, nhc⟩ := hu2 nhc
    obtain ⟨_, nhc⟩ := hu2 nhc
    obtain ⟨_, nhc⟩ := hu2 nhc
    obtain ⟨_, nhc⟩ := hu2 nhc
    have d1 := ne_of_none hi hk
    have d2 := ne_of_none hi nhl
    have d3 := ne_of_none hi nhn
    have d4 := ne_of_none hi nhs
    have d5 := ne_of_none hi nhc
    (repeat array_get_dec)
    refine q _ [a, k, l, n, sa, c] ⟨k, l, n, sa, c, [], [], rfl, ⟨(by simp only [List.nodup_cons, List.mem_cons, List.not_mem_nil, or_false, not_or]; refine ⟨⟨?_, ?_, ?_, ?_, ?_⟩, ⟨?_, ?_, ?_, ?_⟩, ⟨?_, ?_, ?_⟩, ⟨?_, ?_⟩, ?_, not_false, List.nodup_nil⟩ <;> first | assumption | (apply Ne.symm; assumption)), ⟨dx, upd_same⟩, by ((repeat (first | with_reducible exact upd_same | with_reducible refine (upd_ne (by first | assumption | (apply Ne.symm; assumption))).trans ?_)); (try (first | assumption | exact upd_same))), by ((repeat (first | with_reducible exact upd_same | with_reducible refine (upd_ne (by first | assumption | (apply Ne.symm; assumption))).trans ?_)); (try (first | assumption | exact upd_same))), by ((repeat (first | with_reducible exact upd_same | with_reducible refine (upd_ne (by first | assumption | (apply Ne.symm; assumption))).trans ?_)); (try (first | assumption | exact upd_same))), by ((repeat (first | with_reducible exact upd_same | with_reducible refine (upd_ne (by first | assumption | (apply Ne.symm; assumption))).trans ?_)); (try (first | assumption | exact upd_same))), by ((repeat (first | with_reducible exact upd_same | with_reducible refine (upd_ne (by first | assumption | (apply Ne.symm; assumption))).trans ?_)); (try (first | assumption | exact upd_same))), rfl, by decide⟩⟩ ⟨(Fr.refl [a] H |>.neu hk |>.put (a := a) (by simp) |>.neu hl |>.put (a := a) (by simp) |>.neu hn |>.put (a := a) (by simp) |>.neu hs |>.put (a := a) (by simp) |>.neu hc |>.put (a := a) (by simp) |>.put (by simp)).1, fun b m => ?_⟩
    simp only [List.mem_cons, List.not_mem_nil, or_false] at m ⊢
    rcases m with rfl | rfl | rfl | rfl | rfl | rfl
    · exact .inl rfl
    · exact .inr hk
    · exact .inr nhl
    · exact .inr nhn
    · exact .inr nhs
    · exact .inr nhc
theorem ok_Disk_copy (M : Nms K mg) : FnOk P w K mg base CX0 3 M.a_Disk_copy M.d_Disk_copy ["self"] (spCopyD M.CD) := by
  refine M.F_Disk_copy.ok sc_Disk_copy (fun vs H Q E h => ?_) (fun cdv A outer s H vs Q E hr h => ?_)
  · obtain ⟨a, fp, D, nx, rfl, _⟩ := h
    rfl
  · have hu := hu1 hr
    have clD := M.clD
    have clL := M.clL
    have nD_kept := M.nD_kept
    have nD_late := M.nD_late
    have nD_names := M.nD_names
    have nD_sure := M.nD_sure
    have nD_changes := M.nD_changes
    have nD_next := M.nD_next
    have nL_disk := M.nL_disk
    have nL_most := M.nL_most
    have nL_parts := M.nL_parts
    have nL_sure := M.nL_sure
    refine ⟨_, (pss_cons (ps_set (i := 1) sc_Disk_copy.nd rfl (Or.inl rfl) (pe_make0 M.mkD (ok_Disk___init__ M) (hr.mono (by decide)) rfl M.gD M.b_Disk___init__ .nil pass0))
    (pss_cons (ps_fld (pv 1) (pe_callTy call_dictD (by rfl) M.T.b_dict (by decide +kernel) (pa_cons (pe_fld (pv 0) rfl) pa_nil)) rfl)
    (pss_cons (ps_fld (pv 1) (pe_callTy call_dictD (by rfl) M.T.b_dict (by decide +kernel) (pa_cons (pe_fld (pv 0) rfl) pa_nil)) rfl)
    (pss_cons (ps_fld (pv 1) (pe_callTy call_dictD (by rfl) M.T.b_dict (by decide +kernel) (pa_cons (pe_fld (pv 0) rfl) pa_nil)) rfl)
    (pss_cons (ps_fld (pv 1) (pe_callTy call_dictD (by rfl) M.T.b_dict (by decide +kernel) (pa_cons (pe_fld (pv 0) rfl) pa_nil)) rfl)
    (pss_cons (ps_fld (pv 1) (pe_callTy call_list_of (by rfl) M.T.b_list (by decide +kernel) (pa_cons (pe_fld (pv 0) rfl) pa_nil)) rfl)
    (pss_cons (ps_fld (pv 1) (pe_fld (pv 0) rfl) rfl)
    (pss_one (ps_ret (pv 1)))))))))), ?_⟩
    try dsimp only [cxOf, Cx.nox]
    obtain ⟨a, fp, D, nx, rfl, ⟨k, l, n, sa, c, su, cv, rfl, ⟨nd, ⟨dx, hi⟩, hk, hl, hn, hs, hc, cl, sm⟩⟩, q⟩ := h
    refine w_start (σ' := [some (.ref a), none]) rfl ?_
    (repeat array_get_dec)
    intro b db hb hdb hne
    refine ⟨b, db, rfl, upd_same, fun H1 fp1 dk1 fr1 => ⟨rfl, ?_⟩⟩
    have s1 : Same H H1 := fun x o e => fr1.keep (by rw [upd_ne (ne_of_none e hb), upd_ne (ne_of_none e hdb)]; exact e) (by simp; exact ne_of_none e hb)
    obtain ⟨k0, l0, n0, sa0, c0, su0, cv0, rfl, ⟨nd1, ⟨dx1, gi⟩, _⟩⟩ := dk1
    have q1 := (ne_of_none hi hb).symm
    have q2 := (ne_of_none hk hb).symm
    have q3 := (ne_of_none hl hb).symm
    have q4 := (ne_of_none hn hb).symm
    have q5 := (ne_of_none hs hb).symm
    have q6 := (ne_of_none hc hb).symm
    have frees : ∀ x, H1 x = none → H x = none := fun x e => by
      cases e2 : H x with
      | none => rfl
      | some o => rw [s1 _ _ e2] at e; cases e
    replace hi := s1 _ _ hi
    replace hk := s1 _ _ hk
    replace hl := s1 _ _ hl
    replace hn := s1 _ _ hn
    replace hs := s1 _ _ hs
    replace hc := s1 _ _ hc
    (repeat array_get_dec)
    intro k2 hk2
    have e1 := ne_of_none gi hk2
    (repeat array_get_dec)
    intro l2 hl2
    have nhl2 := hl2
    obtain ⟨_, nhl2⟩ := hu2 nhl2
    obtain ⟨_, nhl2⟩ := hu2 nhl2
    (repeat array_get_dec)
    intro n2 hn2
    have nhn2 := hn2
    obtain ⟨_, nhn2⟩ := hu2 nhn2
    obtain ⟨_, nhn2⟩ := hu2 nhn2
    obtain ⟨_, nhn2⟩ := hu2 nhn2
    obtain ⟨_, nhn2⟩ := hu2 nhn2
    (repeat array_get_dec)
    intro s2 hs2
    have nhs2 := hs2
    obtain ⟨_, nhs2⟩ := hu2 nhs2
    obtain ⟨_, nhs2⟩ := hu2 nhs2
    obtain ⟨_, nhs2⟩ := hu2 nhs2
    obtain ⟨_, nhs2⟩ := hu2 nhs2
    obtain ⟨_, nhs2⟩ := hu2 nhs2
    obtain ⟨_, nhs2⟩ := hu2 nhs2
    (repeat array_get_dec)
    intro c2 hc2
    have nhc2 := hc2
    obtain ⟨_, nhc2⟩ := hu2 nhc2
    obtain ⟨_, nhc2⟩ := hu2 nhc2
    obtain ⟨_, nhc2⟩ := hu2 nhc2
    obtain ⟨_, nhc2⟩ := hu2 nhc2
    obtain ⟨_, nhc2⟩ := hu2 nhc2
    obtain ⟨_, nhc2⟩ := hu2 nhc2
    obtain ⟨_, nhc2⟩ := hu2 nhc2
    obtain ⟨_, nhc2⟩ := hu2 nhc2
    have d1 := ne_of_none gi nhl2
    have d2 := ne_of_none gi nhn2
    have d3 := ne_of_none gi nhs2
    have d4 := ne_of_none gi nhc2
    (repeat array_get_dec)
    refine q b _ [b, k2, l2, n2, s2, c2] ⟨k2, l2, n2, s2, c2, su, cv, rfl, ⟨(by simp only [List.nodup_cons, List.mem_cons, List.not_mem_nil, or_false, not_or]; refine ⟨⟨?_, ?_, ?_, ?_, ?_⟩, ⟨?_, ?_, ?_, ?_⟩, ⟨?_, ?_, ?_⟩, ⟨?_, ?_⟩, ?_, not_false, List.nodup_nil⟩ <;> first | assumption | (apply Ne.symm; assumption)), ⟨dx1, upd_same⟩, by ((repeat (first | with_reducible exact upd_same | with_reducible refine (upd_ne (by first | assumption | (apply Ne.symm; assumption))).trans ?_)); (try (first | assumption | exact upd_same))), by ((repeat (first | with_reducible exact upd_same | with_reducible refine (upd_ne (by first | assumption | (apply Ne.symm; assumption))).trans ?_)); (try (first | assumption | exact upd_same))), by ((repeat (first | with_reducible exact upd_same | with_reducible refine (upd_ne (by first | assumption | (apply Ne.symm; assumption))).trans ?_)); (try (first | assumption | exact upd_same))), by ((repeat (first | with_reducible exact upd_same | with_reducible refine (upd_ne (by first | assumption | (apply Ne.symm; assumption))).trans ?_)); (try (first | assumption | exact upd_same))), by ((repeat (first | with_reducible exact upd_same | with_reducible refine (upd_ne (by first | assumption | (apply Ne.symm; assumption))).trans ?_)); (try (first | assumption | exact upd_same))), cl, sm⟩⟩ (fun x o e => (Fr.refl [b] H1 |>.neu hk2 |>.put (a := b) (by simp) |>.neu hl2 |>.put (a := b) (by simp) |>.neu hn2 |>.put (a := b) (by simp) |>.neu hs2 |>.put (a := b) (by simp) |>.neu hc2 |>.put (a := b) (by simp) |>.put (a := b) (by simp)).1 x o (s1 x o e) (by simp; exact ne_of_none e hb)) fun x m => ?_
    simp only [List.mem_cons, List.not_mem_nil, or_false] at m
    rcases m with rfl | rfl | rfl | rfl | rfl | rfl
    · exact hb
    · exact frees _ hk2
    · exact frees _ nhl2
    · exact frees _ nhn2
    · exact frees _ nhs2
    · exact frees _ nhc2
end
end K53

namespace K53
open PySem PySem.Spec PyProof.Rows L2
local macro_rules | `(tactic| array_mem_dec) => `(tactic| first | with_reducible assumption | with_reducible exact upd_same | ((with_reducible apply same_at); (with_reducible assumption); array_mem_dec) | ((with_reducible apply upd_atN); (with_reducible assumption); array_mem_dec) | ((with_reducible apply upd_at); (first | with_reducible assumption | (apply Ne.symm; with_reducible assumption)); array_mem_dec))
local macro_rules | `(tactic| array_get_dec) => `(tactic| first | (with_reducible refine w_seq ?_) | (with_reducible refine w_asg ?_) | (with_reducible refine w_drop ?_) | (with_reducible refine w_ret ?_) | (with_reducible refine w_retN ?_) | (with_reducible refine w_next ?_) | (with_reducible refine w_break ?_) | (with_reducible refine w_cont ?_) | (with_reducible refine w_ifS ?_) | (with_reducible refine w_sub ?_) | (with_reducible refine w_c ?_) | (with_reducible refine w_op ?_) | (with_reducible refine w_un ?_) | (with_reducible refine w_test ?_) | (with_reducible refine w_B ?_) | (with_reducible refine w_yes ?_) | (with_reducible refine w_not ?_) | (with_reducible refine w_and ?_) | (with_reducible refine w_or ?_) | (with_reducible refine w_andV ?_) | (with_reducible refine w_orV ?_) | (with_reducible refine w_notV ?_) | (with_reducible refine w_ifE ?_) | (with_reducible refine w_nil ?_) | (with_reducible refine w_cons ?_) | (with_reducible refine w_call ?_) | (with_reducible refine w_callS ?_) | (with_reducible refine w_cB ?_) | (with_reducible refine w_lst ?_) | (with_reducible refine w_tup ?_) | (with_reducible refine w_sl ?_) | (with_reducible refine w_noPart ?_) | (with_reducible refine w_part ?_) | (with_reducible refine w_bm ?_) | (with_reducible refine w_bm0 ?_) | (with_reducible refine w_strTy ?_) | (with_reducible refine w_bl ?_) | (with_reducible refine w_int1 ?_) | (with_reducible refine w_str1 ?_) | (with_reducible refine w_rI0 ?_) | (with_reducible refine w_rU ?_) | (with_reducible refine w_eqI ?_) | (with_reducible refine w_eqS ?_) | (with_reducible refine w_neI ?_) | (with_reducible refine w_neS ?_) | (with_reducible refine w_bl2 ?_) | (with_reducible refine w_isN ?_) | (with_reducible refine w_for ?_) | (with_reducible refine w_iRng1 ?_) | (with_reducible refine w_iRng2 ?_) | (with_reducible refine w_iList ?_) | (with_reducible refine w_iTup ?_) | (with_reducible refine w_iStr ?_) | (with_reducible refine w_lc ?_) | (with_reducible refine w_M1 ?_) | (with_reducible refine w_M0 ?_) | (with_reducible refine w_isS ?_) | ((with_reducible apply w_name); (simp only [wipe, List.map_cons, List.map_nil, List.foldl_cons, List.foldl_nil, List.set_cons_zero, List.set_cons_succ]; exact rfl)) | ((with_reducible apply w_var); exact rfl) | ((with_reducible apply w_lstTy); array_mem_dec) | ((with_reducible apply w_lenL); array_mem_dec) | ((with_reducible apply w_lenT); array_mem_dec) | ((with_reducible apply w_listOf); array_mem_dec) | ((with_reducible apply w_lenS); (first | (with_reducible assumption) | omega | (rw [sizeLine_eq]; omega))) | ((with_reducible apply w_slS); (first | (with_reducible assumption) | omega | (rw [sizeLine_eq]; omega))) | ((with_reducible apply w_wipe); exact rfl) | ((with_reducible apply w_acc); array_mem_dec; (try (first | (with_reducible assumption) | omega | (rw [sizeLine_eq]; omega)))) | ((with_reducible apply w_itl); array_mem_dec) | ((with_reducible apply w_itt); array_mem_dec) | ((with_reducible apply w_append); array_mem_dec; (try (first | (with_reducible assumption) | omega | (rw [sizeLine_eq]; omega)))) | ((with_reducible apply w_rng1); (first | (with_reducible assumption) | omega); (first | (with_reducible assumption) | omega)) | ((with_reducible apply w_ixL); array_mem_dec; (first | (with_reducible assumption) | exact rfl | (apply atI_nat; (with_reducible assumption)) | exact atI_last _ _)) | ((with_reducible apply w_ixT); array_mem_dec; (first | (with_reducible assumption) | exact rfl | (apply atI_nat; (with_reducible assumption)) | exact atI_last _ _)) | ((with_reducible apply w_iT); first | exact rfl | (with_reducible assumption)) | ((with_reducible apply w_iF); first | exact rfl | (with_reducible assumption)) | ((with_reducible apply w_isiI (b := true)); decide +kernel) | ((with_reducible apply w_isiI (b := false)); decide +kernel) | ((with_reducible apply w_isiB (b := true)); decide +kernel) | ((with_reducible apply w_isiB (b := false)); decide +kernel) | ((with_reducible apply w_isiS (b := true)); decide +kernel) | ((with_reducible apply w_isiS (b := false)); decide +kernel) | ((with_reducible apply w_isiN (b := true)); decide +kernel) | ((with_reducible apply w_isiN (b := false)); decide +kernel) | ((with_reducible apply w_isiL (b := true)); array_mem_dec; decide +kernel) | ((with_reducible apply w_isiL (b := false)); array_mem_dec; decide +kernel) | ((with_reducible apply w_isiT (b := true)); array_mem_dec; decide +kernel) | ((with_reducible apply w_isiT (b := false)); array_mem_dec; decide +kernel) | (with_reducible refine w_notT ?_) | (with_reducible refine w_chain ?_) | ((with_reducible apply w_trL); array_mem_dec) | ((with_reducible apply w_gTup); array_mem_dec; exact rfl) | ((with_reducible apply w_gLst); array_mem_dec; exact rfl) | (with_reducible refine w_gCons ?_) | (with_reducible refine w_gNil ?_) | (with_reducible refine w_Fld ?_) | (with_reducible refine w_sFld ?_) | (with_reducible refine w_dget ?_) | (with_reducible refine w_dIn ?_) | (with_reducible refine w_dNotIn ?_) | (with_reducible refine w_sDPut ?_) | (with_reducible refine w_dnewK ?_) | (with_reducible refine w_meth ?_) | (with_reducible refine w_make ?_) | (with_reducible refine w_methS ?_) | (with_reducible refine w_makeS ?_) | (with_reducible refine w_dpop ?_) | ((with_reducible apply w_fld1); array_mem_dec; (with_reducible assumption); (with_reducible assumption); exact rfl) | ((with_reducible apply w_sfld1); array_mem_dec; (with_reducible assumption); (with_reducible assumption); exact Nat.le_of_ble_eq_true rfl) | ((with_reducible apply w_meth1); array_mem_dec; exact rfl) | ((with_reducible apply w_dgetS); array_mem_dec; (with_reducible assumption)) | ((with_reducible apply w_dgetI); array_mem_dec; (with_reducible assumption)) | ((with_reducible apply w_dinS); array_mem_dec) | ((with_reducible apply w_dputI); array_mem_dec; (try (first | (with_reducible assumption) | omega | (rw [sizeLine_eq]; omega)))) | ((with_reducible apply w_dputS); array_mem_dec; (try (first | (with_reducible assumption) | omega | (rw [sizeLine_eq]; omega)))) | ((with_reducible apply w_isD); array_mem_dec) | ((with_reducible apply w_dictD); array_mem_dec) | ((with_reducible apply w_dpopS); array_mem_dec; (with_reducible assumption)))
/-! ### logs as data -/
abbrev PL := List (Nat × List (List Nat))
def lF (d p : Addr) (most sure : Nat) : List (Str × V) := [("_disk", .ref d), ("_most", .int (most : Int)), ("_parts", .ref p), ("_sure", .int (sure : Int))]
def rfp (rows : List (Addr × Addr)) : List Addr := rows.flatMap fun r => [r.1, r.2]
theorem rfp_app (xs ys : List (Addr × Addr)) : rfp (xs ++ ys) = rfp xs ++ rfp ys := List.flatMap_append
theorem mem_rfp {rows : List (Addr × Addr)} {b : Addr} : b ∈ rfp rows ↔ ∃ r ∈ rows, b = r.1 ∨ b = r.2 := by
  unfold rfp
  simp
structure LogP (CL : Addr) (H : Hp) (a p d : Addr) (rows : List (Addr × Addr)) (L : PL) (most sure : Nat) : Prop where
  nd : (a :: p :: rfp rows).Nodup
  ins : ∃ dx, H a = some (.ins CL dx (lF d p most sure))
  hp : H p = some (.lst (rows.map fun r => V.ref r.1))
  len : rows.length = L.length
  row : ∀ (i : Nat) (r : Addr × Addr) (q : Nat × List (List Nat)), rows[i]? = some r → L[i]? = some q → H r.1 = some (.lst [.int (q.1 : Int), .ref r.2]) ∧ H r.2 = some (.lst (vT q.2))
  sm : L.length ≤ 40 ∧ ∀ q ∈ L, q.2.length ≤ 1000000
def LogAt (CL : Addr) (H : Hp) (a : Addr) (fp : List Addr) (d : Addr) (L : PL) (most sure : Nat) : Prop := ∃ p rows, fp = a :: p :: rfp rows ∧ LogP CL H a p d rows L most sure
section
variable {CL : Addr} {H H' : Hp} {a p d : Addr} {rows : List (Addr × Addr)} {L : PL} {most sure : Nat} {fp : List Addr}
theorem LogP.rowAt (x : LogP CL H a p d rows L most sure) {r : Addr × Addr} (h : r ∈ rows) : ∃ q, q ∈ L ∧ H r.1 = some (.lst [.int (q.1 : Int), .ref r.2]) ∧ H r.2 = some (.lst (vT q.2)) := by
  obtain ⟨i, hi, e⟩ := List.getElem_of_mem h
  have hi' : i < L.length := by rw [← x.len]; exact hi
  have := x.row i r L[i] (by rw [← e]; simp [hi]) (by simp [hi'])
  exact ⟨L[i], List.getElem_mem _, this⟩
theorem LogP.keep (x : LogP CL H a p d rows L most sure) (h : ∀ b o, H b = some o → b ∈ a :: p :: rfp rows → H' b = some o) : LogP CL H' a p d rows L most sure := by
  obtain ⟨dx, hi⟩ := x.ins
  refine ⟨x.nd, ⟨dx, h _ _ hi (by simp)⟩, h _ _ x.hp (by simp), x.len, fun i r q e1 e2 => ?_, x.sm⟩
  have mr : r ∈ rows := List.mem_of_getElem? e1
  obtain ⟨g1, g2⟩ := x.row i r q e1 e2
  exact ⟨h _ _ g1 (List.mem_cons_of_mem _ (List.mem_cons_of_mem _ (mem_rfp.mpr ⟨r, mr, .inl rfl⟩))), h _ _ g2 (List.mem_cons_of_mem _ (List.mem_cons_of_mem _ (mem_rfp.mpr ⟨r, mr, .inr rfl⟩)))⟩
theorem LogAt.keep (x : LogAt CL H a fp d L most sure) (h : ∀ b o, H b = some o → b ∈ fp → H' b = some o) : LogAt CL H' a fp d L most sure := by
  obtain ⟨p, rows, rfl, y⟩ := x
  exact ⟨p, rows, rfl, y.keep h⟩
theorem LogAt.same (x : LogAt CL H a fp d L most sure) (s : Same H H') : LogAt CL H' a fp d L most sure := x.keep fun b o e _ => s b o e
theorem LogAt.has (x : LogAt CL H a fp d L most sure) : ∀ b ∈ fp, H b ≠ none := by
  obtain ⟨p, rows, rfl, y⟩ := x
  intro b m z
  rcases List.mem_cons.mp m with rfl | m
  · obtain ⟨dx, hi⟩ := y.ins
    rw [z] at hi; cases hi
  rcases List.mem_cons.mp m with rfl | m
  · have := y.hp
    rw [z] at this; cases this
  obtain ⟨r, mr, e⟩ := mem_rfp.mp m
  obtain ⟨q, _, g1, g2⟩ := y.rowAt mr
  rcases e with rfl | rfl
  · rw [z] at g1; cases g1
  · rw [z] at g2; cases g2
theorem LogP.last {L0 : PL} {q : Nat × List (List Nat)} (x : LogP CL H a p d rows (L0 ++ [q]) most sure) : ∃ rs r, rows = rs ++ [r] ∧ H r.1 = some (.lst [.int (q.1 : Int), .ref r.2]) ∧ H r.2 = some (.lst (vT q.2)) ∧ H p = some (.lst ((rs.map fun r => V.ref r.1) ++ [.ref r.1])) := by
  have hl := x.len
  rw [List.length_append, List.length_singleton] at hl
  rcases List.eq_nil_or_concat rows with e | ⟨rs, r, e⟩
  · rw [e] at hl; simp at hl
  · rw [List.concat_eq_append] at e
    subst e
    have hl' : rs.length = L0.length := by simpa using hl
    obtain ⟨g1, g2⟩ := x.row rs.length r q (by simp) (by rw [hl']; simp)
    refine ⟨rs, r, rfl, g1, g2, ?_⟩
    have := x.hp
    rw [List.map_append] at this
    exact this
theorem LogP.push {r1 r2 n : Nat} {ts : List (List Nat)} (x : LogP CL H a p d rows L most sure) (f1 : H r1 = none) (f2 : H r2 = none) (ne : r1 ≠ r2) (hk : ∀ b o, H b = some o → b ≠ p → b ∈ a :: p :: rfp rows → H' b = some o)
    (h1 : H' r1 = some (.lst [.int (n : Int), .ref r2])) (h2 : H' r2 = some (.lst (vT ts))) (hp : H' p = some (.lst ((rows.map fun r => V.ref r.1) ++ [.ref r1]))) (sm : L.length < 40 ∧ ts.length ≤ 1000000) :
    LogP CL H' a p d (rows ++ [(r1, r2)]) (L ++ [(n, ts)]) most sure := by
  have hs := LogAt.has (fp := a :: p :: rfp rows) ⟨p, rows, rfl, x⟩
  have nd := x.nd
  refine ⟨?_, ?_, ?_, ?_, fun i r q e1 e2 => ?_, ?_⟩
  · rw [rfp_app, ← List.cons_append, ← List.cons_append]
    refine List.nodup_append.mpr ⟨nd, ?_, fun b mb c mc e => ?_⟩
    · show [r1, r2].Nodup
      simp [ne]
    · subst e
      have mc' : b = r1 ∨ b = r2 := by simpa [rfp] using mc
      rcases mc' with rfl | rfl
      · exact hs _ mb f1
      · exact hs _ mb f2
  · obtain ⟨dx, hi⟩ := x.ins
    refine ⟨dx, hk _ _ hi ?_ (by simp)⟩
    simp only [List.nodup_cons, List.mem_cons, not_or] at nd
    exact nd.1.1
  · rw [List.map_append]; exact hp
  · rw [List.length_append, List.length_append, x.len]; rfl
  · by_cases hi : i < rows.length
    · rw [List.getElem?_append_left hi] at e1
      rw [List.getElem?_append_left (by rw [← x.len]; exact hi)] at e2
      obtain ⟨g1, g2⟩ := x.row i r q e1 e2
      have mr : r ∈ rows := List.mem_of_getElem? e1
      have m1 : r.1 ∈ rfp rows := mem_rfp.mpr ⟨r, mr, .inl rfl⟩
      have m2 : r.2 ∈ rfp rows := mem_rfp.mpr ⟨r, mr, .inr rfl⟩
      simp only [List.nodup_cons, List.mem_cons, not_or] at nd
      refine ⟨hk _ _ g1 (fun z => nd.2.1 (z ▸ m1)) (List.mem_cons_of_mem _ (List.mem_cons_of_mem _ m1)), hk _ _ g2 (fun z => nd.2.1 (z ▸ m2)) (List.mem_cons_of_mem _ (List.mem_cons_of_mem _ m2))⟩
    · have hl : i = rows.length := by
        have := (List.getElem?_eq_some_iff.mp e1).1
        rw [List.length_append, List.length_singleton] at this
        omega
      subst hl
      rw [x.len] at e2
      simp at e1 e2
      subst e1 e2
      exact ⟨h1, h2⟩
  · refine ⟨by rw [List.length_append, List.length_singleton]; omega, fun q m => ?_⟩
    rcases List.mem_append.mp m with m | m
    · exact x.sm.2 q m
    · have : q = (n, ts) := by simpa using m
      subst this
      exact sm.2
theorem LogP.grow {L0 : PL} {q : Nat × List (List Nat)} {rs : List (Addr × Addr)} {r : Addr × Addr} {t : List Nat} (x : LogP CL H a p d (rs ++ [r]) (L0 ++ [q]) most sure) (hk : ∀ b o, H b = some o → b ≠ r.2 → H' b = some o) (h2 : H' r.2 = some (.lst (vT (q.2 ++ [t])))) (sm : q.2.length < 1000000) :
    LogP CL H' a p d (rs ++ [r]) (L0 ++ [(q.1, q.2 ++ [t])]) most sure := by
  have nd := x.nd
  have hl : rs.length = L0.length := by simpa using x.len
  rw [rfp_app] at nd
  have nd1 := nd
  simp only [List.nodup_cons, List.mem_cons, List.mem_append, not_or] at nd
  have m2 : r.2 ∈ rfp [r] := by simp [rfp]
  obtain ⟨dx, hi⟩ := x.ins
  refine ⟨x.nd, ⟨dx, hk _ _ hi fun z => nd.1.2.2 (z ▸ m2)⟩, hk _ _ x.hp fun z => nd.2.1.2 (z ▸ m2), by simpa using x.len, fun i r' q' e1 e2 => ?_, ⟨by have := x.sm.1; simpa using this, fun q' m => ?_⟩⟩
  · have ndr := List.nodup_append.mp nd.2.2
    by_cases hi : i < rs.length
    · have e1' := e1
      rw [List.getElem?_append_left hi] at e1'
      rw [List.getElem?_append_left (by rw [← hl]; exact hi)] at e2
      obtain ⟨g1, g2⟩ := x.row i r' q' e1 (by rw [List.getElem?_append_left (by rw [← hl]; exact hi)]; exact e2)
      have mr : r' ∈ rs := List.mem_of_getElem? e1'
      exact ⟨hk _ _ g1 fun z => ndr.2.2 r'.1 (mem_rfp.mpr ⟨r', mr, .inl rfl⟩) r.2 m2 z, hk _ _ g2 fun z => ndr.2.2 r'.2 (mem_rfp.mpr ⟨r', mr, .inr rfl⟩) r.2 m2 z⟩
    · have hl2 : i = rs.length := by
        have := (List.getElem?_eq_some_iff.mp e1).1
        rw [List.length_append, List.length_singleton] at this
        omega
      subst hl2
      obtain ⟨g1, g2⟩ := x.row rs.length r q (by simp) (by rw [hl]; simp)
      simp at e1
      rw [hl] at e2
      simp at e2
      subst e1 e2
      have ne : r.1 ≠ r.2 := by
        have := ndr.2.1
        simp [rfp] at this
        exact this
      exact ⟨hk _ _ g1 ne, h2⟩
  · rcases List.mem_append.mp m with m | m
    · exact x.sm.2 q' (List.mem_append_left _ m)
    · have : q' = (q.1, q.2 ++ [t]) := by simpa using m
      subst this
      rw [List.length_append, List.length_singleton]; omega
end
end K53

namespace K53
open PySem PySem.Spec PyProof.Rows L2
local macro_rules | `(tactic| array_mem_dec) => `(tactic| first | with_reducible assumption | with_reducible exact upd_same | ((with_reducible apply same_at); (with_reducible assumption); array_mem_dec) | ((with_reducible apply upd_atN); (with_reducible assumption); array_mem_dec) | ((with_reducible apply upd_at); (first | with_reducible assumption | (apply Ne.symm; with_reducible assumption)); array_mem_dec))
local macro_rules | `(tactic| array_get_dec) => `(tactic| first | (with_reducible refine w_seq ?_) | (with_reducible refine w_asg ?_) | (with_reducible refine w_drop ?_) | (with_reducible refine w_ret ?_) | (with_reducible refine w_retN ?_) | (with_reducible refine w_next ?_) | (with_reducible refine w_break ?_) | (with_reducible refine w_cont ?_) | (with_reducible refine w_ifS ?_) | (with_reducible refine w_sub ?_) | (with_reducible refine w_c ?_) | (with_reducible refine w_op ?_) | (with_reducible refine w_un ?_) | (with_reducible refine w_test ?_) | (with_reducible refine w_B ?_) | (with_reducible refine w_yes ?_) | (with_reducible refine w_not ?_) | (with_reducible refine w_and ?_) | (with_reducible refine w_or ?_) | (with_reducible refine w_andV ?_) | (with_reducible refine w_orV ?_) | (with_reducible refine w_notV ?_) | (with_reducible refine w_ifE ?_) | (with_reducible refine w_nil ?_) | (with_reducible refine w_cons ?_) | (with_reducible refine w_call ?_) | (with_reducible refine w_callS ?_) | (with_reducible refine w_cB ?_) | (with_reducible refine w_lst ?_) | (with_reducible refine w_tup ?_) | (with_reducible refine w_sl ?_) | (with_reducible refine w_noPart ?_) | (with_reducible refine w_part ?_) | (with_reducible refine w_bm ?_) | (with_reducible refine w_bm0 ?_) | (with_reducible refine w_strTy ?_) | (with_reducible refine w_bl ?_) | (with_reducible refine w_int1 ?_) | (with_reducible refine w_str1 ?_) | (with_reducible refine w_rI0 ?_) | (with_reducible refine w_rU ?_) | (with_reducible refine w_eqI ?_) | (with_reducible refine w_eqS ?_) | (with_reducible refine w_neI ?_) | (with_reducible refine w_neS ?_) | (with_reducible refine w_bl2 ?_) | (with_reducible refine w_isN ?_) | (with_reducible refine w_for ?_) | (with_reducible refine w_iRng1 ?_) | (with_reducible refine w_iRng2 ?_) | (with_reducible refine w_iList ?_) | (with_reducible refine w_iTup ?_) | (with_reducible refine w_iStr ?_) | (with_reducible refine w_lc ?_) | (with_reducible refine w_M1 ?_) | (with_reducible refine w_M0 ?_) | (with_reducible refine w_isS ?_) | ((with_reducible apply w_name); (simp only [wipe, List.map_cons, List.map_nil, List.foldl_cons, List.foldl_nil, List.set_cons_zero, List.set_cons_succ]; exact rfl)) | ((with_reducible apply w_var); exact rfl) | ((with_reducible apply w_lstTy); array_mem_dec) | ((with_reducible apply w_lenL); array_mem_dec) | ((with_reducible apply w_lenT); array_mem_dec) | ((with_reducible apply w_listOf); array_mem_dec) | ((with_reducible apply w_lenS); (first | (with_reducible assumption) | omega | (rw [sizeLine_eq]; omega))) | ((with_reducible apply w_slS); (first | (with_reducible assumption) | omega | (rw [sizeLine_eq]; omega))) | ((with_reducible apply w_wipe); exact rfl) | ((with_reducible apply w_acc); array_mem_dec; (try (first | (with_reducible assumption) | omega | (rw [sizeLine_eq]; omega)))) | ((with_reducible apply w_itl); array_mem_dec) | ((with_reducible apply w_itt); array_mem_dec) | ((with_reducible apply w_append); array_mem_dec; (try (first | (with_reducible assumption) | omega | (rw [sizeLine_eq]; omega)))) | ((with_reducible apply w_rng1); (first | (with_reducible assumption) | omega); (first | (with_reducible assumption) | omega)) | ((with_reducible apply w_ixL); array_mem_dec; (first | (with_reducible assumption) | exact rfl | (apply atI_nat; (with_reducible assumption)) | exact atI_last _ _)) | ((with_reducible apply w_ixT); array_mem_dec; (first | (with_reducible assumption) | exact rfl | (apply atI_nat; (with_reducible assumption)) | exact atI_last _ _)) | ((with_reducible apply w_iT); first | exact rfl | (with_reducible assumption)) | ((with_reducible apply w_iF); first | exact rfl | (with_reducible assumption)) | ((with_reducible apply w_isiI (b := true)); decide +kernel) | ((with_reducible apply w_isiI (b := false)); decide +kernel) | ((with_reducible apply w_isiB (b := true)); decide +kernel) | ((with_reducible apply w_isiB (b := false)); decide +kernel) | ((with_reducible apply w_isiS (b := true)); decide +kernel) | ((with_reducible apply w_isiS (b := false)); decide +kernel) | ((with_reducible apply w_isiN (b := true)); decide +kernel) | ((with_reducible apply w_isiN (b := false)); decide +kernel) | ((with_reducible apply w_isiL (b := true)); array_mem_dec; decide +kernel) | ((with_reducible apply w_isiL (b := false)); array_mem_dec; decide +kernel) | ((with_reducible apply w_isiT (b := true)); array_mem_dec; decide +kernel) | ((with_reducible apply w_isiT (b := false)); array_mem_dec; decide +kernel) | (with_reducible refine w_notT ?_) | (with_reducible refine w_chain ?_) | ((with_reducible apply w_trL); array_mem_dec) | ((with_reducible apply w_gTup); array_mem_dec; exact rfl) | ((with_reducible apply w_gLst); array_mem_dec; exact rfl) | (with_reducible refine w_gCons ?_) | (with_reducible refine w_gNil ?_) | (with_reducible refine w_Fld ?_) | (with_reducible refine w_sFld ?_) | (with_reducible refine w_dget ?_) | (with_reducible refine w_dIn ?_) | (with_reducible refine w_dNotIn ?_) | (with_reducible refine w_sDPut ?_) | (with_reducible refine w_dnewK ?_) | (with_reducible refine w_meth ?_) | (with_reducible refine w_make ?_) | (with_reducible refine w_methS ?_) | (with_reducible refine w_makeS ?_) | (with_reducible refine w_dpop ?_) | ((with_reducible apply w_fld1); array_mem_dec; (with_reducible assumption); (with_reducible assumption); exact rfl) | ((with_reducible apply w_sfld1); array_mem_dec; (with_reducible assumption); (with_reducible assumption); exact Nat.le_of_ble_eq_true rfl) | ((with_reducible apply w_meth1); array_mem_dec; exact rfl) | ((with_reducible apply w_dgetS); array_mem_dec; (with_reducible assumption)) | ((with_reducible apply w_dgetI); array_mem_dec; (with_reducible assumption)) | ((with_reducible apply w_dinS); array_mem_dec) | ((with_reducible apply w_dputI); array_mem_dec; (try (first | (with_reducible assumption) | omega | (rw [sizeLine_eq]; omega)))) | ((with_reducible apply w_dputS); array_mem_dec; (try (first | (with_reducible assumption) | omega | (rw [sizeLine_eq]; omega)))) | ((with_reducible apply w_isD); array_mem_dec) | ((with_reducible apply w_dictD); array_mem_dec) | ((with_reducible apply w_dpopS); array_mem_dec; (with_reducible assumption)))
/-! ### the log's methods -/
def LD (CD CL : Addr) (H : Hp) (a : Addr) (fp : List Addr) (d : Addr) (D : DS) (L : PL) (most sure : Nat) : Prop := ∃ fl fd, fp = fl ++ fd ∧ (∀ b ∈ fl, b ∉ fd) ∧ LogAt CL H a fl d L most sure ∧ DiskAt CD H d fd D
section
variable {CD CL : Addr} {H H' : Hp} {a d : Addr} {fp fl fd fl' fd' : List Addr} {D D' : DS} {L L' : PL} {most sure most' sure' : Nat}
theorem LD.keep (x : LD CD CL H a fp d D L most sure) (h : ∀ b o, H b = some o → b ∈ fp → H' b = some o) : LD CD CL H' a fp d D L most sure := by
  obtain ⟨fl, fd, rfl, dj, x1, x2⟩ := x
  exact ⟨fl, fd, rfl, dj, x1.keep fun b o e m => h b o e (List.mem_append_left _ m), x2.keep fun b o e m => h b o e (List.mem_append_right _ m)⟩
theorem LD.same (x : LD CD CL H a fp d D L most sure) (s : Same H H') : LD CD CL H' a fp d D L most sure := x.keep fun b o e _ => s b o e
theorem LD.has (x : LD CD CL H a fp d D L most sure) : ∀ b ∈ fp, H b ≠ none := by
  obtain ⟨fl, fd, rfl, dj, x1, x2⟩ := x
  intro b m
  rcases List.mem_append.mp m with m | m
  · exact x1.has b m
  · exact x2.has b m
theorem ld_disk (x1 : LogAt CL H a fl d L most sure) (dj : ∀ b ∈ fl, b ∉ fd) (fr : Fr fd fd' H H') (x2 : DiskAt CD H' d fd' D') : LD CD CL H' a (fl ++ fd') d D' L most sure ∧ Fr (fl ++ fd) (fl ++ fd') H H' := by
  refine ⟨⟨fl, fd', rfl, fun b m m2 => ?_, x1.keep fun b o e m => fr.1 b o e (dj b m), x2⟩, fun b o e nb => fr.1 b o e fun z => nb (List.mem_append_right _ z), fun b m => ?_⟩
  · rcases fr.2 b m2 with z | z
    · exact dj b m z
    · exact x1.has b m z
  · rcases List.mem_append.mp m with m | m
    · exact .inl (List.mem_append_left _ m)
    · rcases fr.2 b m with z | z
      · exact .inl (List.mem_append_right _ z)
      · exact .inr z
theorem ld_log (x2 : DiskAt CD H d fd D) (dj : ∀ b ∈ fl, b ∉ fd) (fr : Fr fl fl' H H') (x1 : LogAt CL H' a fl' d L' most' sure') : LD CD CL H' a (fl' ++ fd) d D L' most' sure' ∧ Fr (fl ++ fd) (fl' ++ fd) H H' := by
  refine ⟨⟨fl', fd, rfl, fun b m m2 => ?_, x1, x2.keep fun b o e m => fr.1 b o e fun z => dj b z m⟩, fun b o e nb => fr.1 b o e fun z => nb (List.mem_append_left _ z), fun b m => ?_⟩
  · rcases fr.2 b m with z | z
    · exact dj b z m2
    · exact x2.has b m2 z
  · rcases List.mem_append.mp m with m | m
    · rcases fr.2 b m with z | z
      · exact .inl (List.mem_append_left _ z)
      · exact .inr z
    · exact .inl (List.mem_append_right _ m)
end
theorem LogP.setSure {CL : Addr} {H : Hp} {a p d dx : Addr} {rows : List (Addr × Addr)} {L : PL} {most sure : Nat} (x : LogP CL H a p d rows L most sure) (s2 : Nat) : LogP CL (upd H a (.ins CL dx (lF d p most s2))) a p d rows L most s2 := by
  have nd := x.nd
  simp only [List.nodup_cons, List.mem_cons, not_or] at nd
  refine ⟨x.nd, ⟨dx, upd_same⟩, by rw [upd_ne (Ne.symm nd.1.1)]; exact x.hp, x.len, fun i r q e1 e2 => ?_, x.sm⟩
  have mr : r ∈ rows := List.mem_of_getElem? e1
  obtain ⟨g1, g2⟩ := x.row i r q e1 e2
  have n1 : r.1 ≠ a := fun z => nd.1.2 (by rw [← z]; exact mem_rfp.mpr ⟨r, mr, .inl rfl⟩)
  have n2 : r.2 ≠ a := fun z => nd.1.2 (by rw [← z]; exact mem_rfp.mpr ⟨r, mr, .inr rfl⟩)
  exact ⟨by rw [upd_ne n1]; exact g1, by rw [upd_ne n2]; exact g2⟩
def partN (D : DS) : List (List Nat) := (D.names.map (·.1)).filter isPartL
def spPNames (CD : Addr) : Sp := fun vs H Q _ => ∃ d fp D nx, vs = [.ref d] ∧ DiskN CD H d fp D nx ∧ upN D.names = true ∧ (∀ q ∈ D.names, q.1.length ≤ 100) ∧ ∀ p H', Same H H' → H p = none → H' p = some (.lst ((partN D).map sv)) → Q (.ref p) H'
def spFirstL (CL : Addr) : Sp := fun vs H Q _ => ∃ (a : Addr) (fp : List Addr) (d : Addr) (q : Nat × List (List Nat)) (L : PL) (most sure : Nat), vs = [.ref a] ∧ LogAt CL H a fp d (q :: L) most sure ∧ Q (.int ((q.1 : Nat) : Int)) H
def spNextL (CL : Addr) : Sp := fun vs H Q _ => ∃ (a : Addr) (fp : List Addr) (d : Addr) (q : Nat × List (List Nat)) (L : PL) (most sure : Nat), vs = [.ref a] ∧ LogAt CL H a fp d (L ++ [q]) most sure ∧ Q (.int ((q.1 + q.2.length : Nat) : Int)) H
def spBegin (CD CL : Addr) : Sp := fun vs H Q _ => ∃ (a : Addr) (fp : List Addr) (d : Addr) (D : DS) (L : PL) (most sure n : Nat), vs = [.ref a, .int (n : Int)] ∧ LD CD CL H a fp d D L most sure ∧ n ≤ 999999 ∧ L.length < 40 ∧ D.names.lookup (partL n) = none ∧ small (makeD D (partL n)) (makeD D (partL n)).kept.length ∧
  ∀ H' fp', LD CD CL H' a fp' d (syncN (makeD D (partL n))) (L ++ [(n, [])]) most sure → Fr fp fp' H H' → Q .non H'
def spSyncL (CD CL : Addr) : Sp := fun vs H Q _ => ∃ (a : Addr) (fp : List Addr) (d : Addr) (D : DS) (q : Nat × List (List Nat)) (L : PL) (most sure i : Nat), vs = [.ref a] ∧ LD CD CL H a fp d D (L ++ [q]) most sure ∧ q.1 ≤ 999999 ∧ D.names.lookup (partL q.1) = some i ∧ small (syncD D i) (syncD D i).kept.length ∧
  ∀ H', LD CD CL H' a fp d (syncD D i) (L ++ [q]) most (q.1 + q.2.length) → Fr fp fp H H' → Q (.int ((q.1 + q.2.length : Nat) : Int)) H'
section
variable {P : Program} {w : World} {K : PySem.W.Frag} {mg : Str → Option Value} {base : Heap}
theorem con (M : Nms K mg) : Con51 mg := ⟨M.cGREAT, M.cSTEP, M.cMF⟩
theorem ok_check_of (M : Nms K mg) : FnOk P w K mg base CX0 1 M.a_check_of M.d_check_of ["text"] spCheck := ok_check M.F_check_of M.T (con M)
theorem ok_checked_text (M : Nms K mg) : FnOk P w K mg base CX0 1 M.a_checked_text M.d_checked_text ["text"] spChk := ok_chk M.F_checked_text M.T (con M)
theorem ok_framed (M : Nms K mg) : FnOk P w K mg base CX0 2 M.a_framed M.d_framed ["text"] spFrm := ok_frm M.F_framed M.T (ok_checked_text M) M.g_checked_text M.k_checked_text M.b_checked_text (ok_check_of M) M.g_check_of M.k_check_of M.b_check_of
theorem ok__number (M : Nms K mg) : FnOk P w K mg base CX0 1 M.a__number M.d__number ["text", "at"] spNum := ok_number M.F__number M.T
theorem ok_one_frame (M : Nms K mg) : FnOk P w K mg base CX0 2 M.a_one_frame M.d_one_frame ["text", "at"] spOneF := ok_oneF M.F_one_frame M.T (con M) (ok__number M) M.g__number M.k__number M.b__number (ok_check_of M) M.g_check_of M.k_check_of M.b_check_of
theorem ok_read_frames (M : Nms K mg) : FnOk P w K mg base CX0 3 M.a_read_frames M.d_read_frames ["text"] spRead := ok_read M.F_read_frames M.T (ok_one_frame M) M.g_one_frame M.k_one_frame M.b_one_frame
def spPartL : Sp := fun vs H Q _ => ∃ n : Nat, vs = [.int (n : Int)] ∧ n ≤ 999999 ∧ Q (.str (mkS (partL n))) H
theorem okL_part_name (M : Nms K mg) : FnOk P w K mg base CX0 3 M.a_part_name M.d_part_name ["first"] spPartL := ok_low (ok_part_name M) fun vs H Q E ⟨n, e, hn, q⟩ => .inl ⟨n, e, hn, q⟩
theorem ok_part_names (M : Nms K mg) : FnOk P w K mg base CX0 2 M.a_part_names M.d_part_names ["disk"] (spPNames M.CD) := by
  refine M.F_part_names.ok sc_part_names (fun vs H Q E h => ?_) (fun cdv A outer s H vs Q E hr h => ?_)
  · obtain ⟨d, fp, D, nx, rfl, _⟩ := h
    rfl
  · have hu := hu1 hr
    have clD := M.clD
    have clL := M.clL
    have nD_kept := M.nD_kept
    have nD_late := M.nD_late
    have nD_names := M.nD_names
    have nD_sure := M.nD_sure
    have nD_changes := M.nD_changes
    have nD_next := M.nD_next
    have nL_disk := M.nL_disk
    have nL_most := M.nL_most
    have nL_parts := M.nL_parts
    have nL_sure := M.nL_sure
    refine ⟨_, (pss_one (ps_ret (pe_lc (own := [("name", 1)]) rfl sc_part_names.nd (pi_list (pe_meth0 (pv 0) M.clD M.m_Disk_names (ok_Disk_names M) (hr.mono (by decide)) M.b_Disk_names .nil pass0)) (blkOk_by (N := ["disk", "name"]) (sc := defScope s_part_names) (own := [("name", 1)]) (by decide +kernel)) (fun _ _ _ _ _ => (pg_name (i := 1) sc_part_names.nd rfl (Or.inl rfl))) (fun _ _ _ _ _ => pts_one (pt_val (pe_call (ok_is_part M) (hr.mono (by decide)) rfl M.g_is_part M.k_is_part M.b_is_part .nil pass0 (pa_cons (pv 1) pa_nil)))) (fun _ _ _ _ _ => (pv 1))))), ?_⟩
    try dsimp only [cxOf, Cx.nox]
    obtain ⟨d, fp, D, nx, rfl, dk, hup, hln, q⟩ := h
    have dk' := dk
    obtain ⟨k, l, n, sa, c, su, cv, rfl, ⟨nd, ⟨dx, hi⟩, hk, hl, hn, hs, hc, cl, sm⟩⟩ := dk'
    refine w_start (σ' := [some (.ref d), none]) rfl ?_
    (repeat array_get_dec)
    refine ⟨d, _, D, nx, rfl, dk, hup, fun p0 hp0 => ?_⟩
    (repeat array_get_dec)
    intro A hA
    obtain ⟨nA, fA⟩ := hu2 hA
    refine lc_list (K := K) (a := p0) (xs := D.names.map fun q => sv q.1) (fun i H' => H' A = some (.lst ((((D.names.map (·.1)).take i).filter isPartL).map sv)) ∧ ∀ b o, b ≠ A → upd H p0 (.lst (D.names.map fun q => sv q.1)) b = some o → H' b = some o) ⟨upd_same, fun b o nb e => by rw [upd_ne nb]; exact e⟩ ?_ ?_ ?_
    · rintro i H' _ ⟨h1, h2⟩
      exact SqL.of (h2 p0 _ (Ne.symm nA) upd_same)
    · rintro i x H' hx ⟨h1, h2⟩
      obtain ⟨y, hy, rfl⟩ : ∃ y, D.names[i]? = some y ∧ x = sv y.1 := by
        rw [List.getElem?_map] at hx
        cases e : D.names[i]? with
        | none => rw [e] at hx; cases hx
        | some y => rw [e] at hx; exact ⟨y, rfl, (Option.some.inj hx).symm⟩
      have et : (D.names.map (·.1)).take (i + 1) = (D.names.map (·.1)).take i ++ [y.1] := take_snoc (by rw [List.getElem?_map, hy]; rfl)
      have li : i < D.names.length := (List.getElem?_eq_some_iff.mp hy).1
      have lz : ((((D.names.map (·.1)).take i).filter isPartL).map sv).length < sizeLine := by
        have := List.length_filter_le isPartL ((D.names.map (·.1)).take i)
        rw [List.length_map]
        rw [List.length_take, List.length_map] at this
        have := sm.2.2.1
        rw [sizeLine_eq]
        omega
      (repeat array_get_dec)
      refine ⟨y.1, rfl, hln y (List.mem_of_getElem? hy), fun H2 s2 => ?_⟩
      replace h1 := s2 _ _ h1
      (repeat array_get_dec)
      refine ite2 (fun hb => ?_) (fun hb => ?_)
      · (repeat array_get_dec)
        refine ⟨?_, fun b o nb e => by rw [upd_ne nb]; exact s2 _ _ (h2 b o nb e)⟩
        rw [upd_same, et, List.filter_append, List.map_append]
        simp [hb]
      · refine ⟨?_, fun b o nb e => s2 _ _ (h2 b o nb e)⟩
        rw [h1, et, List.filter_append, List.map_append]
        simp [hb]
    · rintro H' ⟨h1, h2⟩
      rw [List.length_map, List.take_of_length_le (by rw [List.length_map]; exact Nat.le_refl _)] at h1
      refine q A H' (fun b o e => h2 b o (ne_of_none e fA) (by rw [upd_ne (ne_of_none e hp0)]; exact e)) fA h1
theorem ok_Log_first (M : Nms K mg) : FnOk P w K mg base CX0 1 M.a_Log_first M.d_Log_first ["self"] (spFirstL M.CL) := by
  refine M.F_Log_first.ok sc_Log_first (fun vs H Q E h => ?_) (fun cdv A outer s H vs Q E hr h => ?_)
  · obtain ⟨a, fp, d, q, L, most, sure, rfl, _⟩ := h
    rfl
  · have hu := hu1 hr
    have clD := M.clD
    have clL := M.clL
    have nD_kept := M.nD_kept
    have nD_late := M.nD_late
    have nD_names := M.nD_names
    have nD_sure := M.nD_sure
    have nD_changes := M.nD_changes
    have nD_next := M.nD_next
    have nL_disk := M.nL_disk
    have nL_most := M.nL_most
    have nL_parts := M.nL_parts
    have nL_sure := M.nL_sure
    refine ⟨_, (pss_one (ps_ret (pe_ix (r := rIxL K) ix_list (pe_ix (r := rIxL K) ix_list (pe_fld (pv 0) rfl) pe_int (fun _ _ => rfl)) pe_int (fun _ _ => rfl)))), ?_⟩
    try dsimp only [cxOf, Cx.nox]
    obtain ⟨a, fp, d, q, L, most, sure, rfl, ⟨p, rows, rfl, lp⟩, kq⟩ := h
    refine w_start (σ' := [some (.ref a)]) rfl ?_
    obtain ⟨dx, hi⟩ := lp.ins
    have hp := lp.hp
    obtain ⟨r, rs, er⟩ : ∃ r rs, rows = r :: rs := by
      cases rows with
      | nil => have := lp.len; simp at this
      | cons r rs => exact ⟨r, rs, rfl⟩
    subst er
    obtain ⟨g1, g2⟩ := lp.row 0 r q rfl rfl
    rw [List.map_cons] at hp
    have a1 : atI (V.ref r.1 :: rs.map fun r => V.ref r.1) (0 : Int) = some (.ref r.1) := atI_nat (j := 0) rfl
    have a2 : atI [V.int (q.1 : Int), .ref r.2] (0 : Int) = some (.int (q.1 : Int)) := atI_nat (j := 0) rfl
    (repeat array_get_dec)
    exact kq
theorem ok_Log_next (M : Nms K mg) : FnOk P w K mg base CX0 1 M.a_Log_next M.d_Log_next ["self"] (spNextL M.CL) := by
  refine M.F_Log_next.ok sc_Log_next (fun vs H Q E h => ?_) (fun cdv A outer s H vs Q E hr h => ?_)
  · obtain ⟨a, fp, d, q, L, most, sure, rfl, _⟩ := h
    rfl
  · have hu := hu1 hr
    have clD := M.clD
    have clL := M.clL
    have nD_kept := M.nD_kept
    have nD_late := M.nD_late
    have nD_names := M.nD_names
    have nD_sure := M.nD_sure
    have nD_changes := M.nD_changes
    have nD_next := M.nD_next
    have nL_disk := M.nL_disk
    have nL_most := M.nL_most
    have nL_parts := M.nL_parts
    have nL_sure := M.nL_sure
    refine ⟨_, (pss_one (ps_ret (pe_op op_add (pe_ix (r := rIxL K) ix_list (pe_ix (r := rIxL K) ix_list (pe_fld (pv 0) rfl) (pe_un un_neg pe_int) (fun _ _ => rfl)) pe_int (fun _ _ => rfl)) (pe_callB call_len (by rfl) M.T.b_len (by decide +kernel) (pa_cons (pe_ix (r := rIxL K) ix_list (pe_ix (r := rIxL K) ix_list (pe_fld (pv 0) rfl) (pe_un un_neg pe_int) (fun _ _ => rfl)) pe_int (fun _ _ => rfl)) pa_nil))))), ?_⟩
    try dsimp only [cxOf, Cx.nox]
    obtain ⟨a, fp, d, q, L, most, sure, rfl, ⟨p, rows, rfl, lp⟩, kq⟩ := h
    refine w_start (σ' := [some (.ref a)]) rfl ?_
    obtain ⟨dx, hi⟩ := lp.ins
    obtain ⟨rs, r, rfl, g1, g2, hp⟩ := lp.last
    have a2 : atI [V.int (q.1 : Int), .ref r.2] (0 : Int) = some (.int (q.1 : Int)) := atI_nat (j := 0) rfl
    have a3 : atI [V.int (q.1 : Int), .ref r.2] (1 : Int) = some (.ref r.2) := atI_nat (j := 1) rfl
    (repeat array_get_dec)
    have e : (q.1 : Int) + ((vT q.2).length : Int) = ((q.1 + q.2.length : Nat) : Int) := by
      have : (vT q.2).length = q.2.length := by unfold vT; rw [List.length_map]
      rw [this]; omega
    rw [e]
    exact kq
theorem dj_step {CL : Addr} {H H' : Hp} {a d : Addr} {fl fd fd' : List Addr} {L : PL} {most sure : Nat} (x1 : LogAt CL H a fl d L most sure) (dj : ∀ b ∈ fl, b ∉ fd) (fr : Fr fd fd' H H') : ∀ b ∈ fl, b ∉ fd' := fun b m m2 => (fr.2 b m2).elim (dj b m) (x1.has b m)
theorem ok_Log__begin (M : Nms K mg) : FnOk P w K mg base CX0 4 M.a_Log__begin M.d_Log__begin ["self", "first"] (spBegin M.CD M.CL) := by
  refine M.F_Log__begin.ok sc_Log__begin (fun vs H Q E h => ?_) (fun cdv A outer s H vs Q E hr h => ?_)
  · obtain ⟨a, fp, d, D, L, most, sure, n, rfl, _⟩ := h
    rfl
  · have hu := hu1 hr
    have clD := M.clD
    have clL := M.clL
    have nD_kept := M.nD_kept
    have nD_late := M.nD_late
    have nD_names := M.nD_names
    have nD_sure := M.nD_sure
    have nD_changes := M.nD_changes
    have nD_next := M.nD_next
    have nL_disk := M.nL_disk
    have nL_most := M.nL_most
    have nL_parts := M.nL_parts
    have nL_sure := M.nL_sure
    refine ⟨_, (pss_cons (ps_expr (pe_meth (pe_fld (pv 0) rfl) M.clD M.m_Disk_make (ok_Disk_make M) (hr.mono (by decide)) M.b_Disk_make .nil pass0 (pa_cons (pe_call (okL_part_name M) (hr.mono (by decide)) rfl M.g_part_name M.k_part_name M.b_part_name .nil pass0 (pa_cons (pv 1) pa_nil)) pa_nil)))
    (pss_cons (ps_expr (pe_meth0 (pe_fld (pv 0) rfl) M.clD M.m_Disk_sync_names (ok_Disk_sync_names M) (hr.mono (by decide)) M.b_Disk_sync_names .nil pass0))
    (pss_one (ps_expr (pe_bm PySem.F.plainAttrs_list PySem.F.slot_list_append PySem.F.type_list_append mt_append (pe_fld (pv 0) rfl) (pa_cons (pe_lst (pa_cons (pv 1) (pa_cons (pe_lst pa_nil) pa_nil))) pa_nil)))))), ?_⟩
    try dsimp only [cxOf, Cx.nox]
    obtain ⟨a, fp, d, D, L, most, sure, n, rfl, ⟨fl, fd, rfl, dj, la, dk⟩, hn, hL, hx, sm2, kq⟩ := h
    refine w_start (σ' := [some (.ref a), some (.int (n : Int))]) rfl ?_
    have la0 := la
    obtain ⟨p, rows, rfl, lp⟩ := la
    obtain ⟨dx, hi⟩ := lp.ins
    obtain ⟨k0, l0, n0, s0, c0, su0, cv0, efd, ⟨_, ⟨dx0, gi⟩, _⟩⟩ := id dk
    (repeat array_get_dec)
    refine ⟨n, rfl, hn, ?_⟩
    (repeat array_get_dec)
    refine ⟨d, fd, D, partL n, rfl, dk, hx, by unfold partL; simp, sm2, fun H1 fd1 dk1 fr1 => ?_⟩
    have la1 := la0.keep (H' := H1) fun b o e m => fr1.1 b o e (dj b m)
    have dj1 := dj_step la0 dj fr1
    have hi1 := fr1.1 _ _ hi (dj _ (by simp))
    obtain ⟨k1, l1, n1, s1, c1, su1, cv1, efd1, ⟨_, ⟨dx1, gi1⟩, _⟩⟩ := id dk1
    (repeat array_get_dec)
    refine ⟨d, fd1, _, _, rfl, dk1, fun H2 fd2 dk2 fr2 => ?_⟩
    have lp2 := (lp.keep (H' := H1) fun b o e m => fr1.1 b o e (dj b m)).keep (H' := H2) fun b o e m => fr2.1 b o e (dj1 b m)
    have dj2 := dj_step la1 dj1 fr2
    have hi2 := fr2.1 _ _ hi1 (dj1 _ (by simp))
    have hp2 := lp2.hp
    have lz : (rows.map fun r => V.ref r.1).length < sizeLine := by rw [List.length_map, lp.len, sizeLine_eq]; omega
    (repeat array_get_dec)
    refine ⟨by show 0 ≤ sizeLine; decide, fun r2 f2 => ?_⟩
    (repeat array_get_dec)
    refine ⟨by show 2 ≤ sizeLine; decide, fun r1 f1 => ?_⟩
    obtain ⟨nr, f1'⟩ := hu2 f1
    have np1 := ne_of_none hp2 f1'
    have np2 := ne_of_none hp2 f2
    (repeat array_get_dec)
    have ny : r1 ∉ a :: p :: rfp rows ∧ r2 ∉ a :: p :: rfp rows := ⟨fun m => LogAt.has ⟨p, rows, rfl, lp2⟩ r1 m f1', fun m => LogAt.has ⟨p, rows, rfl, lp2⟩ r2 m f2⟩
    have lp3 := lp2.push (n := n) (ts := []) f1' f2 nr (H' := upd (upd (upd H2 r2 (.lst [])) r1 (.lst [.int (n : Int), .ref r2])) p (.lst ((rows.map fun r => V.ref r.1) ++ [.ref r1]))) (fun b o e nb m => by
      rw [upd_ne nb, upd_ne (fun z => ny.1 (by rw [← z]; exact m)), upd_ne (fun z => ny.2 (by rw [← z]; exact m))]; exact e) (by rw [upd_ne (Ne.symm np1), upd_same]) (by rw [upd_ne (Ne.symm np2), upd_ne (Ne.symm nr), upd_same]; rfl) upd_same ⟨hL, Nat.zero_le _⟩
    have fr3 : Fr (a :: p :: rfp rows) (a :: p :: rfp (rows ++ [(r1, r2)])) H2 (upd (upd (upd H2 r2 (.lst [])) r1 (.lst [.int (n : Int), .ref r2])) p (.lst ((rows.map fun r => V.ref r.1) ++ [.ref r1]))) := by
      refine ⟨(Fr.refl _ H2 |>.neu f2 |>.neu f1 |>.put (a := p) (by simp)).1, fun b m => ?_⟩
      rw [rfp_app] at m
      simp only [List.mem_cons, List.mem_append] at m
      rcases m with rfl | rfl | m | m
      · exact .inl (by simp)
      · exact .inl (by simp)
      · exact .inl (List.mem_cons_of_mem _ (List.mem_cons_of_mem _ m))
      · have m' : b = r1 ∨ b = r2 := by simpa [rfp] using m
        rcases m' with rfl | rfl
        · exact .inr f1'
        · exact .inr f2
    obtain ⟨ld3, F3⟩ := ld_log dk2 dj2 fr3 ⟨p, _, rfl, lp3⟩
    obtain ⟨_, F1⟩ := ld_disk la0 dj fr1 dk1
    obtain ⟨_, F2⟩ := ld_disk la1 dj1 fr2 dk2
    exact kq _ _ ld3 ((F1.trans F2).trans F3)
theorem ok_Log_sync (M : Nms K mg) : FnOk P w K mg base CX0 4 M.a_Log_sync M.d_Log_sync ["self"] (spSyncL M.CD M.CL) := by
  refine M.F_Log_sync.ok sc_Log_sync (fun vs H Q E h => ?_) (fun cdv A outer s H vs Q E hr h => ?_)
  · obtain ⟨a, fp, d, D, q, L, most, sure, i, rfl, _⟩ := h
    rfl
  · have hu := hu1 hr
    have clD := M.clD
    have clL := M.clL
    have nD_kept := M.nD_kept
    have nD_late := M.nD_late
    have nD_names := M.nD_names
    have nD_sure := M.nD_sure
    have nD_changes := M.nD_changes
    have nD_next := M.nD_next
    have nL_disk := M.nL_disk
    have nL_most := M.nL_most
    have nL_parts := M.nL_parts
    have nL_sure := M.nL_sure
    refine ⟨_, (pss_cons (ps_expr (pe_meth (pe_fld (pv 0) rfl) M.clD M.m_Disk_sync (ok_Disk_sync M) (hr.mono (by decide)) M.b_Disk_sync .nil pass0 (pa_cons (pe_call (okL_part_name M) (hr.mono (by decide)) rfl M.g_part_name M.k_part_name M.b_part_name .nil pass0 (pa_cons (pe_ix (r := rIxL K) ix_list (pe_ix (r := rIxL K) ix_list (pe_fld (pv 0) rfl) (pe_un un_neg pe_int) (fun _ _ => rfl)) pe_int (fun _ _ => rfl)) pa_nil)) pa_nil)))
    (pss_cons (ps_fld (pv 0) (pe_meth0 (pv 0) M.clL M.m_Log_next (ok_Log_next M) (hr.mono (by decide)) M.b_Log_next .nil pass0) rfl)
    (pss_one (ps_ret (pe_fld (pv 0) rfl))))), ?_⟩
    try dsimp only [cxOf, Cx.nox]
    obtain ⟨a, fp, d, D, q, L, most, sure, i, rfl, ⟨fl, fd, rfl, dj, la, dk⟩, hn, hx, sm2, kq⟩ := h
    refine w_start (σ' := [some (.ref a)]) rfl ?_
    have la0 := la
    obtain ⟨p, rows, rfl, lp⟩ := la
    obtain ⟨dx, hi⟩ := lp.ins
    obtain ⟨k0, l0, n0, s0, c0, su0, cv0, efd, ⟨_, ⟨dx0, gi⟩, _⟩⟩ := id dk
    obtain ⟨rs, r, rfl, g1, g2, hp⟩ := lp.last
    have a2 : atI [V.int (q.1 : Int), .ref r.2] (0 : Int) = some (.int (q.1 : Int)) := atI_nat (j := 0) rfl
    (repeat array_get_dec)
    refine ⟨q.1, rfl, hn, ?_⟩
    (repeat array_get_dec)
    have eD : (syncD D i).kept.length = D.kept.length := by unfold syncD; rw [List.length_set]
    refine ⟨d, fd, D, _, _, i, rfl, dk, hx, eD ▸ sm2, fun H1 dk1 fr1 => ?_⟩
    have la1 := la0.keep (H' := H1) fun b o e m => fr1.1 b o e (dj b m)
    have lp1 := lp.keep (H' := H1) fun b o e m => fr1.1 b o e (dj b m)
    have hi1 := fr1.1 _ _ hi (dj _ (by simp))
    (repeat array_get_dec)
    refine ⟨a, _, d, q, L, most, sure, rfl, la1, ?_⟩
    (repeat array_get_dec)
    have lp2 := lp1.setSure (dx := dx) (q.1 + q.2.length)
    have dk1' : DiskAt M.CD H1 d fd (syncD D i) := by show DiskN _ _ _ _ _ (syncD D i).kept.length; rw [eD]; exact dk1
    obtain ⟨ld2, F2⟩ := ld_log (H' := upd H1 a (.ins M.CL dx (lF d p most (q.1 + q.2.length)))) dk1' dj ((Fr.refl (a :: p :: rfp (rs ++ [r])) H1).put (by simp)) ⟨p, _, rfl, lp2⟩
    obtain ⟨_, F1⟩ := ld_disk la0 dj fr1 dk1'
    exact kq _ ld2 (F1.trans F2)
end
end K53

namespace K53
open PySem PySem.Spec PyProof.Rows L2
local macro_rules | `(tactic| array_mem_dec) => `(tactic| first | with_reducible assumption | with_reducible exact upd_same | ((with_reducible apply same_at); (with_reducible assumption); array_mem_dec) | ((with_reducible apply upd_atN); (with_reducible assumption); array_mem_dec) | ((with_reducible apply upd_at); (first | with_reducible assumption | (apply Ne.symm; with_reducible assumption)); array_mem_dec))
local macro_rules | `(tactic| array_get_dec) => `(tactic| first | (with_reducible refine w_seq ?_) | (with_reducible refine w_asg ?_) | (with_reducible refine w_drop ?_) | (with_reducible refine w_ret ?_) | (with_reducible refine w_retN ?_) | (with_reducible refine w_next ?_) | (with_reducible refine w_break ?_) | (with_reducible refine w_cont ?_) | (with_reducible refine w_ifS ?_) | (with_reducible refine w_sub ?_) | (with_reducible refine w_c ?_) | (with_reducible refine w_op ?_) | (with_reducible refine w_un ?_) | (with_reducible refine w_test ?_) | (with_reducible refine w_B ?_) | (with_reducible refine w_yes ?_) | (with_reducible refine w_not ?_) | (with_reducible refine w_and ?_) | (with_reducible refine w_or ?_) | (with_reducible refine w_andV ?_) | (with_reducible refine w_orV ?_) | (with_reducible refine w_notV ?_) | (with_reducible refine w_ifE ?_) | (with_reducible refine w_nil ?_) | (with_reducible refine w_cons ?_) | (with_reducible refine w_call ?_) | (with_reducible refine w_callS ?_) | (with_reducible refine w_cB ?_) | (with_reducible refine w_lst ?_) | (with_reducible refine w_tup ?_) | (with_reducible refine w_sl ?_) | (with_reducible refine w_noPart ?_) | (with_reducible refine w_part ?_) | (with_reducible refine w_bm ?_) | (with_reducible refine w_bm0 ?_) | (with_reducible refine w_strTy ?_) | (with_reducible refine w_bl ?_) | (with_reducible refine w_int1 ?_) | (with_reducible refine w_str1 ?_) | (with_reducible refine w_rI0 ?_) | (with_reducible refine w_rU ?_) | (with_reducible refine w_eqI ?_) | (with_reducible refine w_eqS ?_) | (with_reducible refine w_neI ?_) | (with_reducible refine w_neS ?_) | (with_reducible refine w_bl2 ?_) | (with_reducible refine w_isN ?_) | (with_reducible refine w_for ?_) | (with_reducible refine w_iRng1 ?_) | (with_reducible refine w_iRng2 ?_) | (with_reducible refine w_iList ?_) | (with_reducible refine w_iTup ?_) | (with_reducible refine w_iStr ?_) | (with_reducible refine w_lc ?_) | (with_reducible refine w_M1 ?_) | (with_reducible refine w_M0 ?_) | (with_reducible refine w_isS ?_) | ((with_reducible apply w_name); (simp only [wipe, List.map_cons, List.map_nil, List.foldl_cons, List.foldl_nil, List.set_cons_zero, List.set_cons_succ]; exact rfl)) | ((with_reducible apply w_var); exact rfl) | ((with_reducible apply w_lstTy); array_mem_dec) | ((with_reducible apply w_lenL); array_mem_dec) | ((with_reducible apply w_lenT); array_mem_dec) | ((with_reducible apply w_listOf); array_mem_dec) | ((with_reducible apply w_lenS); (first | (with_reducible assumption) | omega | (rw [sizeLine_eq]; omega))) | ((with_reducible apply w_slS); (first | (with_reducible assumption) | omega | (rw [sizeLine_eq]; omega))) | ((with_reducible apply w_wipe); exact rfl) | ((with_reducible apply w_acc); array_mem_dec; (try (first | (with_reducible assumption) | omega | (rw [sizeLine_eq]; omega)))) | ((with_reducible apply w_itl); array_mem_dec) | ((with_reducible apply w_itt); array_mem_dec) | ((with_reducible apply w_append); array_mem_dec; (try (first | (with_reducible assumption) | omega | (rw [sizeLine_eq]; omega)))) | ((with_reducible apply w_rng1); (first | (with_reducible assumption) | omega); (first | (with_reducible assumption) | omega)) | ((with_reducible apply w_ixL); array_mem_dec; (first | (with_reducible assumption) | exact rfl | (apply atI_nat; (with_reducible assumption)) | exact atI_last _ _)) | ((with_reducible apply w_ixT); array_mem_dec; (first | (with_reducible assumption) | exact rfl | (apply atI_nat; (with_reducible assumption)) | exact atI_last _ _)) | ((with_reducible apply w_iT); first | exact rfl | (with_reducible assumption)) | ((with_reducible apply w_iF); first | exact rfl | (with_reducible assumption)) | ((with_reducible apply w_isiI (b := true)); decide +kernel) | ((with_reducible apply w_isiI (b := false)); decide +kernel) | ((with_reducible apply w_isiB (b := true)); decide +kernel) | ((with_reducible apply w_isiB (b := false)); decide +kernel) | ((with_reducible apply w_isiS (b := true)); decide +kernel) | ((with_reducible apply w_isiS (b := false)); decide +kernel) | ((with_reducible apply w_isiN (b := true)); decide +kernel) | ((with_reducible apply w_isiN (b := false)); decide +kernel) | ((with_reducible apply w_isiL (b := true)); array_mem_dec; decide +kernel) | ((with_reducible apply w_isiL (b := false)); array_mem_dec; decide +kernel) | ((with_reducible apply w_isiT (b := true)); array_mem_dec; decide +kernel) | ((with_reducible apply w_isiT (b := false)); array_mem_dec; decide +kernel) | (with_reducible refine w_notT ?_) | (with_reducible refine w_chain ?_) | ((with_reducible apply w_trL); array_mem_dec) | ((with_reducible apply w_gTup); array_mem_dec; exact rfl) | ((with_reducible apply w_gLst); array_mem_dec; exact rfl) | (with_reducible refine w_gCons ?_) | (with_reducible refine w_gNil ?_) | (with_reducible refine w_Fld ?_) | (with_reducible refine w_sFld ?_) | (with_reducible refine w_dget ?_) | (with_reducible refine w_dIn ?_) | (with_reducible refine w_dNotIn ?_) | (with_reducible refine w_sDPut ?_) | (with_reducible refine w_dnewK ?_) | (with_reducible refine w_meth ?_) | (with_reducible refine w_make ?_) | (with_reducible refine w_methS ?_) | (with_reducible refine w_makeS ?_) | (with_reducible refine w_dpop ?_) | ((with_reducible apply w_fld1); array_mem_dec; (with_reducible assumption); (with_reducible assumption); exact rfl) | ((with_reducible apply w_sfld1); array_mem_dec; (with_reducible assumption); (with_reducible assumption); exact Nat.le_of_ble_eq_true rfl) | ((with_reducible apply w_meth1); array_mem_dec; exact rfl) | ((with_reducible apply w_dgetS); array_mem_dec; (with_reducible assumption)) | ((with_reducible apply w_dgetI); array_mem_dec; (with_reducible assumption)) | ((with_reducible apply w_dinS); array_mem_dec) | ((with_reducible apply w_dputI); array_mem_dec; (try (first | (with_reducible assumption) | omega | (rw [sizeLine_eq]; omega)))) | ((with_reducible apply w_dputS); array_mem_dec; (try (first | (with_reducible assumption) | omega | (rw [sizeLine_eq]; omega)))) | ((with_reducible apply w_isD); array_mem_dec) | ((with_reducible apply w_dictD); array_mem_dec) | ((with_reducible apply w_dpopS); array_mem_dec; (with_reducible assumption)))
def Rot (D : DS) (L : PL) (q : Nat × List (List Nat)) (most sure : Nat) (D2 : DS) (L2 : PL) (q2 : Nat × List (List Nat)) (sure2 : Nat) : Prop :=
  (¬ most ≤ q.2.length ∧ D2 = D ∧ L2 = L ∧ q2 = q ∧ sure2 = sure) ∨
  (most ≤ q.2.length ∧ ∃ i, q.1 ≤ 999999 ∧ D.names.lookup (partL q.1) = some i ∧ small (syncD D i) (syncD D i).kept.length ∧ q.1 + q.2.length ≤ 999999 ∧ (L ++ [q]).length < 40 ∧ (syncD D i).names.lookup (partL (q.1 + q.2.length)) = none ∧
    small (makeD (syncD D i) (partL (q.1 + q.2.length))) (makeD (syncD D i) (partL (q.1 + q.2.length))).kept.length ∧ D2 = syncN (makeD (syncD D i) (partL (q.1 + q.2.length))) ∧ L2 = L ++ [q] ∧ q2 = (q.1 + q.2.length, []) ∧ sure2 = q.1 + q.2.length)
def spAdd (CD CL : Addr) : Sp := fun vs H Q _ => ∃ (a : Addr) (fp : List Addr) (d : Addr) (D : DS) (q : Nat × List (List Nat)) (L : PL) (most sure : Nat) (t : List Nat) (D2 : DS) (L2 : PL) (q2 : Nat × List (List Nat)) (sure2 i : Nat), vs = [.ref a, .str (mkS t)] ∧ LD CD CL H a fp d D (L ++ [q]) most sure ∧
  t.length ≤ 1000 ∧ goodT t ∧ ¬ 63 ∈ frameL t ∧ Rot D L q most sure D2 L2 q2 sure2 ∧ q2.1 ≤ 999999 ∧ q2.2.length < 1000 ∧ D2.names.lookup (partL q2.1) = some i ∧ small (writeD D2 i (frameL t)) (writeD D2 i (frameL t)).kept.length ∧
  ∀ H' fp' v, LD CD CL H' a fp' d (writeD D2 i (frameL t)) (L2 ++ [(q2.1, q2.2 ++ [t])]) most sure2 → Fr fp fp' H H' → Q v H'
def textAt (L : PL) (n : Nat) : Option (List Nat) := match (L.filter fun q => decide (q.1 ≤ n)).getLast? with | some q => q.2[n - q.1]? | none => none
def spText1 (CL : Addr) : Sp := fun vs H Q _ => ∃ (a : Addr) (fp : List Addr) (d : Addr) (q0 q : Nat × List (List Nat)) (L L0 : PL) (most sure n : Nat) (t : List Nat), vs = [.ref a, .int (n : Int)] ∧ LogAt CL H a fp d (q0 :: L) most sure ∧ q0 :: L = L0 ++ [q] ∧ q0.1 ≤ n ∧ n < q.1 + q.2.length ∧
  textAt (q0 :: L) n = some t ∧ ∀ H', Same H H' → Q (.str (mkS t)) H'
def spTexts (CL : Addr) : Sp := fun vs H Q _ => ∃ (a : Addr) (fp : List Addr) (d : Addr) (q0 q : Nat × List (List Nat)) (L L0 : PL) (most sure n : Nat) (ts : List (List Nat)), vs = [.ref a, .int (n : Int)] ∧ LogAt CL H a fp d (q0 :: L) most sure ∧ q0 :: L = L0 ++ [q] ∧ q0.1 ≤ n ∧ n + ts.length = q.1 + q.2.length ∧ ts.length ≤ 1000 ∧ q.1 + q.2.length ≤ 1000000 ∧
  (∀ j t, ts[j]? = some t → textAt (q0 :: L) (n + j) = some t) ∧ ∀ p H', Same H H' → H p = none → H' p = some (.lst (vT ts)) → Q (.ref p) H'
def spParts (CL : Addr) : Sp := fun vs H Q _ => ∃ (a : Addr) (fp : List Addr) (d : Addr) (L : PL) (most sure : Nat), vs = [.ref a] ∧ LogAt CL H a fp d L most sure ∧
  ∀ p H' (ts : List Addr), Same H H' → H p = none → H' p = some (.lst (ts.map V.ref)) → ts.length = L.length → (∀ (i : Nat) (q : Nat × List (List Nat)) (t : Addr), L[i]? = some q → ts[i]? = some t → H' t = some (.tup [.int (q.1 : Int), .int (q.2.length : Int)])) → Q (.ref p) H'
theorem row_at0 {H : Hp} {a : Addr} {x y : V} (_ : H a = some (.lst [x, y])) : atI [x, y] (0 : Int) = some x := atI_nat (j := 0) rfl
theorem row_at1 {H : Hp} {a : Addr} {x y : V} (_ : H a = some (.lst [x, y])) : atI [x, y] (1 : Int) = some y := atI_nat (j := 1) rfl
theorem Fr.as {f g g' : List Addr} {H G : Hp} (x : Fr f g H G) (e : g = g') : Fr f g' H G := e ▸ x
theorem LogP.lastAt {CL : Addr} {H : Hp} {a p d : Addr} {rs : List (Addr × Addr)} {r : Addr × Addr} {L0 : PL} {q : Nat × List (List Nat)} {most sure : Nat} (x : LogP CL H a p d (rs ++ [r]) (L0 ++ [q]) most sure) :
    H r.1 = some (.lst [.int (q.1 : Int), .ref r.2]) ∧ H r.2 = some (.lst (vT q.2)) ∧ H p = some (.lst ((rs.map fun r => V.ref r.1) ++ [.ref r.1])) := by
  obtain ⟨rs', r', e, g1, g2, g3⟩ := x.last
  obtain ⟨e1, e2⟩ := List.append_inj' e rfl
  have e3 : r = r' := by simpa using e2
  subst e1 e3
  exact ⟨g1, g2, g3⟩
theorem vT_small {ts : List (List Nat)} (h : ts.length ≤ 1000000) : (vT ts).length < sizeLine := by unfold vT; rw [List.length_map, sizeLine_eq]; omega
theorem vT_snoc (ts : List (List Nat)) (t : List Nat) : vT (ts ++ [t]) = vT ts ++ [.str (mkS t)] := by unfold vT; rw [List.map_append]; rfl
theorem LogP.growAt {CL : Addr} {H : Hp} {a p d : Addr} {rs : List (Addr × Addr)} {r : Addr × Addr} {L0 : PL} {q : Nat × List (List Nat)} {most sure : Nat} (x : LogP CL H a p d (rs ++ [r]) (L0 ++ [q]) most sure) (t : List Nat) (sm : q.2.length < 1000000) :
    LogP CL (upd H r.2 (.lst (vT q.2 ++ [.str (mkS t)]))) a p d (rs ++ [r]) (L0 ++ [(q.1, q.2 ++ [t])]) most sure := x.grow (fun b o e nb => by rw [upd_ne nb]; exact e) (by rw [upd_same, vT_snoc]) sm
theorem vT_length (ts : List (List Nat)) : (vT ts).length = ts.length := by unfold vT; rw [List.length_map]
theorem last_row {rows : List (Addr × Addr)} {L : PL} {n : Nat} {t : List Nat} (hl : rows.length = L.length) (h : textAt L n = some t) :
    ∃ Z0 r part, ((rows.zip L).filter fun x => decide (x.2.1 ≤ n)) = Z0 ++ [(r, part)] ∧ part.2[n - part.1]? = some t ∧ part.1 ≤ n := by
  unfold textAt at h
  have e : ((rows.zip L).filter fun x => decide (x.2.1 ≤ n)).map (·.2) = L.filter fun q => decide (q.1 ≤ n) := by
    have e0 : (rows.zip L).map (·.2) = L := List.map_snd_zip (by omega)
    conv => rhs; rw [← e0]
    rw [List.filter_map]; rfl
  rw [← e] at h
  split at h
  · rename_i q hq
    rcases List.eq_nil_or_concat ((rows.zip L).filter fun x => decide (x.2.1 ≤ n)) with z | ⟨Z0, x, z⟩
    · rw [z] at hq; simp at hq
    · rw [List.concat_eq_append] at z
      rw [z, List.map_append] at hq
      simp at hq
      refine ⟨Z0, x.1, x.2, z, by rw [hq]; exact h, ?_⟩
      have m : x ∈ (rows.zip L).filter fun x => decide (x.2.1 ≤ n) := by rw [z]; simp
      have := (List.mem_filter.mp m).2
      exact of_decide_eq_true this
  · cases h
section
variable {P : Program} {w : World} {K : PySem.W.Frag} {mg : Str → Option Value} {base : Heap}
theorem ok_Log_add (M : Nms K mg) : FnOk P w K mg base CX0 5 M.a_Log_add M.d_Log_add ["self", "text"] (spAdd M.CD M.CL) := by
  refine M.F_Log_add.ok sc_Log_add (fun vs H Q E h => ?_) (fun cdv A outer s H vs Q E hr h => ?_)
  · obtain ⟨a, fp, d, D, q, L, most, sure, t, D2, L2, q2, sure2, i, rfl, _⟩ := h
    rfl
  · have hu := hu1 hr
    have clD := M.clD
    have clL := M.clL
    have nD_kept := M.nD_kept
    have nD_late := M.nD_late
    have nD_names := M.nD_names
    have nD_sure := M.nD_sure
    have nD_changes := M.nD_changes
    have nD_next := M.nD_next
    have nL_disk := M.nL_disk
    have nL_most := M.nL_most
    have nL_parts := M.nL_parts
    have nL_sure := M.nL_sure
    refine ⟨_, (pss_cons (ps_expr (pe_call (ok_checked_text M) (hr.mono (by decide)) rfl M.g_checked_text M.k_checked_text M.b_checked_text .nil pass0 (pa_cons (pv 1) pa_nil)))
    (pss_cons (ps_if (pt_cmpR op_ge (pe_callB call_len (by rfl) M.T.b_len (by decide +kernel) (pa_cons (pe_ix (r := rIxL K) ix_list (pe_ix (r := rIxL K) ix_list (pe_fld (pv 0) rfl) (pe_un un_neg pe_int) (fun _ _ => rfl)) pe_int (fun _ _ => rfl)) pa_nil)) (pe_fld (pv 0) rfl) (nomark _)) (pss_cons (ps_expr (pe_meth0 (pv 0) M.clL M.m_Log_sync (ok_Log_sync M) (hr.mono (by decide)) M.b_Log_sync .nil pass0))
    (pss_one (ps_expr (pe_meth (pv 0) M.clL M.m_Log__begin (ok_Log__begin M) (hr.mono (by decide)) M.b_Log__begin .nil pass0 (pa_cons (pe_meth0 (pv 0) M.clL M.m_Log_next (ok_Log_next M) (hr.mono (by decide)) M.b_Log_next .nil pass0) pa_nil))))) pss_nil)
    (pss_cons (ps_expr (pe_meth (pe_fld (pv 0) rfl) M.clD M.m_Disk_write (ok_Disk_write M) (hr.mono (by decide)) M.b_Disk_write .nil pass0 (pa_cons (pe_call (okL_part_name M) (hr.mono (by decide)) rfl M.g_part_name M.k_part_name M.b_part_name .nil pass0 (pa_cons (pe_ix (r := rIxL K) ix_list (pe_ix (r := rIxL K) ix_list (pe_fld (pv 0) rfl) (pe_un un_neg pe_int) (fun _ _ => rfl)) pe_int (fun _ _ => rfl)) pa_nil)) (pa_cons (pe_call (ok_framed M) (hr.mono (by decide)) rfl M.g_framed M.k_framed M.b_framed .nil pass0 (pa_cons (pv 1) pa_nil)) pa_nil))))
    (pss_cons (ps_expr (pe_bm PySem.F.plainAttrs_list PySem.F.slot_list_append PySem.F.type_list_append mt_append (pe_ix (r := rIxL K) ix_list (pe_ix (r := rIxL K) ix_list (pe_fld (pv 0) rfl) (pe_un un_neg pe_int) (fun _ _ => rfl)) pe_int (fun _ _ => rfl)) (pa_cons (pv 1) pa_nil)))
    (pss_one (ps_ret (pe_op op_sub (pe_meth0 (pv 0) M.clL M.m_Log_next (ok_Log_next M) (hr.mono (by decide)) M.b_Log_next .nil pass0) pe_int))))))), ?_⟩
    try dsimp only [cxOf, Cx.nox]
    obtain ⟨a, fp, d, D, q, L, most, sure, t, D2, L2, q2, sure2, i, rfl, ld, ht, hg, h63, hrot, hq2, hl2, hx, sm2, kq⟩ := h
    refine w_start (σ' := [some (.ref a), some (.str (mkS t))]) rfl ?_
    have lt : (mkS t).length = t.length := len_tl _
    have lf := frame_len t (by omega)
    (repeat array_get_dec)
    refine ⟨mkS t, rfl, by omega, hg, fun H1 s1 => ?_⟩
    have ld1 := ld.same s1
    have F0 : Fr fp fp H H1 := Fr.same s1
    obtain ⟨fl, fd, ef0, dj, la, dk⟩ := id ld1
    obtain ⟨p, rows, ef1, lp⟩ := id la
    obtain ⟨dx, hi⟩ := lp.ins
    obtain ⟨rs, r, rfl, g1, g2, hp⟩ := lp.last
    have a3 : atI [V.int (q.1 : Int), .ref r.2] (1 : Int) = some (.ref r.2) := atI_nat (j := 1) rfl
    (repeat array_get_dec)
    rw [vT_length]
    rcases hrot with ⟨hm, rfl, rfl, rfl, rfl⟩ | ⟨hm, i0, b1, b2, b3, b4, b5, b6, b7, rfl, rfl, rfl, rfl⟩
    · refine iteF' (by simp; omega) ?_
      (repeat array_get_dec)
      have F1 := F0
      have ld2 := ld1
      obtain ⟨fl, fd, ef, dj, la, dk⟩ := id ld2
      obtain ⟨p, rows, ef2, lp⟩ := id la
      obtain ⟨dx, hi⟩ := lp.ins
      obtain ⟨rs, r, rfl, g1, g2, hp⟩ := lp.last
      obtain ⟨k0, l0, n0, s0, c0, su0, cv0, efd, ⟨_, ⟨dx0, gi⟩, _⟩⟩ := id dk
      have a2 := row_at0 g1
      (repeat array_get_dec)
      refine ⟨_, rfl, hq2, ?_⟩
      (repeat array_get_dec)
      refine ⟨mkS t, rfl, by omega, hg, fun H4 s4 => ?_⟩
      (repeat array_get_dec)
      refine ⟨d, fd, _, _, _, i, frameL t, rfl, dk.same s4, hx, h63, by omega, sm2, fun H5 dk5 fr5 => ?_⟩
      have la4 := la.same s4
      have lp5 := (lp.keep (H' := H4) fun b o e _ => s4 b o e).keep (H' := H5) fun b o e m => fr5.1 b o e (dj b (by rw [ef2]; exact m))
      have dj5 := dj_step la4 dj fr5
      obtain ⟨dx5, hi5⟩ := lp5.ins
      obtain ⟨h1, h2, hp5⟩ := lp5.lastAt
      have a4 := row_at1 h1
      have lz : (vT _).length < sizeLine := vT_small (lp5.sm.2 _ (List.mem_append_right _ (List.mem_singleton.mpr rfl)))
      have lp6 := lp5.growAt t (by omega)
      have la6 : LogAt _ _ a fl d _ _ _ := ⟨p, _, ef2, lp6⟩
      obtain ⟨dx6, hi6⟩ := lp6.ins
      (repeat array_get_dec)
      refine ⟨a, _, d, _, _, most, _, rfl, la6, ?_⟩
      (repeat array_get_dec)
      obtain ⟨ld6, F6⟩ := ld_log dk5 dj5 ((Fr.refl fl H5).put (a := r.2) (by rw [ef2, rfp_app]; simp [rfp])) la6
      obtain ⟨_, F5⟩ := ld_disk la4 dj fr5 dk5
      have F4 := F1.as ef
      exact kq _ _ _ ld6 (((F4.trans (Fr.same s4)).trans F5).trans F6)
    · refine iteT' (by simp; omega) ?_
      (repeat array_get_dec)
      refine ⟨a, _, d, D, q, L, most, sure, i0, rfl, ld1, b1, b2, b3, fun H2 ld2 F2 => ?_⟩
      (repeat array_get_dec)
      obtain ⟨fl, fd, e2, dj, la, dk⟩ := id ld2
      obtain ⟨p, rows, e3, lp⟩ := id la
      obtain ⟨dx, hi2⟩ := lp.ins
      (repeat array_get_dec)
      refine ⟨a, _, d, q, L, most, _, rfl, la, ?_⟩
      (repeat array_get_dec)
      refine ⟨a, _, d, _, L ++ [q], most, _, q.1 + q.2.length, rfl, ld2, b4, b5, b6, b7, fun H3 fp3 ld3 F3 => ?_⟩
      (repeat array_get_dec)
      have F1 := (F0.trans F2).trans F3
      have ld2 := ld3
      obtain ⟨fl, fd, ef, dj, la, dk⟩ := id ld2
      obtain ⟨p, rows, ef2, lp⟩ := id la
      obtain ⟨dx, hi⟩ := lp.ins
      obtain ⟨rs, r, rfl, g1, g2, hp⟩ := lp.last
      obtain ⟨k0, l0, n0, s0, c0, su0, cv0, efd, ⟨_, ⟨dx0, gi⟩, _⟩⟩ := id dk
      have a2 := row_at0 g1
      (repeat array_get_dec)
      refine ⟨_, rfl, hq2, ?_⟩
      (repeat array_get_dec)
      refine ⟨mkS t, rfl, by omega, hg, fun H4 s4 => ?_⟩
      (repeat array_get_dec)
      refine ⟨d, fd, _, _, _, i, frameL t, rfl, dk.same s4, hx, h63, by omega, sm2, fun H5 dk5 fr5 => ?_⟩
      have la4 := la.same s4
      have lp5 := (lp.keep (H' := H4) fun b o e _ => s4 b o e).keep (H' := H5) fun b o e m => fr5.1 b o e (dj b (by rw [ef2]; exact m))
      have dj5 := dj_step la4 dj fr5
      obtain ⟨dx5, hi5⟩ := lp5.ins
      obtain ⟨h1, h2, hp5⟩ := lp5.lastAt
      have a4 := row_at1 h1
      have lz : (vT _).length < sizeLine := vT_small (lp5.sm.2 _ (List.mem_append_right _ (List.mem_singleton.mpr rfl)))
      have lp6 := lp5.growAt t (by omega)
      have la6 : LogAt _ _ a fl d _ _ _ := ⟨p, _, ef2, lp6⟩
      obtain ⟨dx6, hi6⟩ := lp6.ins
      (repeat array_get_dec)
      refine ⟨a, _, d, _, _, most, _, rfl, la6, ?_⟩
      (repeat array_get_dec)
      obtain ⟨ld6, F6⟩ := ld_log dk5 dj5 ((Fr.refl fl H5).put (a := r.2) (by rw [ef2, rfp_app]; simp [rfp])) la6
      obtain ⟨_, F5⟩ := ld_disk la4 dj fr5 dk5
      have F4 := F1.as ef
      exact kq _ _ _ ld6 (((F4.trans (Fr.same s4)).trans F5).trans F6)
theorem ok_Log_text (M : Nms K mg) : FnOk P w K mg base CX0 2 M.a_Log_text M.d_Log_text ["self", "number"] (spText1 M.CL) := by
  refine M.F_Log_text.ok sc_Log_text (fun vs H Q E h => ?_) (fun cdv A outer s H vs Q E hr h => ?_)
  · obtain ⟨a, fp, d, q0, q, L, L0, most, sure, n, t, rfl, _⟩ := h
    rfl
  · have hu := hu1 hr
    have clD := M.clD
    have clL := M.clL
    have nD_kept := M.nD_kept
    have nD_late := M.nD_late
    have nD_names := M.nD_names
    have nD_sure := M.nD_sure
    have nD_changes := M.nD_changes
    have nD_next := M.nD_next
    have nL_disk := M.nL_disk
    have nL_most := M.nL_most
    have nL_parts := M.nL_parts
    have nL_sure := M.nL_sure
    refine ⟨_, (pss_cons (ps_if (pt_not (pt_val (pe_call (ok_is_number M) (hr.mono (by decide)) rfl M.g_is_number M.k_is_number M.b_is_number .nil pass0 (pa_cons (pv 1) (pa_cons (pe_meth0 (pv 0) M.clL M.m_Log_first (ok_Log_first M) (hr.mono (by decide)) M.b_Log_first .nil pass0) (pa_cons (pe_op op_sub (pe_meth0 (pv 0) M.clL M.m_Log_next (ok_Log_next M) (hr.mono (by decide)) M.b_Log_next .nil pass0) pe_int) pa_nil)))))) (pss_one ps_never) pss_nil)
    (pss_cons (ps_set (i := 2) sc_Log_text.nd rfl (Or.inl rfl) (pe_ix (r := rIxL K) ix_list (pe_lc (own := [("row", 3)]) rfl sc_Log_text.nd (pi_list (pe_fld (pv 0) rfl)) (blkOk_by (N := ["self", "number", "part", "row"]) (sc := defScope s_Log_text) (own := [("row", 3)]) (by decide +kernel)) (fun _ _ _ _ _ => (pg_name (i := 3) sc_Log_text.nd rfl (Or.inl rfl))) (fun _ _ _ _ _ => pts_one (pt_cmpR op_le (pe_ix (r := rIxL K) ix_list (pv 3) pe_int (fun _ _ => rfl)) (pv 1) (nomark _))) (fun _ _ _ _ _ => (pv 3))) (pe_un un_neg pe_int) (fun _ _ => rfl)))
    (pss_one (ps_ret (pe_ix (r := rIxL K) ix_list (pe_ix (r := rIxL K) ix_list (pv 2) pe_int (fun _ _ => rfl)) (pe_op op_sub (pv 1) (pe_ix (r := rIxL K) ix_list (pv 2) pe_int (fun _ _ => rfl))) (fun _ _ => rfl)))))), ?_⟩
    try dsimp only [cxOf, Cx.nox]
    obtain ⟨a, fp, d, q0, q, L, L0, most, sure, n, t, rfl, la, eL, b1, b2, ht, kq⟩ := h
    refine w_start (σ' := [some (.ref a), some (.int (n : Int)), none, none]) rfl ?_
    have la' := la
    rw [eL] at la'
    obtain ⟨p, rows, ef, lp⟩ := id la
    obtain ⟨dx, hi⟩ := lp.ins
    have hp := lp.hp
    (repeat array_get_dec)
    refine ⟨a, _, d, q0, L, most, sure, rfl, la, ?_⟩
    (repeat array_get_dec)
    refine ⟨a, _, d, q, L0, most, sure, rfl, la', ?_⟩
    (repeat array_get_dec)
    refine ⟨_, _, .inl ⟨_, rfl, ?_⟩⟩
    (repeat array_get_dec)
    have eb : (decide (((q0.1 : Nat) : Int) ≤ (n : Int)) && decide ((n : Int) ≤ ((q.1 + q.2.length : Nat) : Int) - 1)) = true := by
      rw [Bool.and_eq_true, decide_eq_true_eq, decide_eq_true_eq]
      omega
    rw [eb]
    (repeat array_get_dec)
    intro A hA
    obtain ⟨Z0, r, part, hz, hpt, hn⟩ := last_row (rows := rows) lp.len ht
    have g : ∀ x ∈ rows.zip (q0 :: L), H x.1.1 = some (.lst [.int (x.2.1 : Int), .ref x.1.2]) ∧ H x.1.2 = some (.lst (vT x.2.2)) := fun x hx => by
      obtain ⟨i, hi, e⟩ := List.getElem_of_mem hx
      have hi1 : i < rows.length := by rw [List.length_zip] at hi; omega
      have hi2 : i < (q0 :: L).length := by rw [List.length_zip] at hi; omega
      rw [List.getElem_zip] at e
      have := lp.row i rows[i] (q0 :: L)[i] (by simp [hi1]) (List.getElem?_eq_getElem hi2)
      rw [← e]
      exact this
    refine lc_list (K := K) (a := p) (xs := rows.map fun r => V.ref r.1) (fun i H' => H' A = some (.lst ((((rows.zip (q0 :: L)).take i).filter fun x => decide (x.2.1 ≤ n)).map fun x => V.ref x.1.1)) ∧ ∀ b, b ≠ A → H' b = H b) ⟨upd_same, fun b nb => upd_ne nb⟩ ?_ ?_ ?_
    · rintro i H' _ ⟨h1, h2⟩
      exact SqL.of (by rw [h2 p (ne_of_none hp hA)]; exact hp)
    · rintro i x H' hx ⟨h1, h2⟩
      have hi1 : i < rows.length := by have := (List.getElem?_eq_some_iff.mp hx).1; rw [List.length_map] at this; exact this
      have hi2 : i < (q0 :: L).length := by rw [← lp.len]; exact hi1
      have hz1 : (rows.zip (q0 :: L))[i]? = some (rows[i], (q0 :: L)[i]) := by rw [List.getElem?_eq_getElem (by rw [List.length_zip]; omega), List.getElem_zip]
      obtain rfl : x = V.ref rows[i].1 := by rw [List.getElem?_map, List.getElem?_eq_getElem hi1] at hx; exact (Option.some.inj hx).symm
      generalize rows[i] = z1 at *
      generalize (q0 :: L)[i] = z2 at *
      have et := take_snoc hz1
      obtain ⟨w1, w2⟩ := g _ (List.mem_of_getElem? hz1)
      have w3 : H' z1.1 = some (.lst [.int (z2.1 : Int), .ref z1.2]) := by rw [h2 _ (ne_of_none w1 hA)]; exact w1
      have a2 := row_at0 w3
      have lz : ((((rows.zip (q0 :: L)).take i).filter fun x => decide (x.2.1 ≤ n)).map fun x => V.ref x.1.1).length < sizeLine := by
        have := List.length_filter_le (fun x : (Addr × Addr) × (Nat × List (List Nat)) => decide (x.2.1 ≤ n)) ((rows.zip (q0 :: L)).take i)
        rw [List.length_map]
        rw [List.length_take] at this
        have := lp.sm.1
        rw [sizeLine_eq]
        omega
      (repeat array_get_dec)
      rw [show decide (((z2.1 : Nat) : Int) ≤ (n : Int)) = decide (z2.1 ≤ n) by rw [Bool.eq_iff_iff, decide_eq_true_eq, decide_eq_true_eq]; omega]
      refine ite2 (fun hb => ?_) (fun hb => ?_)
      · (repeat array_get_dec)
        refine ⟨?_, fun b nb => by rw [upd_ne nb]; exact h2 b nb⟩
        rw [upd_same, et, List.filter_append, List.map_append]
        simp [of_decide_eq_true hb]
      · refine ⟨?_, h2⟩
        have hb' : ¬ z2.1 ≤ n := fun z => hb (decide_eq_true z)
        rw [h1, et, List.filter_append, List.map_append]
        simp [hb']
    · rintro H' ⟨h1, h2⟩
      rw [List.take_of_length_le (by rw [List.length_zip, List.length_map]; exact Nat.min_le_left _ _), hz, List.map_append] at h1
      have m : (r, part) ∈ rows.zip (q0 :: L) := by
        have : (r, part) ∈ (rows.zip (q0 :: L)).filter fun x => decide (x.2.1 ≤ n) := by rw [hz]; simp
        exact (List.mem_filter.mp this).1
      obtain ⟨w1, w2⟩ := g _ m
      have w3 : H' r.1 = some (.lst [.int (part.1 : Int), .ref r.2]) := by rw [h2 _ (ne_of_none w1 hA)]; exact w1
      have w4 : H' r.2 = some (.lst (vT part.2)) := by rw [h2 _ (ne_of_none w2 hA)]; exact w2
      have a2 := row_at0 w3
      have a3 := row_at1 w3
      have h1' : H' A = some (.lst ((Z0.map fun x => V.ref x.1.1) ++ [.ref r.1])) := h1
      have a4 : atI (vT part.2) ((n : Int) - (part.1 : Int)) = some (.str (mkS t)) := by
        rw [show (n : Int) - (part.1 : Int) = ((n - part.1 : Nat) : Int) by omega]
        exact atI_nat (by unfold vT; rw [List.getElem?_map, hpt]; rfl)
      (repeat array_get_dec)
      exact kq H' fun b o e => by rw [h2 b (ne_of_none e hA)]; exact e
theorem ok_Log_texts (M : Nms K mg) : FnOk P w K mg base CX0 3 M.a_Log_texts M.d_Log_texts ["self", "start"] (spTexts M.CL) := by
  refine M.F_Log_texts.ok sc_Log_texts (fun vs H Q E h => ?_) (fun cdv A outer s H vs Q E hr h => ?_)
  · obtain ⟨a, fp, d, q0, q, L, L0, most, sure, n, ts, rfl, _⟩ := h
    rfl
  · have hu := hu1 hr
    have clD := M.clD
    have clL := M.clL
    have nD_kept := M.nD_kept
    have nD_late := M.nD_late
    have nD_names := M.nD_names
    have nD_sure := M.nD_sure
    have nD_changes := M.nD_changes
    have nD_next := M.nD_next
    have nL_disk := M.nL_disk
    have nL_most := M.nL_most
    have nL_parts := M.nL_parts
    have nL_sure := M.nL_sure
    refine ⟨_, (pss_cons (ps_if (pt_not (pt_val (pe_call (ok_is_number M) (hr.mono (by decide)) rfl M.g_is_number M.k_is_number M.b_is_number .nil pass0 (pa_cons (pv 1) (pa_cons (pe_meth0 (pv 0) M.clL M.m_Log_first (ok_Log_first M) (hr.mono (by decide)) M.b_Log_first .nil pass0) (pa_cons (pe_meth0 (pv 0) M.clL M.m_Log_next (ok_Log_next M) (hr.mono (by decide)) M.b_Log_next .nil pass0) pa_nil)))))) (pss_one ps_never) pss_nil)
    (pss_one (ps_ret (pe_lc (own := [("number", 2)]) rfl sc_Log_texts.nd (pi_range2 (by rfl) M.T.b_range (pa_cons (pv 1) (pa_cons (pe_meth0 (pv 0) M.clL M.m_Log_next (ok_Log_next M) (hr.mono (by decide)) M.b_Log_next .nil pass0) pa_nil))) (blkOk_by (N := ["self", "start", "number"]) (sc := defScope s_Log_texts) (own := [("number", 2)]) (by decide +kernel)) (fun _ _ _ _ _ => (pg_name (i := 2) sc_Log_texts.nd rfl (Or.inl rfl))) (fun _ _ _ _ _ => pts_nil) (fun _ _ _ _ _ => (pe_meth (pv 0) M.clL M.m_Log_text (ok_Log_text M) (hr.mono (by decide)) M.b_Log_text .nil pass0 (pa_cons (pv 2) pa_nil))))))), ?_⟩
    try dsimp only [cxOf, Cx.nox]
    obtain ⟨a, fp, d, q0, q, L, L0, most, sure, n, ts, rfl, la, eL, b1, b2, b3, b4, ht, kq⟩ := h
    refine w_start (σ' := [some (.ref a), some (.int (n : Int)), none]) rfl ?_
    have la' := la
    rw [eL] at la'
    obtain ⟨p, rows, ef, lp⟩ := id la
    obtain ⟨dx, hi⟩ := lp.ins
    have hp := lp.hp
    (repeat array_get_dec)
    refine ⟨a, _, d, q0, L, most, sure, rfl, la, ?_⟩
    (repeat array_get_dec)
    refine ⟨a, _, d, q, L0, most, sure, rfl, la', ?_⟩
    (repeat array_get_dec)
    refine ⟨_, _, .inl ⟨_, rfl, ?_⟩⟩
    (repeat array_get_dec)
    have eb : (decide (((q0.1 : Nat) : Int) ≤ (n : Int)) && decide ((n : Int) ≤ ((q.1 + q.2.length : Nat) : Int))) = true := by
      rw [Bool.and_eq_true, decide_eq_true_eq, decide_eq_true_eq]
      omega
    rw [eb]
    (repeat array_get_dec)
    refine ⟨a, _, d, q, L0, most, sure, rfl, la', ?_⟩
    (repeat array_get_dec)
    refine ⟨_, _, rfl, ⟨by omega, by omega, by omega, by omega⟩, ?_⟩
    (repeat array_get_dec)
    have en : (((q.1 + q.2.length : Nat) : Int) - (n : Int)).toNat = ts.length := by omega
    intro A hA
    refine lc_range (fun i H' => H' A = some (.lst (vT (ts.take i))) ∧ ∀ b o, b ≠ A → H b = some o → H' b = some o) ⟨upd_same, fun b o nb e => by rw [upd_ne nb]; exact e⟩ ?_ ?_
    · rintro i H' hi2 ⟨h1, h2⟩
      rw [en] at hi2
      have eti : ts[i]? = some ts[i] := List.getElem?_eq_getElem hi2
      have laA : LogAt M.CL H' a fp d (q0 :: L) most sure := la.keep fun b o e _ => h2 b o (ne_of_none e hA) e
      have hiA : H' a = _ := h2 _ _ (ne_of_none hi hA) hi
      rw [show ((n : Int) + (i : Int)) = ((n + i : Nat) : Int) by omega]
      (repeat array_get_dec)
      refine ⟨a, _, d, q0, q, L, L0, most, sure, n + i, ts[i], rfl, laA, eL, by omega, by omega, ht i _ eti, fun H2 s2 => ?_⟩
      replace h1 := s2 _ _ h1
      have lz : (vT (ts.take i)).length < sizeLine := by rw [vT_length, List.length_take, sizeLine_eq]; omega
      (repeat array_get_dec)
      refine ⟨?_, fun b o nb e => by rw [upd_ne nb]; exact s2 _ _ (h2 b o nb e)⟩
      rw [upd_same, take_snoc eti, vT_snoc]
    · rintro H' ⟨h1, h2⟩
      rw [en, List.take_length] at h1
      exact kq A H' (fun b o e => h2 b o (ne_of_none e hA) e) hA h1
theorem ok_Log_parts (M : Nms K mg) : FnOk P w K mg base CX0 1 M.a_Log_parts M.d_Log_parts ["self"] (spParts M.CL) := by
  refine M.F_Log_parts.ok sc_Log_parts (fun vs H Q E h => ?_) (fun cdv A outer s H vs Q E hr h => ?_)
  · obtain ⟨a, fp, d, L, most, sure, rfl, _⟩ := h
    rfl
  · have hu := hu1 hr
    have clD := M.clD
    have clL := M.clL
    have nD_kept := M.nD_kept
    have nD_late := M.nD_late
    have nD_names := M.nD_names
    have nD_sure := M.nD_sure
    have nD_changes := M.nD_changes
    have nD_next := M.nD_next
    have nL_disk := M.nL_disk
    have nL_most := M.nL_most
    have nL_parts := M.nL_parts
    have nL_sure := M.nL_sure
    refine ⟨_, (pss_one (ps_ret (pe_lc (g := gLst K 2 (gCons (gName 1) (gCons (gName 2) gNil))) (own := [("first", 1), ("texts", 2)]) rfl sc_Log_parts.nd (pi_list (pe_fld (pv 0) rfl)) (blkOk_by (N := ["self", "first", "texts"]) (sc := defScope s_Log_parts) (own := [("first", 1), ("texts", 2)]) (by decide +kernel)) (fun _ _ _ _ _ => (pg_lst rfl (pgs_cons (pg_name (i := 1) sc_Log_parts.nd rfl (Or.inl rfl)) (pgs_cons (pg_name (i := 2) sc_Log_parts.nd rfl (Or.inl rfl)) pgs_nil)))) (fun _ _ _ _ _ => pts_nil) (fun _ _ _ _ _ => (pe_tup (pa_cons (pv 1) (pa_cons (pe_callB (id := "len") (r := fun xs H Q => ∃ x n, xs = [x] ∧ LenV K x H n ∧ Q (V.int ((n : Nat) : Int)) H) call_len (by rfl) M.T.b_len (by decide +kernel) (pa_cons (pv 2) pa_nil)) pa_nil))))))), ?_⟩
    try dsimp only [cxOf, Cx.nox]
    obtain ⟨a, fp, d, L, most, sure, rfl, la, kq⟩ := h
    refine w_start (σ' := [some (.ref a), none, none]) rfl ?_
    obtain ⟨p, rows, ef, lp⟩ := id la
    obtain ⟨dx, hi⟩ := lp.ins
    have hp := lp.hp
    (repeat array_get_dec)
    intro A hA
    refine lc_list (K := K) (a := p) (xs := rows.map fun r => V.ref r.1) (fun i H' => ∃ ts : List Addr, ts.length = i ∧ H' A = some (.lst (ts.map V.ref)) ∧ (∀ (j : Nat) (q : Nat × List (List Nat)) (t : Addr), L[j]? = some q → ts[j]? = some t → H' t = some (.tup [.int (q.1 : Int), .int (q.2.length : Int)])) ∧ ∀ b o, b ≠ A → H b = some o → H' b = some o)
      ⟨[], rfl, upd_same, fun j q t _ e => by simp at e, fun b o nb e => by rw [upd_ne nb]; exact e⟩ ?_ ?_ ?_
    · rintro i H' _ ⟨ts, _, h1, h3, h2⟩
      exact SqL.of (h2 _ _ (ne_of_none hp hA) hp)
    · rintro i x H' hx ⟨ts, rfl, h1, h3, h2⟩
      have hi1 : ts.length < rows.length := by have := (List.getElem?_eq_some_iff.mp hx).1; rw [List.length_map] at this; exact this
      have hi2 : ts.length < L.length := by rw [← lp.len]; exact hi1
      obtain rfl : x = V.ref rows[ts.length].1 := by rw [List.getElem?_map, List.getElem?_eq_getElem hi1] at hx; exact (Option.some.inj hx).symm
      obtain ⟨w1, w2⟩ := lp.row ts.length _ _ (List.getElem?_eq_getElem hi1) (List.getElem?_eq_getElem hi2)
      have w3 := h2 _ _ (ne_of_none w1 hA) w1
      have w4 := h2 _ _ (ne_of_none w2 hA) w2
      have lz : (ts.map V.ref).length < sizeLine := by rw [List.length_map, sizeLine_eq]; have := lp.sm.1; omega
      (repeat array_get_dec)
      refine ⟨by show 2 ≤ sizeLine; decide, fun t ht => ?_⟩
      (repeat array_get_dec)
      refine ⟨ts ++ [t], by simp, by rw [upd_same, List.map_append]; rfl, fun j q t' e1 e2 => ?_, fun b o nb e => ?_⟩
      · by_cases hj : j < ts.length
        · rw [List.getElem?_append_left hj] at e2
          have e3 := h3 j q t' e1 e2
          rw [upd_ne (ne_of e3 h1 (by intro z; cases z)), upd_ne (ne_of_none e3 ht)]
          exact e3
        · have hl : j = ts.length := by
            have := (List.getElem?_eq_some_iff.mp e2).1
            rw [List.length_append, List.length_singleton] at this
            omega
          subst hl
          rw [List.getElem?_eq_getElem hi2] at e1
          have e1' := Option.some.inj e1
          simp at e2
          subst e2
          rw [upd_ne (Ne.symm (ne_of_none h1 ht)), upd_same, vT_length, e1']
      · rw [upd_ne nb, upd_ne (ne_of_none (h2 b o nb e) ht)]
        exact h2 b o nb e
    · rintro H' ⟨ts, e, h1, h3, h2⟩
      exact kq A H' ts (fun b o e => h2 b o (ne_of_none e hA) e) hA h1 (by rw [e, List.length_map, lp.len]) h3
end
end K53

namespace K53
open PySem PySem.Spec PyProof.Rows L2
local macro_rules | `(tactic| array_mem_dec) => `(tactic| first | with_reducible assumption | with_reducible exact upd_same | ((with_reducible apply same_at); (with_reducible assumption); array_mem_dec) | ((with_reducible apply upd_atN); (with_reducible assumption); array_mem_dec) | ((with_reducible apply upd_at); (first | with_reducible assumption | (apply Ne.symm; with_reducible assumption)); array_mem_dec))
local macro_rules | `(tactic| array_get_dec) => `(tactic| first | (with_reducible refine w_seq ?_) | (with_reducible refine w_asg ?_) | (with_reducible refine w_drop ?_) | (with_reducible refine w_ret ?_) | (with_reducible refine w_retN ?_) | (with_reducible refine w_next ?_) | (with_reducible refine w_break ?_) | (with_reducible refine w_cont ?_) | (with_reducible refine w_ifS ?_) | (with_reducible refine w_sub ?_) | (with_reducible refine w_c ?_) | (with_reducible refine w_op ?_) | (with_reducible refine w_un ?_) | (with_reducible refine w_test ?_) | (with_reducible refine w_B ?_) | (with_reducible refine w_yes ?_) | (with_reducible refine w_not ?_) | (with_reducible refine w_and ?_) | (with_reducible refine w_or ?_) | (with_reducible refine w_andV ?_) | (with_reducible refine w_orV ?_) | (with_reducible refine w_notV ?_) | (with_reducible refine w_ifE ?_) | (with_reducible refine w_nil ?_) | (with_reducible refine w_cons ?_) | (with_reducible refine w_call ?_) | (with_reducible refine w_callS ?_) | (with_reducible refine w_cB ?_) | (with_reducible refine w_lst ?_) | (with_reducible refine w_tup ?_) | (with_reducible refine w_sl ?_) | (with_reducible refine w_noPart ?_) | (with_reducible refine w_part ?_) | (with_reducible refine w_bm ?_) | (with_reducible refine w_bm0 ?_) | (with_reducible refine w_strTy ?_) | (with_reducible refine w_bl ?_) | (with_reducible refine w_int1 ?_) | (with_reducible refine w_str1 ?_) | (with_reducible refine w_rI0 ?_) | (with_reducible refine w_rU ?_) | (with_reducible refine w_eqI ?_) | (with_reducible refine w_eqS ?_) | (with_reducible refine w_neI ?_) | (with_reducible refine w_neS ?_) | (with_reducible refine w_bl2 ?_) | (with_reducible refine w_isN ?_) | (with_reducible refine w_for ?_) | (with_reducible refine w_iRng1 ?_) | (with_reducible refine w_iRng2 ?_) | (with_reducible refine w_iList ?_) | (with_reducible refine w_iTup ?_) | (with_reducible refine w_iStr ?_) | (with_reducible refine w_lc ?_) | (with_reducible refine w_M1 ?_) | (with_reducible refine w_M0 ?_) | (with_reducible refine w_isS ?_) | ((with_reducible apply w_name); (simp only [wipe, List.map_cons, List.map_nil, List.foldl_cons, List.foldl_nil, List.set_cons_zero, List.set_cons_succ]; exact rfl)) | ((with_reducible apply w_var); exact rfl) | ((with_reducible apply w_lstTy); array_mem_dec) | ((with_reducible apply w_lenL); array_mem_dec) | ((with_reducible apply w_lenT); array_mem_dec) | ((with_reducible apply w_listOf); array_mem_dec) | ((with_reducible apply w_lenS); (first | (with_reducible assumption) | omega | (rw [sizeLine_eq]; omega))) | ((with_reducible apply w_slS); (first | (with_reducible assumption) | omega | (rw [sizeLine_eq]; omega))) | ((with_reducible apply w_wipe); exact rfl) | ((with_reducible apply w_acc); array_mem_dec; (try (first | (with_reducible assumption) | omega | (rw [sizeLine_eq]; omega)))) | ((with_reducible apply w_itl); array_mem_dec) | ((with_reducible apply w_itt); array_mem_dec) | ((with_reducible apply w_append); array_mem_dec; (try (first | (with_reducible assumption) | omega | (rw [sizeLine_eq]; omega)))) | ((with_reducible apply w_rng1); (first | (with_reducible assumption) | omega); (first | (with_reducible assumption) | omega)) | ((with_reducible apply w_ixL); array_mem_dec; (first | (with_reducible assumption) | exact rfl | (apply atI_nat; (with_reducible assumption)) | exact atI_last _ _)) | ((with_reducible apply w_ixT); array_mem_dec; (first | (with_reducible assumption) | exact rfl | (apply atI_nat; (with_reducible assumption)) | exact atI_last _ _)) | ((with_reducible apply w_iT); first | exact rfl | (with_reducible assumption)) | ((with_reducible apply w_iF); first | exact rfl | (with_reducible assumption)) | ((with_reducible apply w_isiI (b := true)); decide +kernel) | ((with_reducible apply w_isiI (b := false)); decide +kernel) | ((with_reducible apply w_isiB (b := true)); decide +kernel) | ((with_reducible apply w_isiB (b := false)); decide +kernel) | ((with_reducible apply w_isiS (b := true)); decide +kernel) | ((with_reducible apply w_isiS (b := false)); decide +kernel) | ((with_reducible apply w_isiN (b := true)); decide +kernel) | ((with_reducible apply w_isiN (b := false)); decide +kernel) | ((with_reducible apply w_isiL (b := true)); array_mem_dec; decide +kernel) | ((with_reducible apply w_isiL (b := false)); array_mem_dec; decide +kernel) | ((with_reducible apply w_isiT (b := true)); array_mem_dec; decide +kernel) | ((with_reducible apply w_isiT (b := false)); array_mem_dec; decide +kernel) | (with_reducible refine w_notT ?_) | (with_reducible refine w_chain ?_) | ((with_reducible apply w_trL); array_mem_dec) | ((with_reducible apply w_gTup); array_mem_dec; exact rfl) | ((with_reducible apply w_gLst); array_mem_dec; exact rfl) | (with_reducible refine w_gCons ?_) | (with_reducible refine w_gNil ?_) | (with_reducible refine w_Fld ?_) | (with_reducible refine w_sFld ?_) | (with_reducible refine w_dget ?_) | (with_reducible refine w_dIn ?_) | (with_reducible refine w_dNotIn ?_) | (with_reducible refine w_sDPut ?_) | (with_reducible refine w_dnewK ?_) | (with_reducible refine w_meth ?_) | (with_reducible refine w_make ?_) | (with_reducible refine w_methS ?_) | (with_reducible refine w_makeS ?_) | (with_reducible refine w_dpop ?_) | ((with_reducible apply w_fld1); array_mem_dec; (with_reducible assumption); (with_reducible assumption); exact rfl) | ((with_reducible apply w_sfld1); array_mem_dec; (with_reducible assumption); (with_reducible assumption); exact Nat.le_of_ble_eq_true rfl) | ((with_reducible apply w_meth1); array_mem_dec; exact rfl) | ((with_reducible apply w_dgetS); array_mem_dec; (with_reducible assumption)) | ((with_reducible apply w_dgetI); array_mem_dec; (with_reducible assumption)) | ((with_reducible apply w_dinS); array_mem_dec) | ((with_reducible apply w_dputI); array_mem_dec; (try (first | (with_reducible assumption) | omega | (rw [sizeLine_eq]; omega)))) | ((with_reducible apply w_dputS); array_mem_dec; (try (first | (with_reducible assumption) | omega | (rw [sizeLine_eq]; omega)))) | ((with_reducible apply w_isD); array_mem_dec) | ((with_reducible apply w_dictD); array_mem_dec) | ((with_reducible apply w_dpopS); array_mem_dec; (with_reducible assumption)))
/-! ### a log that finds what stands -/
def nextL (L : PL) : Nat := match L.getLast? with | some q => q.1 + q.2.length | none => 0
def foundStep (x : List Nat) (lastx : Bool) (D : DS) (L : PL) : Option (DS × PL) :=
  if L ≠ [] ∧ NumText.digitsVal (x.drop 4) ≠ nextL L then none else
  if (readL (readD D ((D.names.lookup x).getD 0))).2 < (readD D ((D.names.lookup x).getD 0)).length then
    (if lastx = true then some (syncD (cutD D ((D.names.lookup x).getD 0) (readL (readD D ((D.names.lookup x).getD 0))).2) ((D.names.lookup x).getD 0), L ++ [(NumText.digitsVal (x.drop 4), (readL (readD D ((D.names.lookup x).getD 0))).1)]) else none)
  else some (syncD D ((D.names.lookup x).getD 0), L ++ [(NumText.digitsVal (x.drop 4), (readL (readD D ((D.names.lookup x).getD 0))).1)])
def foundGo : List (List Nat) → DS → PL → Option (DS × PL)
  | [], D, L => some (D, L)
  | x :: r, D, L => match foundStep x r.isEmpty D L with
    | none => none
    | some (D2, L2) => foundGo r D2 L2
theorem foundGo_cons (x : List Nat) (r : List (List Nat)) (D : DS) (L : PL) : foundGo (x :: r) D L = match foundStep x r.isEmpty D L with | none => none | some (D2, L2) => foundGo r D2 L2 := rfl
def rd (D : DS) : Prop := ∀ i, i < D.kept.length → (readD D i).length ≤ 400000
instance {D : DS} : Decidable (rd D) := by unfold rd; exact inferInstance
def okF (D : DS) : Prop := upN D.names = true ∧ (∀ q ∈ D.names, q.1.length ≤ 100) ∧ rd D ∧ (partN D).Nodup
instance {D : DS} : Decidable (okF D) := by unfold okF; exact inferInstance
theorem readD_sync (D : DS) (i j : Nat) (hl : D.late.length = D.kept.length) : readD (syncD D i) j = readD D j := by
  unfold readD syncD
  dsimp only
  by_cases e : i = j
  · subst e
    by_cases h : i < D.kept.length
    · have h' : i < D.late.length := by omega
      rw [List.getElem?_set_self h, List.getElem?_set_self h']
      show readD D i ++ [] = _
      rw [List.append_nil]; rfl
    · rw [List.getElem?_eq_none (by rw [List.length_set]; omega), List.getElem?_eq_none (by rw [List.length_set]; omega), List.getElem?_eq_none (by omega), List.getElem?_eq_none (by omega)]
  · rw [List.getElem?_set_ne e, List.getElem?_set_ne e]
theorem readD_cut (D : DS) (i n j : Nat) : (readD (cutD D i n) j).length ≤ (readD D j).length := by
  unfold cutD
  unfold readD
  dsimp only
  by_cases e : i = j
  · subst e
    by_cases h : i < D.kept.length
    · rw [List.getElem?_set_self h]
      have e2 : ((D.late.set i [])[i]?).getD [] = [] := by
        by_cases h' : i < D.late.length
        · rw [List.getElem?_set_self h']; rfl
        · rw [List.getElem?_eq_none (by rw [List.length_set]; omega)]; rfl
      rw [e2]
      show ((_ : List Nat).take n ++ []).length ≤ _
      rw [List.append_nil, List.length_take]
      exact Nat.min_le_right _ _
    · rw [List.getElem?_eq_none (by rw [List.length_set]; omega)]
      have e2 : ((D.late.set i [])[i]?).getD [] = [] := by
        by_cases h' : i < D.late.length
        · rw [List.getElem?_set_self h']; rfl
        · rw [List.getElem?_eq_none (by rw [List.length_set]; omega)]; rfl
      rw [e2]
      exact Nat.zero_le _
  · rw [List.getElem?_set_ne e, List.getElem?_set_ne e]
    exact Nat.le_refl _
theorem sync_small {D : DS} {i nx : Nat} (sm : small D nx) (r : rd D) : small (syncD D i) nx ∧ rd (syncD D i) := by
  obtain ⟨h1, h2, h3, h4, h5, h6, h7, h8⟩ := sm
  have lk : (syncD D i).kept.length = D.kept.length := by unfold syncD; rw [List.length_set]
  have ll : (syncD D i).late.length = D.late.length := by unfold syncD; rw [List.length_set]
  refine ⟨⟨by omega, by omega, h3, h4, by omega, fun t m => ?_, fun t m => ?_, fun p m => by rw [lk]; exact h8 p m⟩, fun j hj => ?_⟩
  · rcases List.mem_or_eq_of_mem_set m with m | rfl
    · exact h6 t m
    · by_cases hi : i < D.kept.length
      · exact r i hi
      · unfold readD
        rw [List.getElem?_eq_none (by omega), List.getElem?_eq_none (by omega)]
        exact Nat.zero_le _
  · rcases List.mem_or_eq_of_mem_set m with m | rfl
    · exact h7 t m
    · exact Nat.zero_le _
  · rw [readD_sync D i j h1]
    exact r j (by omega)
theorem cut_small {D : DS} {i n nx : Nat} (sm : small D nx) (r : rd D) : small (cutD D i n) nx ∧ rd (cutD D i n) := by
  obtain ⟨h1, h2, h3, h4, h5, h6, h7, h8⟩ := sm
  have lk : (cutD D i n).kept.length = D.kept.length := by unfold cutD; rw [List.length_set]
  have ll : (cutD D i n).late.length = D.late.length := by unfold cutD; rw [List.length_set]
  refine ⟨⟨by omega, by omega, h3, h4, by omega, fun t m => ?_, fun t m => ?_, fun p m => by rw [lk]; exact h8 p m⟩, fun j hj => ?_⟩
  · rcases List.mem_or_eq_of_mem_set m with m | rfl
    · exact h6 t m
    · rw [List.length_take]
      by_cases hi : i < D.kept.length
      · have := r i hi
        omega
      · have : (readD D i).length = 0 := by
          unfold readD
          rw [List.getElem?_eq_none (by omega), List.getElem?_eq_none (by omega)]; rfl
        omega
  · rcases List.mem_or_eq_of_mem_set m with m | rfl
    · exact h7 t m
    · exact Nat.zero_le _
  · exact Nat.le_trans (readD_cut D i n j) (r j (by omega))
def spFound (CD CL CP : Addr) : Sp := fun vs H Q E => ∃ (a : Addr) (fp : List Addr) (d : Addr) (D : DS) (most sure : Nat), vs = [.ref a] ∧ LD CD CL H a fp d D [] most sure ∧ okF D ∧ partN D ≠ [] ∧
  (∀ D2 L2, foundGo (partN D) D [] = some (D2, L2) → ∀ H' fp', LD CD CL H' a fp' d D2 L2 most (nextL L2) → Fr fp fp' H H' → Q .non H') ∧
  (foundGo (partN D) D [] = none → ∀ H', (∀ b o, H b = some o → b ∉ fp → H' b = some o) → E (.ref CP) none H')
theorem lookup_of_mem {l : List (List Nat × Nat)} {y : List Nat} (h : y ∈ l.map (·.1)) : ∃ i, l.lookup y = some i := by
  induction l with
  | nil => cases h
  | cons p r ih =>
    obtain ⟨z, n⟩ := p
    rw [List.lookup_cons]
    by_cases e : y = z
    · subst e
      exact ⟨n, by simp⟩
    · rw [show (y == z) = false by simpa using e]
      rw [List.map_cons] at h
      exact ih ((List.mem_cons.mp h).resolve_left e)
section
variable {P : Program} {w : World} {K : PySem.W.Frag} {mg : Str → Option Value} {base : Heap}
theorem ok_Log__found (M : Nms K mg) : FnOk P w K mg base (L2N.CX P w) 4 M.a_Log__found M.d_Log__found ["self"] (spFound M.CD M.CL M.CP) := by
  refine M.F_Log__found.okN sc_Log__found (fun vs H Q E h => ?_) (fun cdv A outer s H vs Q E hr h => ?_)
  · obtain ⟨a, fp, d, D, most, sure, rfl, _⟩ := h
    rfl
  · have hu := hu1 hr
    have clD := M.clD
    have clL := M.clL
    have nD_kept := M.nD_kept
    have nD_late := M.nD_late
    have nD_names := M.nD_names
    have nD_sure := M.nD_sure
    have nD_changes := M.nD_changes
    have nD_next := M.nD_next
    have nL_disk := M.nL_disk
    have nL_most := M.nL_most
    have nL_parts := M.nL_parts
    have nL_sure := M.nL_sure
    refine ⟨_, (pss_cons (ps_for (passes_of rfl) rfl (pi_list (pe_call (ok_part_names M) (hr.mono (by decide)) rfl M.g_part_names M.k_part_names M.b_part_names .nil pass0 (pa_cons (pe_fld (pv 0) rfl) pa_nil))) (pg_name (i := 1) sc_Log__found.nd rfl (Or.inl rfl)) (pss_cons (ps_set (i := 2) sc_Log__found.nd rfl (Or.inl rfl) (pe_callS (ok_first_of M) (hr.mono (by decide)) rfl M.g_first_of M.k_first_of M.b_first_of (fun σ => L2N.passAt (L2N.takes_of rfl rfl rfl rfl) σ) (pa_cons (pv 1) pa_nil)))
    (pss_cons (ps_if (PW.pt (pw_and (pt_truth (pe_fld (pv 0) rfl) (by intro _; rfl)) (pw_and1 (pt_cmpR op_ne (pv 2) (pe_meth0 (pv 0) M.clL M.m_Log_next (ok_Log_next M) (hr.mono (by decide)) M.b_Log_next .nil pass0) (nomark _))))) (pss_one (L2N.ps_raise rfl (L2N.takes_of rfl rfl rfl rfl) (L2N.pmk_own PySem.F.excBase_ValueError M.XP.xP M.XP.gP M.XP.kP (raises_own M.XP.bP M.XP.tP) rfl))) pss_nil)
    (pss_cons (ps_asg (pe_call (ok_read_frames M) (hr.mono (by decide)) rfl M.g_read_frames M.k_read_frames M.b_read_frames .nil pass0 (pa_cons (pe_meth (pe_fld (pv 0) rfl) M.clD M.m_Disk_read (ok_Disk_read M) (hr.mono (by decide)) M.b_Disk_read .nil pass0 (pa_cons (pv 1) pa_nil)) pa_nil)) (pg_tup rfl (pgs_cons (pg_name (i := 3) sc_Log__found.nd rfl (Or.inl rfl)) (pgs_cons (pg_name (i := 4) sc_Log__found.nd rfl (Or.inl rfl)) pgs_nil))))
    (pss_cons (ps_if (pt_cmpR op_lt (pv 4) (pe_meth (pe_fld (pv 0) rfl) M.clD M.m_Disk_size (ok_Disk_size M) (hr.mono (by decide)) M.b_Disk_size .nil pass0 (pa_cons (pv 1) pa_nil)) (nomark _)) (pss_cons (ps_if (pt_cmpR op_ne (pv 1) (pe_ix (r := rIxL K) ix_list (pe_call (ok_part_names M) (hr.mono (by decide)) rfl M.g_part_names M.k_part_names M.b_part_names .nil pass0 (pa_cons (pe_fld (pv 0) rfl) pa_nil)) (pe_un un_neg pe_int) (fun _ _ => rfl)) (nomark _)) (pss_one (L2N.ps_raise rfl (L2N.takes_of rfl rfl rfl rfl) (L2N.pmk_own PySem.F.excBase_ValueError M.XP.xP M.XP.gP M.XP.kP (raises_own M.XP.bP M.XP.tP) rfl))) pss_nil)
    (pss_one (ps_expr (pe_meth (pe_fld (pv 0) rfl) M.clD M.m_Disk_cut (ok_Disk_cut M) (hr.mono (by decide)) M.b_Disk_cut .nil pass0 (pa_cons (pv 1) (pa_cons (pv 4) pa_nil)))))) pss_nil)
    (pss_cons (ps_expr (pe_meth (pe_fld (pv 0) rfl) M.clD M.m_Disk_sync (ok_Disk_sync M) (hr.mono (by decide)) M.b_Disk_sync .nil pass0 (pa_cons (pv 1) pa_nil)))
    (pss_one (ps_expr (pe_bm PySem.F.plainAttrs_list PySem.F.slot_list_append PySem.F.type_list_append mt_append (pe_fld (pv 0) rfl) (pa_cons (pe_lst (pa_cons (pv 2) (pa_cons (pv 3) pa_nil))) pa_nil))))))))))
    (pss_one (ps_fld (pv 0) (pe_meth0 (pv 0) M.clL M.m_Log_next (ok_Log_next M) (hr.mono (by decide)) M.b_Log_next .nil pass0) rfl))), ?_⟩
    try dsimp only [cxOf, Cx.nox]
    obtain ⟨a, fp, d, D, most, sure, rfl, ld, ⟨up, ln, rD, ndp⟩, hne, kq, ke⟩ := h
    refine w_start (σ' := [some (.ref a), none, none, none, none]) rfl ?_
    obtain ⟨fl, fd, ef, dj, la, dk⟩ := id ld
    obtain ⟨p, rows, ef2, lp⟩ := id la
    obtain ⟨dx, hi⟩ := lp.ins
    (repeat array_get_dec)
    refine ⟨d, fd, D, _, rfl, dk, up, ln, fun nl H1 s1 fnl hnl => ?_⟩
    have ldh := ld.has
    have nlfp : nl ∉ fp := fun m => ldh nl m fnl
    (repeat array_get_dec)
    refine for_list (K := K) (a := nl) (xs := (partN D).map sv) (fun j σ H' => ∃ v1 v2 v3 v4 Dj Lj fpj, σ = [some (.ref a), v1, v2, v3, v4] ∧ LD M.CD M.CL H' a fpj d Dj Lj most sure ∧ Fr fp fpj H1 H' ∧ Dj.names = D.names ∧ rd Dj ∧ Lj.length = j ∧ foundGo ((partN D).drop j) Dj Lj = foundGo (partN D) D [])
      ⟨none, none, none, none, D, [], fp, rfl, ld.same s1, Fr.refl _ _, rfl, rD, rfl, rfl⟩ ?_ ?_ ?_
    · rintro j σ H' _ ⟨v1, v2, v3, v4, Dj, Lj, fpj, rfl, ldj, frj, e1, e2, e3, e4⟩
      exact SqL.of (frj.1 _ _ hnl nlfp)
    · rintro j x σ H' hx ⟨v1, v2, v3, v4, Dj, Lj, fpj, rfl, ldj, frj, e1, rj, rfl, e4⟩
      obtain ⟨y, hy, rfl⟩ : ∃ y, (partN D)[Lj.length]? = some y ∧ x = sv y := by
        rw [List.getElem?_map] at hx
        cases e : (partN D)[Lj.length]? with
        | none => rw [e] at hx; cases hx
        | some y => rw [e] at hx; exact ⟨y, rfl, (Option.some.inj hx).symm⟩
      have hj : Lj.length < (partN D).length := (List.getElem?_eq_some_iff.mp hy).1
      have my : y ∈ partN D := List.mem_of_getElem? hy
      obtain ⟨my1, my2⟩ := List.mem_filter.mp my
      obtain ⟨yq, myq, ey⟩ := List.mem_map.mp my1
      have ly : y.length ≤ 100 := by rw [← ey]; exact ln yq myq
      obtain ⟨ix, hix⟩ := lookup_of_mem (l := D.names) my1
      have hixj : Dj.names.lookup y = some ix := by rw [e1]; exact hix
      have edr : (partN D).drop Lj.length = y :: (partN D).drop (Lj.length + 1) := by
        rw [List.drop_eq_getElem_cons hj]
        congr 1
        rw [List.getElem?_eq_getElem hj] at hy
        exact Option.some.inj hy
      have hnlj : H' nl = _ := frj.1 _ _ hnl nlfp
      have nlj : nl ∉ fpj := fun m => (frj.2 nl m).elim nlfp fun z => by rw [z] at hnl; cases hnl
      obtain ⟨fl, fd, ef, dj, la, dk⟩ := id ldj
      obtain ⟨p, rows, ef2, lp⟩ := id la
      obtain ⟨dx, hi⟩ := lp.ins
      have hp := lp.hp
      have hLz : Lj.length < 40 := by
        have h1 := List.length_filter_le isPartL (D.names.map (·.1))
        rw [List.length_map] at h1
        have h2 : D.names.length ≤ 30 := by
          obtain ⟨_, _, _, _, _, _, _, _, z⟩ := dk
          rw [← e1]; exact z.sm.2.2.1
        have h3 : (partN D).length = ((D.names.map (·.1)).filter isPartL).length := rfl
        omega
      rw [edr, foundGo_cons] at e4
      (repeat array_get_dec)
      refine ⟨y, rfl, ly, fun _ H2 s2 => ?_, fun z => absurd z (by rw [my2]; decide)⟩
      have ldj2 := ldj.same s2
      have la2 := la.same s2
      have dk2 := dk.same s2
      have lp2 := lp.keep (H' := H2) fun b o e _ => s2 b o e
      have hi2 := s2 _ _ hi
      have hp2 := s2 _ _ hp
      (repeat array_get_dec)
      obtain ⟨k0, l0, n0, s0, c0, su0, cv0, efd, ⟨nd0, ⟨dx0, gi⟩, x1, x2, x3, x4, x5, x6, smj⟩⟩ := id dk2
      have hz0 : (readD Dj ix).length ≤ 400000 := by
        obtain ⟨t0, u0, g1, g2, b1, b2, er⟩ := texts_at smj hixj
        exact rj ix (List.getElem?_eq_some_iff.mp g1).1
      have hgd : (Dj.names.lookup y).getD 0 = ix := by rw [hixj]; rfl
      have upj : upN Dj.names = true := by rw [e1]; exact up
      have lnj : ∀ q ∈ Dj.names, q.1.length ≤ 100 := by rw [e1]; exact ln
      have epn : partN Dj = partN D := by unfold partN; rw [e1]
      by_cases hbad : Lj ≠ [] ∧ NumText.digitsVal (y.drop 4) ≠ nextL Lj
      · obtain ⟨hb1, hb2⟩ := hbad
        have hst : foundStep y ((partN D).drop (Lj.length + 1)).isEmpty Dj Lj = none := by unfold foundStep; rw [if_pos ⟨hb1, hb2⟩]
        rw [hst] at e4
        rcases List.eq_nil_or_concat Lj with z | ⟨L0, q, z⟩
        · exact absurd z hb1
        rw [List.concat_eq_append] at z
        have laq := la2
        rw [z] at laq
        have en : nextL Lj = q.1 + q.2.length := by rw [z]; unfold nextL; simp
        have ene : (!(rows.map fun r => V.ref r.1).isEmpty) = true := by
          have : rows.length = Lj.length := lp.len
          rw [z] at this
          cases rows with
          | nil => simp at this
          | cons _ _ => rfl
        refine iteT' ene ?_
        (repeat array_get_dec)
        refine ⟨a, _, d, q, L0, most, sure, rfl, laq, ?_⟩
        (repeat array_get_dec)
        refine iteT' (by rw [decide_eq_false (fun z2 => hb2 (by rw [en]; have := V.int.inj z2; omega))]; rfl) ?_
        exact ke e4.symm _ fun b o e m => s2 _ _ (frj.1 _ _ (s1 _ _ e) m)
      · have hgo : ∀ (R : TS) (Dd : Ends) (σ0 : L2.St), True := fun _ _ _ => trivial
        rcases List.eq_nil_or_concat Lj with z | ⟨L0, q, z⟩
        · have ene : (!(rows.map fun r => V.ref r.1).isEmpty) = false := by
            have : rows.length = Lj.length := lp.len
            rw [z] at this
            cases rows with
            | nil => rfl
            | cons _ _ => simp at this
          refine iteF' ene ?_
          refine iteF' rfl ?_
          (repeat array_get_dec)
          refine ⟨d, fd, Dj, _, y, ix, rfl, dk2, hixj, ?_⟩
          (repeat array_get_dec)
          refine ⟨mkS (readD Dj ix), rfl, by rw [len_tl]; show (readD Dj ix).length ≤ _; omega, fun H3 tp tq s3 f3 htp htq => ?_⟩
          have dk3 := dk2.same s3
          have hi3 := s3 _ _ hi2
          have gi3 := s3 _ _ gi
          (repeat array_get_dec)
          refine ⟨d, fd, Dj, _, y, ix, rfl, dk3, hixj, ?_⟩
          (repeat array_get_dec)
          by_cases hcut : (readL (readD Dj ix)).2 < (readD Dj ix).length
          · refine iteT' (decide_eq_true (show (((readL (readD Dj ix)).2 : Nat) : Int) < (((readD Dj ix).length : Nat) : Int) by omega)) ?_
            (repeat array_get_dec)
            refine ⟨d, fd, Dj, _, rfl, dk3, upj, lnj, fun p4 H4 s4 f4 h4 => ?_⟩
            rcases List.eq_nil_or_concat (partN D) with w | ⟨Z, zl, w⟩
            · exact absurd w hne
            rw [List.concat_eq_append] at w
            rw [epn, w, List.map_append] at h4
            have h4' : H4 p4 = some (.lst (Z.map sv ++ [sv zl])) := h4
            have dk4 := dk3.same s4
            have hi4 := s4 _ _ hi3
            have gi4 := s4 _ _ gi3
            (repeat array_get_dec)
            by_cases hlast : (partN D).drop (Lj.length + 1) = []
            · have hzy : zl = y := by
                have l1 := List.drop_eq_nil_iff.mp hlast
                have l2 : Lj.length = Z.length := by rw [w, List.length_append, List.length_singleton] at l1 hj; omega
                rw [w, l2] at hy
                simpa using hy
              refine iteF' (by rw [hzy, decide_eq_true rfl]; rfl) ?_
              (repeat array_get_dec)
              refine ⟨d, fd, Dj, _, y, ix, (readL (readD Dj ix)).2, rfl, dk4, hixj, by omega, (cut_small smj rj).1, fun H5 dk5 fr5 => ?_⟩
              have frc : Fr fd fd H3 H5 := (Fr.same s4).trans fr5
              have hck : (cutD Dj ix (readL (readD Dj ix)).2).kept.length = Dj.kept.length := by unfold cutD; rw [List.length_set]
              have smc := (cut_small (i := ix) (n := (readL (readD Dj ix)).2) smj rj).1
              have rc := (cut_small (i := ix) (n := (readL (readD Dj ix)).2) smj rj).2
              have hc5 : (cutD Dj ix (readL (readD Dj ix)).2).names.lookup y = some ix := hixj
              have hcn : (syncD (cutD Dj ix (readL (readD Dj ix)).2) ix).names = D.names := e1
              have est : foundStep y ((partN D).drop (Lj.length + 1)).isEmpty Dj Lj = some (syncD (cutD Dj ix (readL (readD Dj ix)).2) ix, Lj ++ [(NumText.digitsVal (y.drop 4), (readL (readD Dj ix)).1)]) := by
                unfold foundStep
                rw [if_neg hbad, hgd, if_pos hcut, hlast] <;> try rfl
              generalize cutD Dj ix (readL (readD Dj ix)).2 = Dc at *
              obtain ⟨dx5, hi5⟩ := (((lp2.keep (H' := H3) fun b o e _ => s3 b o e).keep (H' := H5) fun b o e m => frc.1 b o e (dj b (by rw [ef2]; exact m)))).ins
              obtain ⟨k5, l5, n5, sa5, c5, su5, cv5, efd5, ⟨_, ⟨dx05, gi5⟩, _⟩⟩ := id dk5
              (repeat array_get_dec)
              refine ⟨d, fd, Dc, _, y, ix, rfl, dk5, hc5, (sync_small smc rc).1, fun H6 dk6 fr6 => ?_⟩
              have frs : Fr fd fd H3 H6 := frc.trans fr6
              have lp6 := (lp2.keep (H' := H3) fun b o e _ => s3 b o e).keep (H' := H6) fun b o e m => frs.1 b o e (dj b (by rw [ef2]; exact m))
              obtain ⟨dx6, hi6⟩ := lp6.ins
              have hp6 := lp6.hp
              have ntq : tq ∉ fd := fun m => dk2.has tq m f3
              have htq6 := frs.1 _ _ htq ntq
              have lz : (rows.map fun r => V.ref r.1).length < sizeLine := by rw [List.length_map, lp.len, sizeLine_eq]; omega
              (repeat array_get_dec)
              refine ⟨by show 2 ≤ sizeLine; decide, fun r1 f1 => ?_⟩
              (repeat array_get_dec)
              have h2fl : ∀ b ∈ fl, H2 b ≠ none := la2.has
              have r1H : ∀ b o, H2 b = some o → b ∉ fd → b ≠ r1 := fun b o e m z => by have := frs.1 _ _ (s3 _ _ e) m; rw [z, f1] at this; cases this
              have f1' : H2 r1 = none := by
                cases e : H2 r1 with
                | none => rfl
                | some o =>
                  by_cases m : r1 ∈ fd
                  · exact absurd f1 (dk6.has r1 m)
                  · exact absurd rfl (r1H _ _ e m)
              have nr : r1 ≠ tq := fun z => by rw [z, htq6] at f1; cases f1
              have np1 : p ≠ r1 := ne_of_none hp2 f1'
              have np2 : p ≠ tq := ne_of_none hp2 f3
              have pfl : p ∈ fl := by rw [ef2]; simp
              have hR : (readL (readD Dj ix)).1.length ≤ 1000000 := by have := (readL_le _ (readD Dj ix) (Nat.le_refl _)).2; omega
              have lp7 := lp2.push (n := NumText.digitsVal (y.drop 4)) (ts := (readL (readD Dj ix)).1) f1' f3 nr (H' := upd (upd H6 r1 (.lst [.int ((NumText.digitsVal (y.drop 4) : Nat) : Int), .ref tq])) p (.lst ((rows.map fun r => V.ref r.1) ++ [.ref r1]))) (fun b o e nb m => by
                have mfl : b ∈ fl := by rw [ef2]; exact m
                rw [upd_ne nb, upd_ne (r1H _ _ e (dj b mfl))]
                exact frs.1 _ _ (s3 _ _ e) (dj b mfl)) (by rw [upd_ne (Ne.symm np1), upd_same]) (by rw [upd_ne (Ne.symm np2), upd_ne (Ne.symm nr)]; exact htq6) upd_same ⟨hLz, hR⟩
              refine ⟨_, _, _, _, syncD Dc ix, Lj ++ [(NumText.digitsVal (y.drop 4), (readL (readD Dj ix)).1)], (a :: p :: rfp (rows ++ [(r1, tq)])) ++ fd, rfl, ⟨_, fd, rfl, fun b m m2 => ?_, ⟨p, _, rfl, lp7⟩, ?_⟩, frj.trans ⟨fun b o e m => ?_, fun b m => ?_⟩, ?_, (sync_small smc rc).2, by simp, ?_⟩
              · have m' : b ∈ fl ∨ b = r1 ∨ b = tq := by
                  rw [ef2]
                  rw [rfp_app] at m
                  simp [rfp] at m ⊢
                  rcases m with m | m | m | m | m
                  · exact .inl (.inl m)
                  · exact .inl (.inr (.inl m))
                  · exact .inl (.inr (.inr m))
                  · exact .inr (.inl m)
                  · exact .inr (.inr m)
                rcases m' with m' | rfl | rfl
                · exact dj b m' m2
                · exact dk6.has _ m2 f1
                · exact ntq m2
              · have ek : (syncD Dc ix).kept.length = Dj.kept.length := by unfold syncD; (rw [List.length_set] <;> exact hck)
                show DiskN _ _ _ _ _ (syncD Dc ix).kept.length
                rw [ek]
                refine dk6.keep fun b o e m => ?_
                rw [upd_ne (fun z => dj p pfl (by rw [← z]; exact m)), upd_ne (ne_of_none e f1)]
                exact e
              · rw [ef] at m
                have e6 := frs.1 _ _ (s3 _ _ (s2 _ _ e)) (fun z => m (List.mem_append_right _ z))
                rw [upd_ne (fun z => m (List.mem_append_left _ (by rw [z]; exact pfl))), upd_ne (ne_of_none e6 f1)]
                exact e6
              · have back : ∀ c, H2 c = none → H' c = none := fun c e => by
                  cases e9 : H' c with
                  | none => rfl
                  | some o => rw [s2 _ _ e9] at e; cases e
                have m' : b ∈ fpj ∨ b = r1 ∨ b = tq := by
                  rw [ef, ef2]
                  rw [rfp_app] at m
                  simp [rfp] at m ⊢
                  rcases m with m | m | m | m | m | m <;> simp [m]
                rcases m' with m' | rfl | rfl
                · exact .inl m'
                · exact .inr (back _ f1')
                · exact .inr (back _ f3)
              · exact hcn
              · rw [est] at e4; exact e4
            · have hzy : zl ≠ y := fun z => by
                have l1 : Lj.length < Z.length := by
                  have := mt List.drop_eq_nil_iff.mpr hlast
                  rw [w, List.length_append, List.length_singleton] at this
                  omega
                rw [w, List.getElem?_append_left l1] at hy
                have mz : y ∈ Z := List.mem_of_getElem? hy
                rw [w] at ndp
                exact (List.nodup_append.mp ndp).2.2 y mz zl (by simp) z.symm
              refine iteT' (by rw [decide_eq_false (fun z => hzy (mkS_inj (V.str.inj z)).symm)]; rfl) ?_
              have est : foundStep y ((partN D).drop (Lj.length + 1)).isEmpty Dj Lj = none := by
                unfold foundStep
                rw [if_neg hbad, hgd, if_pos hcut, if_neg (by simpa using hlast)]
              rw [est] at e4
              exact ke e4.symm _ fun b o e m => s4 _ _ (s3 _ _ (s2 _ _ (frj.1 _ _ (s1 _ _ e) m)))
          · refine iteF' (decide_eq_false (show ¬ (((readL (readD Dj ix)).2 : Nat) : Int) < (((readD Dj ix).length : Nat) : Int) by omega)) ?_
            (repeat array_get_dec)
            have frc : Fr fd fd H3 H3 := Fr.refl _ _
            have dk5 := dk3
            have hck : Dj.kept.length = Dj.kept.length := rfl
            have smc := smj
            have rc := rj
            have hc5 := hixj
            have hcn : (syncD Dj ix).names = D.names := e1
            have est : foundStep y ((partN D).drop (Lj.length + 1)).isEmpty Dj Lj = some (syncD Dj ix, Lj ++ [(NumText.digitsVal (y.drop 4), (readL (readD Dj ix)).1)]) := by
              unfold foundStep
              rw [if_neg hbad, hgd, if_neg hcut]
            refine ⟨d, fd, Dj, _, y, ix, rfl, dk5, hc5, (sync_small smc rc).1, fun H6 dk6 fr6 => ?_⟩
            have frs : Fr fd fd H3 H6 := frc.trans fr6
            have lp6 := (lp2.keep (H' := H3) fun b o e _ => s3 b o e).keep (H' := H6) fun b o e m => frs.1 b o e (dj b (by rw [ef2]; exact m))
            obtain ⟨dx6, hi6⟩ := lp6.ins
            have hp6 := lp6.hp
            have ntq : tq ∉ fd := fun m => dk2.has tq m f3
            have htq6 := frs.1 _ _ htq ntq
            have lz : (rows.map fun r => V.ref r.1).length < sizeLine := by rw [List.length_map, lp.len, sizeLine_eq]; omega
            (repeat array_get_dec)
            refine ⟨by show 2 ≤ sizeLine; decide, fun r1 f1 => ?_⟩
            (repeat array_get_dec)
            have h2fl : ∀ b ∈ fl, H2 b ≠ none := la2.has
            have r1H : ∀ b o, H2 b = some o → b ∉ fd → b ≠ r1 := fun b o e m z => by have := frs.1 _ _ (s3 _ _ e) m; rw [z, f1] at this; cases this
            have f1' : H2 r1 = none := by
              cases e : H2 r1 with
              | none => rfl
              | some o =>
                by_cases m : r1 ∈ fd
                · exact absurd f1 (dk6.has r1 m)
                · exact absurd rfl (r1H _ _ e m)
            have nr : r1 ≠ tq := fun z => by rw [z, htq6] at f1; cases f1
            have np1 : p ≠ r1 := ne_of_none hp2 f1'
            have np2 : p ≠ tq := ne_of_none hp2 f3
            have pfl : p ∈ fl := by rw [ef2]; simp
            have hR : (readL (readD Dj ix)).1.length ≤ 1000000 := by have := (readL_le _ (readD Dj ix) (Nat.le_refl _)).2; omega
            have lp7 := lp2.push (n := NumText.digitsVal (y.drop 4)) (ts := (readL (readD Dj ix)).1) f1' f3 nr (H' := upd (upd H6 r1 (.lst [.int ((NumText.digitsVal (y.drop 4) : Nat) : Int), .ref tq])) p (.lst ((rows.map fun r => V.ref r.1) ++ [.ref r1]))) (fun b o e nb m => by
              have mfl : b ∈ fl := by rw [ef2]; exact m
              rw [upd_ne nb, upd_ne (r1H _ _ e (dj b mfl))]
              exact frs.1 _ _ (s3 _ _ e) (dj b mfl)) (by rw [upd_ne (Ne.symm np1), upd_same]) (by rw [upd_ne (Ne.symm np2), upd_ne (Ne.symm nr)]; exact htq6) upd_same ⟨hLz, hR⟩
            refine ⟨_, _, _, _, syncD Dj ix, Lj ++ [(NumText.digitsVal (y.drop 4), (readL (readD Dj ix)).1)], (a :: p :: rfp (rows ++ [(r1, tq)])) ++ fd, rfl, ⟨_, fd, rfl, fun b m m2 => ?_, ⟨p, _, rfl, lp7⟩, ?_⟩, frj.trans ⟨fun b o e m => ?_, fun b m => ?_⟩, ?_, (sync_small smc rc).2, by simp, ?_⟩
            · have m' : b ∈ fl ∨ b = r1 ∨ b = tq := by
                rw [ef2]
                rw [rfp_app] at m
                simp [rfp] at m ⊢
                rcases m with m | m | m | m | m
                · exact .inl (.inl m)
                · exact .inl (.inr (.inl m))
                · exact .inl (.inr (.inr m))
                · exact .inr (.inl m)
                · exact .inr (.inr m)
              rcases m' with m' | rfl | rfl
              · exact dj b m' m2
              · exact dk6.has _ m2 f1
              · exact ntq m2
            · have ek : (syncD Dj ix).kept.length = Dj.kept.length := by unfold syncD; (rw [List.length_set] <;> exact hck)
              show DiskN _ _ _ _ _ (syncD Dj ix).kept.length
              rw [ek]
              refine dk6.keep fun b o e m => ?_
              rw [upd_ne (fun z => dj p pfl (by rw [← z]; exact m)), upd_ne (ne_of_none e f1)]
              exact e
            · rw [ef] at m
              have e6 := frs.1 _ _ (s3 _ _ (s2 _ _ e)) (fun z => m (List.mem_append_right _ z))
              rw [upd_ne (fun z => m (List.mem_append_left _ (by rw [z]; exact pfl))), upd_ne (ne_of_none e6 f1)]
              exact e6
            · have back : ∀ c, H2 c = none → H' c = none := fun c e => by
                cases e9 : H' c with
                | none => rfl
                | some o => rw [s2 _ _ e9] at e; cases e
              have m' : b ∈ fpj ∨ b = r1 ∨ b = tq := by
                rw [ef, ef2]
                rw [rfp_app] at m
                simp [rfp] at m ⊢
                rcases m with m | m | m | m | m | m <;> simp [m]
              rcases m' with m' | rfl | rfl
              · exact .inl m'
              · exact .inr (back _ f1')
              · exact .inr (back _ f3)
            · exact hcn
            · rw [est] at e4; exact e4
        · rw [List.concat_eq_append] at z
          have laq := la2
          rw [z] at laq
          have en : nextL Lj = q.1 + q.2.length := by rw [z]; unfold nextL; simp
          have ene : (!(rows.map fun r => V.ref r.1).isEmpty) = true := by
            have : rows.length = Lj.length := lp.len
            rw [z] at this
            cases rows with
            | nil => simp at this
            | cons _ _ => rfl
          have hb2 : NumText.digitsVal (y.drop 4) = nextL Lj := Classical.byContradiction fun z2 => hbad ⟨by rw [z]; simp, z2⟩
          refine iteT' ene ?_
          (repeat array_get_dec)
          refine ⟨a, _, d, q, L0, most, sure, rfl, laq, ?_⟩
          (repeat array_get_dec)
          refine iteF' (by rw [decide_eq_true (by rw [hb2, en])]; rfl) ?_
          (repeat array_get_dec)
          refine ⟨d, fd, Dj, _, y, ix, rfl, dk2, hixj, ?_⟩
          (repeat array_get_dec)
          refine ⟨mkS (readD Dj ix), rfl, by rw [len_tl]; show (readD Dj ix).length ≤ _; omega, fun H3 tp tq s3 f3 htp htq => ?_⟩
          have dk3 := dk2.same s3
          have hi3 := s3 _ _ hi2
          have gi3 := s3 _ _ gi
          (repeat array_get_dec)
          refine ⟨d, fd, Dj, _, y, ix, rfl, dk3, hixj, ?_⟩
          (repeat array_get_dec)
          by_cases hcut : (readL (readD Dj ix)).2 < (readD Dj ix).length
          · refine iteT' (decide_eq_true (show (((readL (readD Dj ix)).2 : Nat) : Int) < (((readD Dj ix).length : Nat) : Int) by omega)) ?_
            (repeat array_get_dec)
            refine ⟨d, fd, Dj, _, rfl, dk3, upj, lnj, fun p4 H4 s4 f4 h4 => ?_⟩
            rcases List.eq_nil_or_concat (partN D) with w | ⟨Z, zl, w⟩
            · exact absurd w hne
            rw [List.concat_eq_append] at w
            rw [epn, w, List.map_append] at h4
            have h4' : H4 p4 = some (.lst (Z.map sv ++ [sv zl])) := h4
            have dk4 := dk3.same s4
            have hi4 := s4 _ _ hi3
            have gi4 := s4 _ _ gi3
            (repeat array_get_dec)
            by_cases hlast : (partN D).drop (Lj.length + 1) = []
            · have hzy : zl = y := by
                have l1 := List.drop_eq_nil_iff.mp hlast
                have l2 : Lj.length = Z.length := by rw [w, List.length_append, List.length_singleton] at l1 hj; omega
                rw [w, l2] at hy
                simpa using hy
              refine iteF' (by rw [hzy, decide_eq_true rfl]; rfl) ?_
              (repeat array_get_dec)
              refine ⟨d, fd, Dj, _, y, ix, (readL (readD Dj ix)).2, rfl, dk4, hixj, by omega, (cut_small smj rj).1, fun H5 dk5 fr5 => ?_⟩
              have frc : Fr fd fd H3 H5 := (Fr.same s4).trans fr5
              have hck : (cutD Dj ix (readL (readD Dj ix)).2).kept.length = Dj.kept.length := by unfold cutD; rw [List.length_set]
              have smc := (cut_small (i := ix) (n := (readL (readD Dj ix)).2) smj rj).1
              have rc := (cut_small (i := ix) (n := (readL (readD Dj ix)).2) smj rj).2
              have hc5 : (cutD Dj ix (readL (readD Dj ix)).2).names.lookup y = some ix := hixj
              have hcn : (syncD (cutD Dj ix (readL (readD Dj ix)).2) ix).names = D.names := e1
              have est : foundStep y ((partN D).drop (Lj.length + 1)).isEmpty Dj Lj = some (syncD (cutD Dj ix (readL (readD Dj ix)).2) ix, Lj ++ [(NumText.digitsVal (y.drop 4), (readL (readD Dj ix)).1)]) := by
                unfold foundStep
                rw [if_neg hbad, hgd, if_pos hcut, hlast] <;> try rfl
              generalize cutD Dj ix (readL (readD Dj ix)).2 = Dc at *
              obtain ⟨dx5, hi5⟩ := (((lp2.keep (H' := H3) fun b o e _ => s3 b o e).keep (H' := H5) fun b o e m => frc.1 b o e (dj b (by rw [ef2]; exact m)))).ins
              obtain ⟨k5, l5, n5, sa5, c5, su5, cv5, efd5, ⟨_, ⟨dx05, gi5⟩, _⟩⟩ := id dk5
              (repeat array_get_dec)
              refine ⟨d, fd, Dc, _, y, ix, rfl, dk5, hc5, (sync_small smc rc).1, fun H6 dk6 fr6 => ?_⟩
              have frs : Fr fd fd H3 H6 := frc.trans fr6
              have lp6 := (lp2.keep (H' := H3) fun b o e _ => s3 b o e).keep (H' := H6) fun b o e m => frs.1 b o e (dj b (by rw [ef2]; exact m))
              obtain ⟨dx6, hi6⟩ := lp6.ins
              have hp6 := lp6.hp
              have ntq : tq ∉ fd := fun m => dk2.has tq m f3
              have htq6 := frs.1 _ _ htq ntq
              have lz : (rows.map fun r => V.ref r.1).length < sizeLine := by rw [List.length_map, lp.len, sizeLine_eq]; omega
              (repeat array_get_dec)
              refine ⟨by show 2 ≤ sizeLine; decide, fun r1 f1 => ?_⟩
              (repeat array_get_dec)
              have h2fl : ∀ b ∈ fl, H2 b ≠ none := la2.has
              have r1H : ∀ b o, H2 b = some o → b ∉ fd → b ≠ r1 := fun b o e m z => by have := frs.1 _ _ (s3 _ _ e) m; rw [z, f1] at this; cases this
              have f1' : H2 r1 = none := by
                cases e : H2 r1 with
                | none => rfl
                | some o =>
                  by_cases m : r1 ∈ fd
                  · exact absurd f1 (dk6.has r1 m)
                  · exact absurd rfl (r1H _ _ e m)
              have nr : r1 ≠ tq := fun z => by rw [z, htq6] at f1; cases f1
              have np1 : p ≠ r1 := ne_of_none hp2 f1'
              have np2 : p ≠ tq := ne_of_none hp2 f3
              have pfl : p ∈ fl := by rw [ef2]; simp
              have hR : (readL (readD Dj ix)).1.length ≤ 1000000 := by have := (readL_le _ (readD Dj ix) (Nat.le_refl _)).2; omega
              have lp7 := lp2.push (n := NumText.digitsVal (y.drop 4)) (ts := (readL (readD Dj ix)).1) f1' f3 nr (H' := upd (upd H6 r1 (.lst [.int ((NumText.digitsVal (y.drop 4) : Nat) : Int), .ref tq])) p (.lst ((rows.map fun r => V.ref r.1) ++ [.ref r1]))) (fun b o e nb m => by
                have mfl : b ∈ fl := by rw [ef2]; exact m
                rw [upd_ne nb, upd_ne (r1H _ _ e (dj b mfl))]
                exact frs.1 _ _ (s3 _ _ e) (dj b mfl)) (by rw [upd_ne (Ne.symm np1), upd_same]) (by rw [upd_ne (Ne.symm np2), upd_ne (Ne.symm nr)]; exact htq6) upd_same ⟨hLz, hR⟩
              refine ⟨_, _, _, _, syncD Dc ix, Lj ++ [(NumText.digitsVal (y.drop 4), (readL (readD Dj ix)).1)], (a :: p :: rfp (rows ++ [(r1, tq)])) ++ fd, rfl, ⟨_, fd, rfl, fun b m m2 => ?_, ⟨p, _, rfl, lp7⟩, ?_⟩, frj.trans ⟨fun b o e m => ?_, fun b m => ?_⟩, ?_, (sync_small smc rc).2, by simp, ?_⟩
              · have m' : b ∈ fl ∨ b = r1 ∨ b = tq := by
                  rw [ef2]
                  rw [rfp_app] at m
                  simp [rfp] at m ⊢
                  rcases m with m | m | m | m | m
                  · exact .inl (.inl m)
                  · exact .inl (.inr (.inl m))
                  · exact .inl (.inr (.inr m))
                  · exact .inr (.inl m)
                  · exact .inr (.inr m)
                rcases m' with m' | rfl | rfl
                · exact dj b m' m2
                · exact dk6.has _ m2 f1
                · exact ntq m2
              · have ek : (syncD Dc ix).kept.length = Dj.kept.length := by unfold syncD; (rw [List.length_set] <;> exact hck)
                show DiskN _ _ _ _ _ (syncD Dc ix).kept.length
                rw [ek]
                refine dk6.keep fun b o e m => ?_
                rw [upd_ne (fun z => dj p pfl (by rw [← z]; exact m)), upd_ne (ne_of_none e f1)]
                exact e
              · rw [ef] at m
                have e6 := frs.1 _ _ (s3 _ _ (s2 _ _ e)) (fun z => m (List.mem_append_right _ z))
                rw [upd_ne (fun z => m (List.mem_append_left _ (by rw [z]; exact pfl))), upd_ne (ne_of_none e6 f1)]
                exact e6
              · have back : ∀ c, H2 c = none → H' c = none := fun c e => by
                  cases e9 : H' c with
                  | none => rfl
                  | some o => rw [s2 _ _ e9] at e; cases e
                have m' : b ∈ fpj ∨ b = r1 ∨ b = tq := by
                  rw [ef, ef2]
                  rw [rfp_app] at m
                  simp [rfp] at m ⊢
                  rcases m with m | m | m | m | m | m <;> simp [m]
                rcases m' with m' | rfl | rfl
                · exact .inl m'
                · exact .inr (back _ f1')
                · exact .inr (back _ f3)
              · exact hcn
              · rw [est] at e4; exact e4
            · have hzy : zl ≠ y := fun z => by
                have l1 : Lj.length < Z.length := by
                  have := mt List.drop_eq_nil_iff.mpr hlast
                  rw [w, List.length_append, List.length_singleton] at this
                  omega
                rw [w, List.getElem?_append_left l1] at hy
                have mz : y ∈ Z := List.mem_of_getElem? hy
                rw [w] at ndp
                exact (List.nodup_append.mp ndp).2.2 y mz zl (by simp) z.symm
              refine iteT' (by rw [decide_eq_false (fun z => hzy (mkS_inj (V.str.inj z)).symm)]; rfl) ?_
              have est : foundStep y ((partN D).drop (Lj.length + 1)).isEmpty Dj Lj = none := by
                unfold foundStep
                rw [if_neg hbad, hgd, if_pos hcut, if_neg (by simpa using hlast)]
              rw [est] at e4
              exact ke e4.symm _ fun b o e m => s4 _ _ (s3 _ _ (s2 _ _ (frj.1 _ _ (s1 _ _ e) m)))
          · refine iteF' (decide_eq_false (show ¬ (((readL (readD Dj ix)).2 : Nat) : Int) < (((readD Dj ix).length : Nat) : Int) by omega)) ?_
            (repeat array_get_dec)
            have frc : Fr fd fd H3 H3 := Fr.refl _ _
            have dk5 := dk3
            have hck : Dj.kept.length = Dj.kept.length := rfl
            have smc := smj
            have rc := rj
            have hc5 := hixj
            have hcn : (syncD Dj ix).names = D.names := e1
            have est : foundStep y ((partN D).drop (Lj.length + 1)).isEmpty Dj Lj = some (syncD Dj ix, Lj ++ [(NumText.digitsVal (y.drop 4), (readL (readD Dj ix)).1)]) := by
              unfold foundStep
              rw [if_neg hbad, hgd, if_neg hcut]
            refine ⟨d, fd, Dj, _, y, ix, rfl, dk5, hc5, (sync_small smc rc).1, fun H6 dk6 fr6 => ?_⟩
            have frs : Fr fd fd H3 H6 := frc.trans fr6
            have lp6 := (lp2.keep (H' := H3) fun b o e _ => s3 b o e).keep (H' := H6) fun b o e m => frs.1 b o e (dj b (by rw [ef2]; exact m))
            obtain ⟨dx6, hi6⟩ := lp6.ins
            have hp6 := lp6.hp
            have ntq : tq ∉ fd := fun m => dk2.has tq m f3
            have htq6 := frs.1 _ _ htq ntq
            have lz : (rows.map fun r => V.ref r.1).length < sizeLine := by rw [List.length_map, lp.len, sizeLine_eq]; omega
            (repeat array_get_dec)
            refine ⟨by show 2 ≤ sizeLine; decide, fun r1 f1 => ?_⟩
            (repeat array_get_dec)
            have h2fl : ∀ b ∈ fl, H2 b ≠ none := la2.has
            have r1H : ∀ b o, H2 b = some o → b ∉ fd → b ≠ r1 := fun b o e m z => by have := frs.1 _ _ (s3 _ _ e) m; rw [z, f1] at this; cases this
            have f1' : H2 r1 = none := by
              cases e : H2 r1 with
              | none => rfl
              | some o =>
                by_cases m : r1 ∈ fd
                · exact absurd f1 (dk6.has r1 m)
                · exact absurd rfl (r1H _ _ e m)
            have nr : r1 ≠ tq := fun z => by rw [z, htq6] at f1; cases f1
            have np1 : p ≠ r1 := ne_of_none hp2 f1'
            have np2 : p ≠ tq := ne_of_none hp2 f3
            have pfl : p ∈ fl := by rw [ef2]; simp
            have hR : (readL (readD Dj ix)).1.length ≤ 1000000 := by have := (readL_le _ (readD Dj ix) (Nat.le_refl _)).2; omega
            have lp7 := lp2.push (n := NumText.digitsVal (y.drop 4)) (ts := (readL (readD Dj ix)).1) f1' f3 nr (H' := upd (upd H6 r1 (.lst [.int ((NumText.digitsVal (y.drop 4) : Nat) : Int), .ref tq])) p (.lst ((rows.map fun r => V.ref r.1) ++ [.ref r1]))) (fun b o e nb m => by
              have mfl : b ∈ fl := by rw [ef2]; exact m
              rw [upd_ne nb, upd_ne (r1H _ _ e (dj b mfl))]
              exact frs.1 _ _ (s3 _ _ e) (dj b mfl)) (by rw [upd_ne (Ne.symm np1), upd_same]) (by rw [upd_ne (Ne.symm np2), upd_ne (Ne.symm nr)]; exact htq6) upd_same ⟨hLz, hR⟩
            refine ⟨_, _, _, _, syncD Dj ix, Lj ++ [(NumText.digitsVal (y.drop 4), (readL (readD Dj ix)).1)], (a :: p :: rfp (rows ++ [(r1, tq)])) ++ fd, rfl, ⟨_, fd, rfl, fun b m m2 => ?_, ⟨p, _, rfl, lp7⟩, ?_⟩, frj.trans ⟨fun b o e m => ?_, fun b m => ?_⟩, ?_, (sync_small smc rc).2, by simp, ?_⟩
            · have m' : b ∈ fl ∨ b = r1 ∨ b = tq := by
                rw [ef2]
                rw [rfp_app] at m
                simp [rfp] at m ⊢
                rcases m with m | m | m | m | m
                · exact .inl (.inl m)
                · exact .inl (.inr (.inl m))
                · exact .inl (.inr (.inr m))
                · exact .inr (.inl m)
                · exact .inr (.inr m)
              rcases m' with m' | rfl | rfl
              · exact dj b m' m2
              · exact dk6.has _ m2 f1
              · exact ntq m2
            · have ek : (syncD Dj ix).kept.length = Dj.kept.length := by unfold syncD; (rw [List.length_set] <;> exact hck)
              show DiskN _ _ _ _ _ (syncD Dj ix).kept.length
              rw [ek]
              refine dk6.keep fun b o e m => ?_
              rw [upd_ne (fun z => dj p pfl (by rw [← z]; exact m)), upd_ne (ne_of_none e f1)]
              exact e
            · rw [ef] at m
              have e6 := frs.1 _ _ (s3 _ _ (s2 _ _ e)) (fun z => m (List.mem_append_right _ z))
              rw [upd_ne (fun z => m (List.mem_append_left _ (by rw [z]; exact pfl))), upd_ne (ne_of_none e6 f1)]
              exact e6
            · have back : ∀ c, H2 c = none → H' c = none := fun c e => by
                cases e9 : H' c with
                | none => rfl
                | some o => rw [s2 _ _ e9] at e; cases e
              have m' : b ∈ fpj ∨ b = r1 ∨ b = tq := by
                rw [ef, ef2]
                rw [rfp_app] at m
                simp [rfp] at m ⊢
                rcases m with m | m | m | m | m | m <;> simp [m]
              rcases m' with m' | rfl | rfl
              · exact .inl m'
              · exact .inr (back _ f1')
              · exact .inr (back _ f3)
            · exact hcn
            · rw [est] at e4; exact e4
    · rintro σ H' ⟨v1, v2, v3, v4, Dj, Lj, fpj, rfl, ldj, frj, e1, rj, e3, e4⟩
      rw [List.length_map] at e3 e4
      rw [List.drop_length] at e4
      have e4' : foundGo (partN D) D [] = some (Dj, Lj) := e4.symm
      have hL : Lj ≠ [] := fun z => by
        rw [z] at e3
        exact hne (List.length_eq_zero_iff.mp e3.symm)
      rcases List.eq_nil_or_concat Lj with z | ⟨L0, q, z⟩
      · exact absurd z hL
      rw [List.concat_eq_append] at z
      have en : nextL Lj = q.1 + q.2.length := by rw [z]; unfold nextL; simp
      obtain ⟨fl, fd, ef, dj, la, dk⟩ := id ldj
      have laq := la
      rw [z] at laq
      obtain ⟨p, rows, ef2, lp⟩ := id la
      obtain ⟨dx, hi⟩ := lp.ins
      (repeat array_get_dec)
      refine ⟨a, _, d, q, L0, most, sure, rfl, laq, ?_⟩
      (repeat array_get_dec)
      have lp2 := lp.setSure (dx := dx) (q.1 + q.2.length)
      obtain ⟨ld2, F2⟩ := ld_log dk dj ((Fr.refl fl H').put (a := a) (o := .ins M.CL dx (lF d p most (q.1 + q.2.length))) (by rw [ef2]; simp)) ⟨p, _, ef2, lp2⟩
      refine kq _ _ e4' _ _ (by rw [en]; exact ld2) ?_
      exact (((Fr.same s1).trans frj).as ef).trans F2
end
end K53

namespace K53
open PySem PySem.Spec PyProof.Rows L2
local macro_rules | `(tactic| array_mem_dec) => `(tactic| first | with_reducible assumption | with_reducible exact upd_same | ((with_reducible apply same_at); (with_reducible assumption); array_mem_dec) | ((with_reducible apply upd_atN); (with_reducible assumption); array_mem_dec) | ((with_reducible apply upd_at); (first | with_reducible assumption | (apply Ne.symm; with_reducible assumption)); array_mem_dec))
local macro_rules | `(tactic| array_get_dec) => `(tactic| first | (with_reducible refine w_seq ?_) | (with_reducible refine w_asg ?_) | (with_reducible refine w_drop ?_) | (with_reducible refine w_ret ?_) | (with_reducible refine w_retN ?_) | (with_reducible refine w_next ?_) | (with_reducible refine w_break ?_) | (with_reducible refine w_cont ?_) | (with_reducible refine w_ifS ?_) | (with_reducible refine w_sub ?_) | (with_reducible refine w_c ?_) | (with_reducible refine w_op ?_) | (with_reducible refine w_un ?_) | (with_reducible refine w_test ?_) | (with_reducible refine w_B ?_) | (with_reducible refine w_yes ?_) | (with_reducible refine w_not ?_) | (with_reducible refine w_and ?_) | (with_reducible refine w_or ?_) | (with_reducible refine w_andV ?_) | (with_reducible refine w_orV ?_) | (with_reducible refine w_notV ?_) | (with_reducible refine w_ifE ?_) | (with_reducible refine w_nil ?_) | (with_reducible refine w_cons ?_) | (with_reducible refine w_call ?_) | (with_reducible refine w_callS ?_) | (with_reducible refine w_cB ?_) | (with_reducible refine w_lst ?_) | (with_reducible refine w_tup ?_) | (with_reducible refine w_sl ?_) | (with_reducible refine w_noPart ?_) | (with_reducible refine w_part ?_) | (with_reducible refine w_bm ?_) | (with_reducible refine w_bm0 ?_) | (with_reducible refine w_strTy ?_) | (with_reducible refine w_bl ?_) | (with_reducible refine w_int1 ?_) | (with_reducible refine w_str1 ?_) | (with_reducible refine w_rI0 ?_) | (with_reducible refine w_rU ?_) | (with_reducible refine w_eqI ?_) | (with_reducible refine w_eqS ?_) | (with_reducible refine w_neI ?_) | (with_reducible refine w_neS ?_) | (with_reducible refine w_bl2 ?_) | (with_reducible refine w_isN ?_) | (with_reducible refine w_for ?_) | (with_reducible refine w_iRng1 ?_) | (with_reducible refine w_iRng2 ?_) | (with_reducible refine w_iList ?_) | (with_reducible refine w_iTup ?_) | (with_reducible refine w_iStr ?_) | (with_reducible refine w_lc ?_) | (with_reducible refine w_M1 ?_) | (with_reducible refine w_M0 ?_) | (with_reducible refine w_isS ?_) | ((with_reducible apply w_name); (simp only [wipe, List.map_cons, List.map_nil, List.foldl_cons, List.foldl_nil, List.set_cons_zero, List.set_cons_succ]; exact rfl)) | ((with_reducible apply w_var); exact rfl) | ((with_reducible apply w_lstTy); array_mem_dec) | ((with_reducible apply w_lenL); array_mem_dec) | ((with_reducible apply w_lenT); array_mem_dec) | ((with_reducible apply w_listOf); array_mem_dec) | ((with_reducible apply w_lenS); (first | (with_reducible assumption) | omega | (rw [sizeLine_eq]; omega))) | ((with_reducible apply w_slS); (first | (with_reducible assumption) | omega | (rw [sizeLine_eq]; omega))) | ((with_reducible apply w_wipe); exact rfl) | ((with_reducible apply w_acc); array_mem_dec; (try (first | (with_reducible assumption) | omega | (rw [sizeLine_eq]; omega)))) | ((with_reducible apply w_itl); array_mem_dec) | ((with_reducible apply w_itt); array_mem_dec) | ((with_reducible apply w_append); array_mem_dec; (try (first | (with_reducible assumption) | omega | (rw [sizeLine_eq]; omega)))) | ((with_reducible apply w_rng1); (first | (with_reducible assumption) | omega); (first | (with_reducible assumption) | omega)) | ((with_reducible apply w_ixL); array_mem_dec; (first | (with_reducible assumption) | exact rfl | (apply atI_nat; (with_reducible assumption)) | exact atI_last _ _)) | ((with_reducible apply w_ixT); array_mem_dec; (first | (with_reducible assumption) | exact rfl | (apply atI_nat; (with_reducible assumption)) | exact atI_last _ _)) | ((with_reducible apply w_iT); first | exact rfl | (with_reducible assumption)) | ((with_reducible apply w_iF); first | exact rfl | (with_reducible assumption)) | ((with_reducible apply w_isiI (b := true)); decide +kernel) | ((with_reducible apply w_isiI (b := false)); decide +kernel) | ((with_reducible apply w_isiB (b := true)); decide +kernel) | ((with_reducible apply w_isiB (b := false)); decide +kernel) | ((with_reducible apply w_isiS (b := true)); decide +kernel) | ((with_reducible apply w_isiS (b := false)); decide +kernel) | ((with_reducible apply w_isiN (b := true)); decide +kernel) | ((with_reducible apply w_isiN (b := false)); decide +kernel) | ((with_reducible apply w_isiL (b := true)); array_mem_dec; decide +kernel) | ((with_reducible apply w_isiL (b := false)); array_mem_dec; decide +kernel) | ((with_reducible apply w_isiT (b := true)); array_mem_dec; decide +kernel) | ((with_reducible apply w_isiT (b := false)); array_mem_dec; decide +kernel) | (with_reducible refine w_notT ?_) | (with_reducible refine w_chain ?_) | ((with_reducible apply w_trL); array_mem_dec) | ((with_reducible apply w_gTup); array_mem_dec; exact rfl) | ((with_reducible apply w_gLst); array_mem_dec; exact rfl) | (with_reducible refine w_gCons ?_) | (with_reducible refine w_gNil ?_) | (with_reducible refine w_Fld ?_) | (with_reducible refine w_sFld ?_) | (with_reducible refine w_dget ?_) | (with_reducible refine w_dIn ?_) | (with_reducible refine w_dNotIn ?_) | (with_reducible refine w_sDPut ?_) | (with_reducible refine w_dnewK ?_) | (with_reducible refine w_meth ?_) | (with_reducible refine w_make ?_) | (with_reducible refine w_methS ?_) | (with_reducible refine w_makeS ?_) | (with_reducible refine w_dpop ?_) | ((with_reducible apply w_fld1); array_mem_dec; (with_reducible assumption); (with_reducible assumption); exact rfl) | ((with_reducible apply w_sfld1); array_mem_dec; (with_reducible assumption); (with_reducible assumption); exact Nat.le_of_ble_eq_true rfl) | ((with_reducible apply w_meth1); array_mem_dec; exact rfl) | ((with_reducible apply w_dgetS); array_mem_dec; (with_reducible assumption)) | ((with_reducible apply w_dgetI); array_mem_dec; (with_reducible assumption)) | ((with_reducible apply w_dinS); array_mem_dec) | ((with_reducible apply w_dputI); array_mem_dec; (try (first | (with_reducible assumption) | omega | (rw [sizeLine_eq]; omega)))) | ((with_reducible apply w_dputS); array_mem_dec; (try (first | (with_reducible assumption) | omega | (rw [sizeLine_eq]; omega)))) | ((with_reducible apply w_isD); array_mem_dec) | ((with_reducible apply w_dictD); array_mem_dec) | ((with_reducible apply w_dpopS); array_mem_dec; (with_reducible assumption)))
def badN (v : V) (lo hi : Int) : Prop := (∃ i : Int, v = .int i ∧ ¬ (lo ≤ i ∧ i ≤ hi)) ∨ ∃ b, v = .bl b
def spInitL (CD CL CP CN : Addr) : Sp := fun vs H Q E => ∃ (a dx d : Addr) (fd : List Addr) (D : DS) (v : V), vs = [.ref a, .ref d, v] ∧ H a = some (.ins CL dx []) ∧ a ∉ fd ∧ DiskAt CD H d fd D ∧ okF D ∧
  ((badN v 1 1000 ∧ ∀ H', (∀ b o, H b = some o → b ≠ a → H' b = some o) → E (.ref CN) none H') ∨
   (∃ m : Nat, v = .int (m : Int) ∧ 1 ≤ m ∧ m ≤ 1000 ∧
    ((partN D = [] ∧ D.names.lookup (partL 0) = none ∧ small (makeD D (partL 0)) (makeD D (partL 0)).kept.length ∧ ∀ H' fp', LD CD CL H' a fp' d (syncN (makeD D (partL 0))) [(0, [])] m 0 → Fr (a :: fd) fp' H H' → Q .non H') ∨
     (partN D ≠ [] ∧ (∀ D2 L2, foundGo (partN D) D [] = some (D2, L2) → ∀ H' fp', LD CD CL H' a fp' d D2 L2 m (nextL L2) → Fr (a :: fd) fp' H H' → Q .non H') ∧ (foundGo (partN D) D [] = none → ∀ H', (∀ b o, H b = some o → b ∉ a :: fd → H' b = some o) → E (.ref CP) none H')))))
def spNewL (CN : Addr) : Sp := fun vs H _ E => ∃ v, vs = [v] ∧ badN v 1 1000 ∧ ∀ H', Same H H' → E (.ref CN) none H'
section
variable {P : Program} {w : World} {K : PySem.W.Frag} {mg : Str → Option Value} {base : Heap}
theorem ok_Log___init__ (M : Nms K mg) : FnOk P w K mg base (L2N.CX P w) 5 M.a_Log___init__ M.d_Log___init__ ["self", "disk", "most"] (spInitL M.CD M.CL M.CP M.CN) := by
  obtain ⟨tF, GFEW⟩ := M.cFEW
  obtain ⟨tM, GML⟩ := M.cML
  refine M.F_Log___init__.okN sc_Log___init__ (fun vs H Q E h => ?_) (fun cdv A outer s H vs Q E hr h => ?_)
  · obtain ⟨a, dx, d, fd, D, v, rfl, _⟩ := h
    rfl
  · have hu := hu1 hr
    have clD := M.clD
    have clL := M.clL
    have nD_kept := M.nD_kept
    have nD_late := M.nD_late
    have nD_names := M.nD_names
    have nD_sure := M.nD_sure
    have nD_changes := M.nD_changes
    have nD_next := M.nD_next
    have nL_disk := M.nL_disk
    have nL_most := M.nL_most
    have nL_parts := M.nL_parts
    have nL_sure := M.nL_sure
    refine ⟨_, (pss_cons (ps_fld (pv 0) (pv 1) rfl)
    (pss_cons (ps_fld (pv 0) (pe_callS (ok_checked_number M) (hr.mono (by decide)) rfl M.g_checked_number M.k_checked_number M.b_checked_number (fun σ => L2N.passAt (L2N.takes_of rfl rfl rfl rfl) σ) (pa_cons (pv 2) (pa_cons (pe_glob (v := .int 1) rfl GFEW ⟨_, rfl⟩) (pa_cons (pe_glob (v := .int 1000) rfl GML ⟨_, rfl⟩) pa_nil)))) rfl)
    (pss_cons (ps_fld (pv 0) (pe_lst pa_nil) rfl)
    (pss_cons (ps_fld (pv 0) pe_int rfl)
    (pss_one (ps_if (pt_truth (pe_call (ok_part_names M) (hr.mono (by decide)) rfl M.g_part_names M.k_part_names M.b_part_names .nil pass0 (pa_cons (pv 1) pa_nil)) (by intro _; rfl)) (pss_one (ps_expr (pe_methS0 (pv 0) M.clL M.m_Log__found (ok_Log__found M) (hr.mono (by decide)) M.b_Log__found (fun σ => L2N.passAt (L2N.takes_of rfl rfl rfl rfl) σ)))) (pss_one (ps_expr (pe_meth (pv 0) M.clL M.m_Log__begin (ok_Log__begin M) (hr.mono (by decide)) M.b_Log__begin .nil pass0 (pa_cons pe_int pa_nil)))))))))), ?_⟩
    try dsimp only [cxOf, Cx.nox]
    obtain ⟨a, dx, d, fd, D, v, rfl, hi, nd, dk, okd, h⟩ := h
    refine w_start (σ' := [some (.ref a), some (.ref d), some v]) rfl ?_
    (repeat array_get_dec)
    rcases h with ⟨⟨i, rfl, hb⟩ | ⟨b, rfl⟩, ke⟩ | ⟨m, rfl, m1, m2, h⟩
    · refine ⟨1, 1000, by decide, by decide, .inl ⟨i, rfl, fun z => absurd z hb, fun _ => ke _ fun b o e nb => by rw [upd_ne nb]; exact e⟩⟩
    · exact ⟨1, 1000, by decide, by decide, .inr ⟨b, rfl, ke _ fun b o e nb => by rw [upd_ne nb]; exact e⟩⟩
    · refine ⟨1, 1000, by decide, by decide, .inl ⟨_, rfl, fun _ => ?_, fun z => absurd ⟨by omega, by omega⟩ z⟩⟩
      (repeat array_get_dec)
      refine ⟨by show 0 ≤ sizeLine; decide, fun p hp => ?_⟩
      have nhp := hp
      obtain ⟨_, nhp⟩ := hu2 nhp
      obtain ⟨_, nhp⟩ := hu2 nhp
      have nap := ne_of_none hi nhp
      (repeat array_get_dec)
      have F1 : Fr (a :: fd) (a :: p :: rfp [] ++ fd) H (upd (upd (upd (upd (upd H a (.ins M.CL dx (putF "_disk" (.ref d) []))) a (.ins M.CL dx (putF "_most" (.int (m : Int)) (putF "_disk" (.ref d) [])))) p (.lst [])) a (.ins M.CL dx (putF "_parts" (.ref p) (putF "_most" (.int (m : Int)) (putF "_disk" (.ref d) []))))) a (.ins M.CL dx (lF d p m 0))) := by
        refine ⟨(Fr.refl (a :: fd) H |>.put (a := a) (by simp) |>.put (a := a) (by simp) |>.neu hp |>.put (a := a) (by simp) |>.put (a := a) (by simp)).1, fun b m => ?_⟩
        simp [rfp] at m
        rcases m with rfl | rfl | m
        · exact .inl (by simp)
        · exact .inr nhp
        · exact .inl (List.mem_cons_of_mem _ m)
      have npd : p ∉ fd := fun m => dk.has p m nhp
      have nda : ∀ b ∈ fd, b ≠ a := fun b m z => nd (z ▸ m)
      have ndp : ∀ b ∈ fd, b ≠ p := fun b m z => npd (z ▸ m)
      have dk1 : DiskAt M.CD (upd (upd (upd (upd (upd H a (.ins M.CL dx (putF "_disk" (.ref d) []))) a (.ins M.CL dx (putF "_most" (.int (m : Int)) (putF "_disk" (.ref d) [])))) p (.lst [])) a (.ins M.CL dx (putF "_parts" (.ref p) (putF "_most" (.int (m : Int)) (putF "_disk" (.ref d) []))))) a (.ins M.CL dx (lF d p m 0))) d fd D :=
        dk.keep fun b o e mb => by rw [upd_ne (nda b mb), upd_ne (nda b mb), upd_ne (ndp b mb), upd_ne (nda b mb), upd_ne (nda b mb)]; exact e
      have lp0 : LogP M.CL (upd (upd (upd (upd (upd H a (.ins M.CL dx (putF "_disk" (.ref d) []))) a (.ins M.CL dx (putF "_most" (.int (m : Int)) (putF "_disk" (.ref d) [])))) p (.lst [])) a (.ins M.CL dx (putF "_parts" (.ref p) (putF "_most" (.int (m : Int)) (putF "_disk" (.ref d) []))))) a (.ins M.CL dx (lF d p m 0))) a p d [] [] m 0 :=
        ⟨by simp [rfp, nap], ⟨dx, upd_same⟩, by rw [upd_ne (Ne.symm nap), upd_ne (Ne.symm nap), upd_same]; rfl, rfl, fun i r q e => by simp at e, by simp, fun q m => by cases m⟩
      have ld1 : LD M.CD M.CL _ a (a :: p :: rfp [] ++ fd) d D [] m 0 := ⟨a :: p :: rfp [], fd, rfl, fun b mb m2 => by
        simp [rfp] at mb
        rcases mb with rfl | rfl
        · exact nd m2
        · exact npd m2, ⟨p, [], rfl, lp0⟩, dk1⟩
      refine ⟨d, fd, D, _, rfl, dk1, okd.1, okd.2.1, fun p5 H5 s5 f5 h5 => ?_⟩
      have ld5 := ld1.same s5
      have hi5 : H5 a = some (.ins M.CL dx (lF d p m 0)) := s5 _ _ upd_same
      have F5 := F1.trans (Fr.same s5)
      rcases h with ⟨e0, hx, sm2, kq⟩ | ⟨e0, kq, ke⟩
      · rw [e0] at h5
        (repeat array_get_dec)
        refine ⟨a, _, d, D, [], m, 0, 0, rfl, ld5, by omega, by simp, hx, sm2, fun H6 fp6 ld6 F6 => ?_⟩
        (repeat array_get_dec)
        exact kq _ _ ld6 (F5.trans F6)
      · (repeat array_get_dec)
        refine iteT' (show (!(List.map sv (partN D)).isEmpty) = true by cases hq : partN D with | nil => exact absurd hq e0 | cons _ _ => rfl) ?_
        (repeat array_get_dec)
        refine ⟨a, _, d, D, m, 0, rfl, ld5, okd, e0, fun D2 L2 e H6 fp6 ld6 F6 => ?_, fun e H6 hk => ?_⟩
        · (repeat array_get_dec)
          exact kq D2 L2 e _ _ ld6 (F5.trans F6)
        · refine ke e _ fun b o e' nb => hk b o (F5.1 b o e' nb) fun mb => ?_
          simp [rfp] at mb
          rcases mb with rfl | rfl | mb
          · exact nb (by simp)
          · rw [nhp] at e'; cases e'
          · exact nb (List.mem_cons_of_mem _ mb)
theorem ok_new_log (M : Nms K mg) : FnOk P w K mg base (L2N.CX P w) 7 M.a_new_log M.d_new_log ["most"] (spNewL M.CN) := by
  refine M.F_new_log.okN sc_new_log (fun vs H Q E h => ?_) (fun cdv A outer s H vs Q E hr h => ?_)
  · obtain ⟨v, rfl, _⟩ := h
    rfl
  · have hu := hu1 hr
    have clD := M.clD
    have clL := M.clL
    have nD_kept := M.nD_kept
    have nD_late := M.nD_late
    have nD_names := M.nD_names
    have nD_sure := M.nD_sure
    have nD_changes := M.nD_changes
    have nD_next := M.nD_next
    have nL_disk := M.nL_disk
    have nL_most := M.nL_most
    have nL_parts := M.nL_parts
    have nL_sure := M.nL_sure
    refine ⟨_, (pss_one (ps_ret (pe_makeS1 M.mkL (ok_Log___init__ M) (hr.mono (by decide)) rfl M.gL M.b_Log___init__ (fun σ => L2N.passAt (L2N.takes_of rfl rfl rfl rfl) σ) (pa_cons (pe_make0 M.mkD (ok_Disk___init__ M) (hr.mono (by decide)) rfl M.gD M.b_Disk___init__ .nil pass0) (pa_cons (pv 0) pa_nil))))), ?_⟩
    try dsimp only [cxOf, Cx.nox]
    obtain ⟨v, rfl, hb, ke⟩ := h
    refine w_start (σ' := [some v]) rfl ?_
    (repeat array_get_dec)
    intro x dx hx hdx hne
    refine ⟨x, dx, rfl, upd_same, fun H1 fd dk fr => ⟨rfl, ?_⟩⟩
    (repeat array_get_dec)
    intro y dy hy hdy hne2
    have nyf : y ∉ fd := fun m => dk.has y m hy
    have s1 : Same H H1 := fun b o e => fr.1 b o (by rw [upd_ne (ne_of_none e hx), upd_ne (ne_of_none e hdx)]; exact e) (by simp; exact ne_of_none e hx)
    refine ⟨y, dy, x, fd, noneD, v, rfl, upd_same, nyf, dk.keep fun b o e m => by rw [upd_ne (ne_of_none e hy), upd_ne (ne_of_none e hdy)]; exact e, by decide +kernel, .inl ⟨hb, fun H2 h2 => ke H2 fun b o e => h2 b o ?_ (ne_of_none (s1 _ _ e) hy)⟩⟩
    rw [upd_ne (ne_of_none (s1 _ _ e) hy), upd_ne (ne_of_none (s1 _ _ e) hdy)]
    exact s1 _ _ e
end
end K53

namespace K53
open PySem PySem.Spec PyProof.Rows L2
local macro_rules | `(tactic| array_mem_dec) => `(tactic| first | with_reducible assumption | with_reducible exact upd_same | ((with_reducible apply same_at); (with_reducible assumption); array_mem_dec) | ((with_reducible apply upd_atN); (with_reducible assumption); array_mem_dec) | ((with_reducible apply upd_at); (first | with_reducible assumption | (apply Ne.symm; with_reducible assumption)); array_mem_dec))
local macro_rules | `(tactic| array_get_dec) => `(tactic| first | (with_reducible refine w_seq ?_) | (with_reducible refine w_asg ?_) | (with_reducible refine w_drop ?_) | (with_reducible refine w_ret ?_) | (with_reducible refine w_retN ?_) | (with_reducible refine w_next ?_) | (with_reducible refine w_break ?_) | (with_reducible refine w_cont ?_) | (with_reducible refine w_ifS ?_) | (with_reducible refine w_sub ?_) | (with_reducible refine w_c ?_) | (with_reducible refine w_op ?_) | (with_reducible refine w_un ?_) | (with_reducible refine w_test ?_) | (with_reducible refine w_B ?_) | (with_reducible refine w_yes ?_) | (with_reducible refine w_not ?_) | (with_reducible refine w_and ?_) | (with_reducible refine w_or ?_) | (with_reducible refine w_andV ?_) | (with_reducible refine w_orV ?_) | (with_reducible refine w_notV ?_) | (with_reducible refine w_ifE ?_) | (with_reducible refine w_nil ?_) | (with_reducible refine w_cons ?_) | (with_reducible refine w_call ?_) | (with_reducible refine w_callS ?_) | (with_reducible refine w_cB ?_) | (with_reducible refine w_lst ?_) | (with_reducible refine w_tup ?_) | (with_reducible refine w_sl ?_) | (with_reducible refine w_noPart ?_) | (with_reducible refine w_part ?_) | (with_reducible refine w_bm ?_) | (with_reducible refine w_bm0 ?_) | (with_reducible refine w_strTy ?_) | (with_reducible refine w_bl ?_) | (with_reducible refine w_int1 ?_) | (with_reducible refine w_str1 ?_) | (with_reducible refine w_rI0 ?_) | (with_reducible refine w_rU ?_) | (with_reducible refine w_eqI ?_) | (with_reducible refine w_eqS ?_) | (with_reducible refine w_neI ?_) | (with_reducible refine w_neS ?_) | (with_reducible refine w_bl2 ?_) | (with_reducible refine w_isN ?_) | (with_reducible refine w_for ?_) | (with_reducible refine w_iRng1 ?_) | (with_reducible refine w_iRng2 ?_) | (with_reducible refine w_iList ?_) | (with_reducible refine w_iTup ?_) | (with_reducible refine w_iStr ?_) | (with_reducible refine w_lc ?_) | (with_reducible refine w_M1 ?_) | (with_reducible refine w_M0 ?_) | (with_reducible refine w_isS ?_) | ((with_reducible apply w_name); (simp only [wipe, List.map_cons, List.map_nil, List.foldl_cons, List.foldl_nil, List.set_cons_zero, List.set_cons_succ]; exact rfl)) | ((with_reducible apply w_var); exact rfl) | ((with_reducible apply w_lstTy); array_mem_dec) | ((with_reducible apply w_lenL); array_mem_dec) | ((with_reducible apply w_lenT); array_mem_dec) | ((with_reducible apply w_listOf); array_mem_dec) | ((with_reducible apply w_lenS); (first | (with_reducible assumption) | omega | (rw [sizeLine_eq]; omega))) | ((with_reducible apply w_slS); (first | (with_reducible assumption) | omega | (rw [sizeLine_eq]; omega))) | ((with_reducible apply w_wipe); exact rfl) | ((with_reducible apply w_acc); array_mem_dec; (try (first | (with_reducible assumption) | omega | (rw [sizeLine_eq]; omega)))) | ((with_reducible apply w_itl); array_mem_dec) | ((with_reducible apply w_itt); array_mem_dec) | ((with_reducible apply w_append); array_mem_dec; (try (first | (with_reducible assumption) | omega | (rw [sizeLine_eq]; omega)))) | ((with_reducible apply w_rng1); (first | (with_reducible assumption) | omega); (first | (with_reducible assumption) | omega)) | ((with_reducible apply w_ixL); array_mem_dec; (first | (with_reducible assumption) | exact rfl | (apply atI_nat; (with_reducible assumption)) | exact atI_last _ _)) | ((with_reducible apply w_ixT); array_mem_dec; (first | (with_reducible assumption) | exact rfl | (apply atI_nat; (with_reducible assumption)) | exact atI_last _ _)) | ((with_reducible apply w_iT); first | exact rfl | (with_reducible assumption)) | ((with_reducible apply w_iF); first | exact rfl | (with_reducible assumption)) | ((with_reducible apply w_isiI (b := true)); decide +kernel) | ((with_reducible apply w_isiI (b := false)); decide +kernel) | ((with_reducible apply w_isiB (b := true)); decide +kernel) | ((with_reducible apply w_isiB (b := false)); decide +kernel) | ((with_reducible apply w_isiS (b := true)); decide +kernel) | ((with_reducible apply w_isiS (b := false)); decide +kernel) | ((with_reducible apply w_isiN (b := true)); decide +kernel) | ((with_reducible apply w_isiN (b := false)); decide +kernel) | ((with_reducible apply w_isiL (b := true)); array_mem_dec; decide +kernel) | ((with_reducible apply w_isiL (b := false)); array_mem_dec; decide +kernel) | ((with_reducible apply w_isiT (b := true)); array_mem_dec; decide +kernel) | ((with_reducible apply w_isiT (b := false)); array_mem_dec; decide +kernel) | (with_reducible refine w_notT ?_) | (with_reducible refine w_chain ?_) | ((with_reducible apply w_trL); array_mem_dec) | ((with_reducible apply w_gTup); array_mem_dec; exact rfl) | ((with_reducible apply w_gLst); array_mem_dec; exact rfl) | (with_reducible refine w_gCons ?_) | (with_reducible refine w_gNil ?_) | (with_reducible refine w_Fld ?_) | (with_reducible refine w_sFld ?_) | (with_reducible refine w_dget ?_) | (with_reducible refine w_dIn ?_) | (with_reducible refine w_dNotIn ?_) | (with_reducible refine w_sDPut ?_) | (with_reducible refine w_dnewK ?_) | (with_reducible refine w_meth ?_) | (with_reducible refine w_make ?_) | (with_reducible refine w_methS ?_) | (with_reducible refine w_makeS ?_) | (with_reducible refine w_dpop ?_) | ((with_reducible apply w_fld1); array_mem_dec; (with_reducible assumption); (with_reducible assumption); exact rfl) | ((with_reducible apply w_sfld1); array_mem_dec; (with_reducible assumption); (with_reducible assumption); exact Nat.le_of_ble_eq_true rfl) | ((with_reducible apply w_meth1); array_mem_dec; exact rfl) | ((with_reducible apply w_dgetS); array_mem_dec; (with_reducible assumption)) | ((with_reducible apply w_dgetI); array_mem_dec; (with_reducible assumption)) | ((with_reducible apply w_dinS); array_mem_dec) | ((with_reducible apply w_dputI); array_mem_dec; (try (first | (with_reducible assumption) | omega | (rw [sizeLine_eq]; omega)))) | ((with_reducible apply w_dputS); array_mem_dec; (try (first | (with_reducible assumption) | omega | (rw [sizeLine_eq]; omega)))) | ((with_reducible apply w_isD); array_mem_dec) | ((with_reducible apply w_dictD); array_mem_dec) | ((with_reducible apply w_dpopS); array_mem_dec; (with_reducible assumption)))
/-! ### the refusal of a caught exception -/
section
variable {P : Program} {w : World} {K : PySem.W.Frag} {mg : Str → Option Value} {base : Heap}
theorem w_isE {D a : Addr} {c : V} {cv : Value} {b : Bool} {H : Hp} {Q : VK} (h : ∀ u, RelV c u → u = cv) (k : PySem.W.kitOne K (.ref D) cv = some b) (q : Q (.bl b) H) : rIsE K D a [.ref a, c] H Q := ⟨c, cv, b, rfl, h, k, q⟩
theorem fn_refusal (M : Nms K mg) {C : Addr} {bN bP : Bool} (Y : CatchT K mg M.CE C) (kN : PySem.W.kitOne K (.ref C) (.ref M.CN) = some bN) (kP : PySem.W.kitOne K (.ref C) (.ref M.CP) = some bP) (one : bP = !bN) :
    FnE P w K mg base C 1 M.a__law_refusal M.d__law_refusal ["problem"] (.str (if bN = true then Str.ofString "number" else Str.ofString "paper")) := by
  refine fnE_of M.F__law_refusal sc__law_refusal rfl fun cd A outer z G Q p hot zc room q => ?_
  have hotc : L2H.HotC (L2H.cxH CX0 P w K mg base ["problem", "kinds", "found", "k"] "_law_refusal" (defScope s__law_refusal) M.a__law_refusal cd A outer z G E0 p) := ⟨p, hot, List.mem_singleton_self _⟩
  have fl : ∃ vs, p.2.data = .fields vs := by obtain ⟨_, vs, e, _⟩ := hot; exact ⟨vs, e⟩
  refine ⟨_, (pss_cons (ps_set (i := 1) sc__law_refusal.nd rfl (Or.inr rfl) (pe_lst (pa_cons (pe_callB (call_isP Y.ec zc fl (List.mem_singleton_self _)) (by rfl) M.T.b_isinstance (by decide +kernel) (pa_cons (pv 0) (pa_cons (pe_glob (v := .ref M.CN) rfl M.XN.gP rfl) pa_nil))) (pa_cons (pe_callB (call_isP Y.ec zc fl (List.mem_singleton_self _)) (by rfl) M.T.b_isinstance (by decide +kernel) (pa_cons (pv 0) (pa_cons (pe_glob (v := .ref M.CP) rfl M.XP.gP rfl) pa_nil))) pa_nil)))) (pss_cons (ps_hotLc (i := 2) (own := [("k", 3)])  hotc sc__law_refusal.nd rfl rfl (sw_true rfl rfl rfl (by decide +kernel)) (L2H.pi_range1H (by rfl) M.T.b_range (pa_cons pe_int pa_nil)) (blkOk_by (N := ["problem", "kinds", "found", "k"]) (sc := defScope s__law_refusal) (own := [("k", 3)]) (by decide +kernel)) (fun _ _ _ _ _ => (pg_name (i := 3) sc__law_refusal.nd rfl (Or.inl rfl))) (fun _ _ _ _ _ => pts_one (pt_val (pe_ix (r := rIxL K) ix_list (pv 1) (pv 3) (fun _ _ => rfl)))) (fun _ _ _ _ _ => (pe_ix (r := rIxL K) ix_list (pe_lst (pa_cons pe_str (pa_cons pe_str pa_nil))) (pv 3) (fun _ _ => rfl)))) (pss_one (ps_ret (pe_ifExp (PW.pt (pw_and (pt_cmpR op_eq (pe_callB call_len (by rfl) M.T.b_len (by decide +kernel) (pa_cons (pv 2) pa_nil)) pe_int (nomark _)) (pw_and1 (pt_val (pe_callB (call_isP Y.ec zc fl (List.mem_singleton_self _)) (by rfl) M.T.b_isinstance (by decide +kernel) (pa_cons (pv 0) (pa_cons (pe_bltn (v := .ty "ValueError") (u := .type "ValueError") (by rfl) M.T.b_ValueError (by decide +kernel) rfl) pa_nil))))))) (pe_ix (r := rIxL K) ix_list (pv 2) pe_int (fun _ _ => rfl)) pe_str))))), ?_⟩
  have hP : PySem.W.kitOne K (.ref C) (.ref M.CP) = some (!bN) := by rw [← one]; exact kP
  refine w_start (σ' := [some (.ref p.1), none, none, none]) rfl ?_
  (repeat array_get_dec)
  refine w_isE (fun u r => r) kN ?_
  (repeat array_get_dec)
  refine w_isE (fun u r => r) hP ?_
  (repeat array_get_dec)
  refine ⟨by show 2 ≤ sizeLine; decide, fun kq hkq => ?_⟩
  have s0 := same_upd (o := .lst [.bl bN, .bl (!bN)]) (Same.refl G) hkq
  (repeat array_get_dec)
  intro A hA
  have a0 : atI [V.bl bN, V.bl (!bN)] ((0 : Nat) : Int) = some (.bl bN) := atI_nat (j := 0) rfl
  have a1 : atI [V.bl bN, V.bl (!bN)] ((1 : Nat) : Int) = some (.bl (!bN)) := atI_nat (j := 1) rfl
  refine lc_range (fun i H' => H' A = some (.lst (if i = 0 then [] else if i = 1 then (if bN = true then [.str (Str.ofString "number")] else []) else [.str (if bN = true then Str.ofString "number" else Str.ofString "paper")])) ∧ ∀ b o, b ≠ A → upd G kq (.lst [.bl bN, .bl (!bN)]) b = some o → H' b = some o) ⟨upd_same, fun b o nb e => by rw [upd_ne nb]; exact e⟩ ?_ ?_
  · rintro i H' hi ⟨h1, h2⟩
    have hk : H' kq = some (.lst [.bl bN, .bl (!bN)]) := h2 _ _ (ne_of_none upd_same hA) upd_same
    rw [Int.zero_add]
    have hi' : i < 2 := hi
    have w0 : atI [V.str (Str.ofString "number"), V.str (Str.ofString "paper")] ((0 : Nat) : Int) = some (.str (Str.ofString "number")) := atI_nat (j := 0) rfl
    have w1 : atI [V.str (Str.ofString "number"), V.str (Str.ofString "paper")] ((1 : Nat) : Int) = some (.str (Str.ofString "paper")) := atI_nat (j := 1) rfl
    match i, hi' with
    | 0, _ =>
      rw [if_pos rfl] at h1
      have lz : ([] : List V).length < sizeLine := by rw [sizeLine_eq]; decide
      (repeat array_get_dec)
      refine ite2 (fun hb => ?_) (fun hb => ?_)
      · (repeat array_get_dec)
        refine ⟨by show 2 ≤ sizeLine; decide, fun l hl => ?_⟩
        (repeat array_get_dec)
        refine ⟨by rw [upd_same, if_neg (by decide), if_pos rfl, if_pos hb]; rfl, fun b o nb e => by
          have e2 := h2 b o nb e
          rw [upd_ne nb, upd_ne (ne_of_none e2 hl)]; exact e2⟩
      · refine ⟨by rw [h1, if_neg (by decide), if_pos rfl, if_neg hb], h2⟩
    | 1, _ =>
      rw [if_neg (by decide), if_pos rfl] at h1
      have lz : (if bN = true then [V.str (Str.ofString "number")] else []).length < sizeLine := by
        rw [sizeLine_eq]
        split <;> simp
      (repeat array_get_dec)
      refine ite2 (fun hb => ?_) (fun hb => ?_)
      · have hb' : bN = false := by simpa using hb
        (repeat array_get_dec)
        refine ⟨by show 2 ≤ sizeLine; decide, fun l hl => ?_⟩
        (repeat array_get_dec)
        refine ⟨by rw [upd_same, hb']; rfl, fun b o nb e => by
          have e2 := h2 b o nb e
          rw [upd_ne nb, upd_ne (ne_of_none e2 hl)]; exact e2⟩
      · have hb' : bN = true := by simpa using hb
        refine ⟨by rw [h1, hb']; rfl, h2⟩
  · rintro H' ⟨h1, h2⟩
    have h1' : H' A = some (.lst [.str (if bN = true then Str.ofString "number" else Str.ofString "paper")]) := h1
    have w0 : atI [V.str (if bN = true then Str.ofString "number" else Str.ofString "paper")] (0 : Int) = some (.str (if bN = true then Str.ofString "number" else Str.ofString "paper")) := atI_nat (j := 0) rfl
    (repeat array_get_dec)
    refine w_isE (cv := .type "ValueError") (fun u r => r) Y.kV ?_
    (repeat array_get_dec)
    refine q H' fun b o e => ?_
    refine h2 b o (fun z => ?_) (by rw [upd_ne (ne_of_none e hkq)]; exact e)
    rw [z] at e
    have := upd_ne (H := G) (o := .lst [V.bl bN, V.bl (!bN)]) (ne_of_none e hkq)
    rw [hA, e] at this
    cases this
theorem takes0N {X : Cx} : L2N.Takes X (fun _ _ _ _ => False) := fun _ _ x => by
  obtain ⟨_, _, _, _, _, _, _, _, _, _, _, _, _, _, _, _, z⟩ := x
  exact z.elim
theorem room_mark {k : Nat} {A : Around} (r : Room k A) (h : Option Value) : L2H.RoomH k (A.mark h) := ⟨r.dp, r.un⟩
theorem pss_ex {X : Cx} {st : List Stmt} {α : Type} {t : α → TS} (h : ∀ b, PSs X st (t b)) : PSs X st (fun D σ H => ∃ b, t b D σ H) := ⟨fun pins s σ H D I ⟨b, ht⟩ => (h b).run pins s σ H D I ht⟩
def refS (b : Bool) : V := .str (if b = true then Str.ofString "number" else Str.ofString "paper")
theorem fnE_b (M : Nms K mg) (b : Bool) : FnE P w K mg base (cond b M.CN M.CP) 1 M.a__law_refusal M.d__law_refusal ["problem"] (refS b) := by
  cases b
  · exact fn_refusal M M.YP M.notNP M.YP.kC rfl
  · exact fn_refusal M M.YN M.YN.kC M.notPN rfl
def spRefused (CD CL : Addr) : Sp := fun vs H Q _ => ∃ (c : Int) (v u : V), vs = [.int c, v, u] ∧
  ((c = 0 ∧ badN v 0 999999 ∧ ∀ H', Same H H' → Q (refS true) H') ∨
   (c = 1 ∧ (∃ l : List Nat, v = .str (mkS l) ∧ l.length ≤ 100 ∧ isPartL l = false) ∧ ∀ H', Same H H' → Q (refS false) H') ∨
   (c = 2 ∧ ∃ (d : Addr) (fd : List Addr) (D : DS) (m : Nat), v = .ref d ∧ u = .int (m : Int) ∧ DiskAt CD H d fd D ∧ okF D ∧ 1 ≤ m ∧ m ≤ 1000 ∧ partN D ≠ [] ∧ foundGo (partN D) D [] = none ∧ ∀ H', (∀ b o, H b = some o → b ∉ fd → H' b = some o) → Q (refS false) H') ∨
   (c = 3 ∧ badN v 1 1000 ∧ ∀ H', Same H H' → Q (refS true) H'))
theorem ok__law_refused (M : Nms K mg) : FnOk P w K mg base CX0 8 M.a__law_refused M.d__law_refused ["choice", "one", "two"] (spRefused M.CD M.CL) := by
  refine M.F__law_refused.ok sc__law_refused (fun vs H Q E h => ?_) (fun cdv A outer s H vs Q E hr h => ?_)
  · obtain ⟨c, v, u, rfl, _⟩ := h
    rfl
  · refine ⟨_, pss_cons (L2N.ps_try_as (i := 3) (tb := fun W => tIfS (tTest (tOp rEq (tVar 0) (tC (.int 0)))) (tDrop (tCallS (spPart M.CN) (WE W) (tCons (tVar 1) tNil)))
          (tIfS (tTest (tOp rEq (tVar 0) (tC (.int 1)))) (tDrop (tCallS (spFirst M.CP) (WE W) (tCons (tVar 1) tNil)))
          (tIfS (tTest (tOp rEq (tVar 0) (tC (.int 2)))) (tDrop (tMakeS M.CL (spInitL M.CD M.CL M.CP M.CN) (WE W) (tCons (tVar 1) (tCons (tVar 2) tNil)))) (tDrop (tCallS (spNewL M.CN) (WE W) (tCons (tVar 1) tNil))))))
        (ts := fun a cls d D σ H => ∃ b : Bool, (cls = .ref (cond b M.CN M.CP) ∧ d = none) ∧ tRet (fun σ H Q => σ[3]? = some (some (.ref a)) ∧ ∀ H', Same H H' → Q (refS b) H') D σ H) (Wout := fun _ _ _ _ => False)
        rfl rfl sc__law_refused.nd rfl rfl ⟨rfl, by decide, .inl M.YP.gD⟩ takes0N
        (fun W pn xe tk _ => pss_one (ps_if (pt_cmpR op_eq (pv 0) pe_int (nomark _))
          (pss_one (ps_expr (by exact (pe_callS (ok_part_name M) (hr.mono (by decide)) rfl M.g_part_name M.k_part_name M.b_part_name (fun σ => L2N.passAt tk σ) (by exact (pa_cons (pv 1) pa_nil))))))
          (pss_one (ps_if (pt_cmpR op_eq (pv 0) pe_int (nomark _))
            (pss_one (ps_expr (by exact (pe_callS (ok_first_of M) (hr.mono (by decide)) rfl M.g_first_of M.k_first_of M.b_first_of (fun σ => L2N.passAt tk σ) (by exact (pa_cons (pv 1) pa_nil))))))
            (pss_one (ps_if (pt_cmpR op_eq (pv 0) pe_int (nomark _))
              (pss_one (ps_expr (by exact (pe_makeS1 M.mkL (ok_Log___init__ M) (hr.mono (by decide)) rfl M.gL M.b_Log___init__ (fun σ => L2N.passAt tk σ) (by exact (pa_cons (pv 1) (pa_cons (pv 2) pa_nil)))))))
              (pss_one (ps_expr (by exact (pe_callS (ok_new_log M) (hr.mono (by decide)) rfl M.g_new_log M.k_new_log M.b_new_log (fun σ => L2N.passAt tk σ) (by exact (pa_cons (pv 1) pa_nil))))))))))))
        (fun a oe cls d pn hz hf => pss_ex fun b => pss_when fun hp => by
          obtain ⟨rfl, rfl⟩ := hp
          obtain ⟨ws, ew⟩ := hf
          exact pss_one (ps_ret (pe_handed (fnE_b M b) (room_mark (k := 1) (hr.mono (by decide)) _) hz.zc ⟨rfl, ws, ew, hz.2.2 ws ew⟩ rfl M.g__law_refusal M.k__law_refusal M.b__law_refusal rfl (Or.inl rfl)))))
      (pss_one (ps_ret pe_str)), ?_⟩
    obtain ⟨c, v, u, rfl, h⟩ := h
    have caught : ∀ (b : Bool) (σ : L2.St) (D : Ends) (H' : Hp), σ.length = 4 → (∀ H2, Same H' H2 → D.rt (refS b) H2) → WE (wAs K (.ref M.CE) 3 (fun a cls d D σ H => ∃ b : Bool, (cls = .ref (cond b M.CN M.CP) ∧ d = none) ∧ tRet (fun σ H Q => σ[3]? = some (some (.ref a)) ∧ ∀ H', Same H H' → Q (refS b) H') D σ H) (fun _ _ _ _ => False) D) σ (.ref (cond b M.CN M.CP)) none H' := by
      intro b σ D H' hl q
      refine ⟨true, by cases b; exact M.YP.exm; exact M.YN.exm, fun _ a ha => ⟨b, ⟨rfl, rfl⟩, List.getElem?_set_self (by omega), q⟩, fun z => by cases z⟩
    refine w_start (σ' := [some (.int c), some v, some u, none]) rfl ?_
    (repeat array_get_dec)
    rcases h with ⟨rfl, hb, q⟩ | ⟨rfl, ⟨l, rfl, hl, hp⟩, q⟩ | ⟨rfl, d, fd, D, m, rfl, rfl, dk, okd, m1, m2, hne, hno, q⟩ | ⟨rfl, hb, q⟩
    · (repeat array_get_dec)
      rcases hb with ⟨i, rfl, hb⟩ | ⟨b, rfl⟩
      · exact .inr ⟨.inl ⟨i, rfl, hb⟩, caught true _ _ _ rfl q⟩
      · exact .inr ⟨.inr ⟨b, rfl⟩, caught true _ _ _ rfl q⟩
    · (repeat array_get_dec)
      exact ⟨l, rfl, hl, fun z => (by rw [hp] at z; cases z), fun _ H' s => caught false _ _ _ rfl fun H2 s2 => q _ (s.trans s2)⟩
    · (repeat array_get_dec)
      intro x dx hx hdx hne2
      refine ⟨x, dx, d, fd, D, .int (m : Int), rfl, upd_same, fun z => dk.has x z hx, dk.keep fun b o e _ => by rw [upd_ne (ne_of_none e hx), upd_ne (ne_of_none e hdx)]; exact e, okd, .inr ⟨m, rfl, m1, m2, .inr ⟨hne, fun D2 L2 e => (by rw [hno] at e; cases e), fun _ H' hk => caught false _ _ _ rfl fun H2 s2 => q _ fun b o e nb => s2 _ _ (hk b o (by rw [upd_ne (ne_of_none e hx), upd_ne (ne_of_none e hdx)]; exact e) (by simp only [List.mem_cons, not_or]; exact ⟨ne_of_none e hx, nb⟩))⟩⟩⟩
    · (repeat array_get_dec)
      exact ⟨_, rfl, hb, fun H' s => caught true _ _ _ rfl fun H2 s2 => q _ (s.trans s2)⟩
end
end K53

namespace K53
open PySem PySem.Spec PyProof.Rows L2
/-! ### the plain law -/
def tK (k : Nat) : List Nat := [116] ++ TL.numL k
def atN (D : DS) (n : Nat) : Nat := (D.names.lookup (partL n)).getD 0
def begN (D : DS) (n : Nat) : DS := syncN (makeD D (partL n))
def addS (most : Nat) (S : DS × PL) (t : List Nat) : DS × PL :=
  match S.2.getLast? with
  | none => S
  | some q => if most ≤ q.2.length then
      (writeD (begN (syncD S.1 (atN S.1 q.1)) (q.1 + q.2.length)) (atN (begN (syncD S.1 (atN S.1 q.1)) (q.1 + q.2.length)) (q.1 + q.2.length)) (frameL t), S.2 ++ [(q.1 + q.2.length, [t])])
    else (writeD S.1 (atN S.1 q.1) (frameL t), S.2.dropLast ++ [(q.1, q.2 ++ [t])])
def okAdd (most : Nat) (S : DS × PL) (t : List Nat) : Bool :=
  decide (t.length ≤ 1000) && t.all okSign && !decide (63 ∈ frameL t) &&
  match S.2.getLast? with
  | none => false
  | some q => decide (q.1 ≤ 999999) && decide (q.2.length < 1000) && (S.1.names.lookup (partL q.1)).isSome &&
    if most ≤ q.2.length then
      decide (small (syncD S.1 (atN S.1 q.1)) (syncD S.1 (atN S.1 q.1)).kept.length) && decide (q.1 + q.2.length ≤ 999999) && decide (S.2.length < 40) && (S.1.names.lookup (partL (q.1 + q.2.length))).isNone &&
      decide (small (makeD (syncD S.1 (atN S.1 q.1)) (partL (q.1 + q.2.length))) (makeD (syncD S.1 (atN S.1 q.1)) (partL (q.1 + q.2.length))).kept.length) &&
      ((begN (syncD S.1 (atN S.1 q.1)) (q.1 + q.2.length)).names.lookup (partL (q.1 + q.2.length))).isSome &&
      decide (small (addS most S t).1 (addS most S t).1.kept.length)
    else decide (small (addS most S t).1 (addS most S t).1.kept.length)
def st0 : DS × PL := (begN noneD 0, [(0, [])])
def st (most : Nat) : Nat → DS × PL
  | 0 => st0
  | k + 1 => addS most (st most k) (tK k)
theorem all_add : ∀ m, 1 ≤ m → m ≤ 3 → ∀ k, k < 10 → okAdd m (st m k) (tK k) = true := by
  have h : ∀ m ∈ [1, 2, 3], ∀ k ∈ List.range 10, okAdd m (st m k) (tK k) = true := by decide +kernel
  intro m h1 h2 k hk
  exact h m (by simp; omega) k (List.mem_range.mpr hk)
/-- the last part synced -/
def fin (most many : Nat) : DS × PL := match (st most many).2.getLast? with
  | none => st most many
  | some q => (syncD (st most many).1 (atN (st most many).1 q.1), (st most many).2)
def okFin (m n : Nat) : Bool := match (st m n).2.getLast? with
  | none => false
  | some q => decide (q.1 ≤ 999999) && ((st m n).1.names.lookup (partL q.1)).isSome && decide (small (fin m n).1 (fin m n).1.kept.length) && decide (okF (fin m n).1) && (partN (fin m n).1 == (fin m n).2.map fun q => partL q.1) && decide (q.1 + q.2.length = n)
theorem all_fin : ∀ m, 1 ≤ m → m ≤ 3 → ∀ n, n < 11 → okFin m n = true := by
  have h : ∀ m ∈ [1, 2, 3], ∀ n ∈ List.range 11, okFin m n = true := by decide +kernel
  intro m h1 h2 n hn
  exact h m (by simp; omega) n (List.mem_range.mpr hn)
/-! what one turn of the law's loop asks -/
def refusedB (D : DS) : Bool := decide (okF D) && !(partN D).isEmpty && (foundGo (partN D) D []).isNone
def foundB (D : DS) (P : DS → PL → Bool) : Bool := decide (okF D) && !(partN D).isEmpty && match foundGo (partN D) D [] with
  | none => false
  | some (D2, L2) => P D2 L2
def firstL (L : PL) : Nat := match L with | [] => 0 | q :: _ => q.1
def smallB (D : DS) : Bool := decide (small D D.kept.length)
def it0 (m n i : Nat) : Bool :=
  let D := (fin m n).1; let L := (fin m n).2
  match L[i]? with
  | none => true
  | some q => smallB (dropD D (partL q.1)) && (if 0 < i ∧ i < L.length - 1 then refusedB (dropD D (partL q.1)) else if i = 0 ∧ 1 < L.length then
      foundB (dropD D (partL q.1)) fun _ L2 => !L2.isEmpty && decide (some (firstL L2) = (L[1]?).map (·.1)) && decide (nextL L2 = n) else true)
def textsB (L2 : PL) : Bool := (List.range (nextL L2 - firstL L2)).all fun j => decide (textAt L2 (firstL L2 + j) = some (tK (firstL L2 + j)))
def it1 (m n i s : Nat) : Bool :=
  match (fin m n).2[i]? with
  | none => true
  | some q => match foundGo (partN (fin m n).1) (cutD (fin m n).1 (atN (fin m n).1 q.1) s) [] with
    | none => decide (i < (fin m n).2.length - 1)
    | some (_, L2) => decide (¬ i < (fin m n).2.length - 1) && !L2.isEmpty && decide (nextL L2 ≤ n) && decide (q.1 ≤ nextL L2) && decide (firstL L2 ≤ nextL L2) && textsB L2
def sizeL (m n i : Nat) : Nat := match (fin m n).2[i]? with | none => 0 | some q => (readD (fin m n).1 (atN (fin m n).1 q.1)).length
def it2 (m n i : Nat) : Bool :=
  let D := (fin m n).1; let L := (fin m n).2
  match L[i]? with
  | none => true
  | some q => let C := writeD D (atN D q.1) [51, 58, 52]
    smallB C && (if i < L.length - 1 then refusedB C else foundB C fun D2 L2 => !L2.isEmpty && decide (nextL L2 = n) && decide ((D2.names.lookup (partL q.1)) = some (atN D q.1)) && decide ((readD D2 (atN D q.1)).length = (readD D (atN D q.1)).length))
def it3 (m n : Nat) : Bool :=
  let D := (fin m n).1
  let C := makeD D (partL (n + 1))
  smallB C && (D.names.lookup (partL (n + 1))).isNone && refusedB C
end K53

namespace K53
theorem all_it3 : ∀ m ∈ [1, 2, 3], ∀ n ∈ List.range 11, it3 m n = true := by decide +kernel
theorem all_it0 : ∀ m ∈ [1, 2, 3], ∀ n ∈ List.range 11, ∀ i ∈ List.range (fin m n).2.length, it0 m n i = true := by decide +kernel
theorem all_it2 : ∀ m ∈ [1, 2, 3], ∀ n ∈ List.range 11, ∀ i ∈ List.range (fin m n).2.length, it2 m n i = true ∧ (0 < sizeL m n i ∨ n = 0) := by decide +kernel
theorem it1_1_0 : ∀ i ∈ List.range (fin 1 0).2.length, ∀ s ∈ List.range (sizeL 1 0 i), it1 1 0 i s = true := by decide +kernel
theorem it1_1_1 : ∀ i ∈ List.range (fin 1 1).2.length, ∀ s ∈ List.range (sizeL 1 1 i), it1 1 1 i s = true := by decide +kernel
theorem it1_1_2 : ∀ i ∈ List.range (fin 1 2).2.length, ∀ s ∈ List.range (sizeL 1 2 i), it1 1 2 i s = true := by decide +kernel
theorem it1_1_3 : ∀ i ∈ List.range (fin 1 3).2.length, ∀ s ∈ List.range (sizeL 1 3 i), it1 1 3 i s = true := by decide +kernel
theorem it1_1_4 : ∀ i ∈ List.range (fin 1 4).2.length, ∀ s ∈ List.range (sizeL 1 4 i), it1 1 4 i s = true := by decide +kernel
theorem it1_1_5 : ∀ i ∈ List.range (fin 1 5).2.length, ∀ s ∈ List.range (sizeL 1 5 i), it1 1 5 i s = true := by decide +kernel
theorem it1_1_6 : ∀ i ∈ List.range (fin 1 6).2.length, ∀ s ∈ List.range (sizeL 1 6 i), it1 1 6 i s = true := by decide +kernel
theorem it1_1_7 : ∀ i ∈ List.range (fin 1 7).2.length, ∀ s ∈ List.range (sizeL 1 7 i), it1 1 7 i s = true := by decide +kernel
theorem it1_1_8 : ∀ i ∈ List.range (fin 1 8).2.length, ∀ s ∈ List.range (sizeL 1 8 i), it1 1 8 i s = true := by decide +kernel
theorem it1_1_9 : ∀ i ∈ List.range (fin 1 9).2.length, ∀ s ∈ List.range (sizeL 1 9 i), it1 1 9 i s = true := by decide +kernel
theorem it1_1_10 : ∀ i ∈ List.range (fin 1 10).2.length, ∀ s ∈ List.range (sizeL 1 10 i), it1 1 10 i s = true := by decide +kernel
theorem it1_2_0 : ∀ i ∈ List.range (fin 2 0).2.length, ∀ s ∈ List.range (sizeL 2 0 i), it1 2 0 i s = true := by decide +kernel
theorem it1_2_1 : ∀ i ∈ List.range (fin 2 1).2.length, ∀ s ∈ List.range (sizeL 2 1 i), it1 2 1 i s = true := by decide +kernel
theorem it1_2_2 : ∀ i ∈ List.range (fin 2 2).2.length, ∀ s ∈ List.range (sizeL 2 2 i), it1 2 2 i s = true := by decide +kernel
theorem it1_2_3 : ∀ i ∈ List.range (fin 2 3).2.length, ∀ s ∈ List.range (sizeL 2 3 i), it1 2 3 i s = true := by decide +kernel
theorem it1_2_4 : ∀ i ∈ List.range (fin 2 4).2.length, ∀ s ∈ List.range (sizeL 2 4 i), it1 2 4 i s = true := by decide +kernel
theorem it1_2_5 : ∀ i ∈ List.range (fin 2 5).2.length, ∀ s ∈ List.range (sizeL 2 5 i), it1 2 5 i s = true := by decide +kernel
theorem it1_2_6 : ∀ i ∈ List.range (fin 2 6).2.length, ∀ s ∈ List.range (sizeL 2 6 i), it1 2 6 i s = true := by decide +kernel
theorem it1_2_7 : ∀ i ∈ List.range (fin 2 7).2.length, ∀ s ∈ List.range (sizeL 2 7 i), it1 2 7 i s = true := by decide +kernel
theorem it1_2_8 : ∀ i ∈ List.range (fin 2 8).2.length, ∀ s ∈ List.range (sizeL 2 8 i), it1 2 8 i s = true := by decide +kernel
theorem it1_2_9 : ∀ i ∈ List.range (fin 2 9).2.length, ∀ s ∈ List.range (sizeL 2 9 i), it1 2 9 i s = true := by decide +kernel
theorem it1_2_10 : ∀ i ∈ List.range (fin 2 10).2.length, ∀ s ∈ List.range (sizeL 2 10 i), it1 2 10 i s = true := by decide +kernel
theorem it1_3_0 : ∀ i ∈ List.range (fin 3 0).2.length, ∀ s ∈ List.range (sizeL 3 0 i), it1 3 0 i s = true := by decide +kernel
theorem it1_3_1 : ∀ i ∈ List.range (fin 3 1).2.length, ∀ s ∈ List.range (sizeL 3 1 i), it1 3 1 i s = true := by decide +kernel
theorem it1_3_2 : ∀ i ∈ List.range (fin 3 2).2.length, ∀ s ∈ List.range (sizeL 3 2 i), it1 3 2 i s = true := by decide +kernel
theorem it1_3_3 : ∀ i ∈ List.range (fin 3 3).2.length, ∀ s ∈ List.range (sizeL 3 3 i), it1 3 3 i s = true := by decide +kernel
theorem it1_3_4 : ∀ i ∈ List.range (fin 3 4).2.length, ∀ s ∈ List.range (sizeL 3 4 i), it1 3 4 i s = true := by decide +kernel
theorem it1_3_5 : ∀ i ∈ List.range (fin 3 5).2.length, ∀ s ∈ List.range (sizeL 3 5 i), it1 3 5 i s = true := by decide +kernel
theorem it1_3_6 : ∀ i ∈ List.range (fin 3 6).2.length, ∀ s ∈ List.range (sizeL 3 6 i), it1 3 6 i s = true := by decide +kernel
theorem it1_3_7 : ∀ i ∈ List.range (fin 3 7).2.length, ∀ s ∈ List.range (sizeL 3 7 i), it1 3 7 i s = true := by decide +kernel
theorem it1_3_8 : ∀ i ∈ List.range (fin 3 8).2.length, ∀ s ∈ List.range (sizeL 3 8 i), it1 3 8 i s = true := by decide +kernel
theorem it1_3_9 : ∀ i ∈ List.range (fin 3 9).2.length, ∀ s ∈ List.range (sizeL 3 9 i), it1 3 9 i s = true := by decide +kernel
theorem it1_3_10 : ∀ i ∈ List.range (fin 3 10).2.length, ∀ s ∈ List.range (sizeL 3 10 i), it1 3 10 i s = true := by decide +kernel
theorem all_it1 : ∀ m ∈ [1, 2, 3], ∀ n ∈ List.range 11, ∀ i ∈ List.range (fin m n).2.length, ∀ s ∈ List.range (sizeL m n i), it1 m n i s = true := by
  intro m hm n hn
  have hn' : n < 11 := List.mem_range.mp hn
  have e : n = 0 ∨ n = 1 ∨ n = 2 ∨ n = 3 ∨ n = 4 ∨ n = 5 ∨ n = 6 ∨ n = 7 ∨ n = 8 ∨ n = 9 ∨ n = 10 := by omega
  simp only [List.mem_cons, List.not_mem_nil, or_false] at hm
  rcases hm with rfl | rfl | rfl
  · rcases e with rfl | rfl | rfl | rfl | rfl | rfl | rfl | rfl | rfl | rfl | rfl
    · exact it1_1_0
    · exact it1_1_1
    · exact it1_1_2
    · exact it1_1_3
    · exact it1_1_4
    · exact it1_1_5
    · exact it1_1_6
    · exact it1_1_7
    · exact it1_1_8
    · exact it1_1_9
    · exact it1_1_10
  · rcases e with rfl | rfl | rfl | rfl | rfl | rfl | rfl | rfl | rfl | rfl | rfl
    · exact it1_2_0
    · exact it1_2_1
    · exact it1_2_2
    · exact it1_2_3
    · exact it1_2_4
    · exact it1_2_5
    · exact it1_2_6
    · exact it1_2_7
    · exact it1_2_8
    · exact it1_2_9
    · exact it1_2_10
  · rcases e with rfl | rfl | rfl | rfl | rfl | rfl | rfl | rfl | rfl | rfl | rfl
    · exact it1_3_0
    · exact it1_3_1
    · exact it1_3_2
    · exact it1_3_3
    · exact it1_3_4
    · exact it1_3_5
    · exact it1_3_6
    · exact it1_3_7
    · exact it1_3_8
    · exact it1_3_9
    · exact it1_3_10
end K53

namespace K53
open PySem PySem.Spec PyProof.Rows L2
/-! ### from the checks to what the promises ask -/
theorem last_of {L : PL} {q : Nat × List (List Nat)} (h : L.getLast? = some q) : L = L.dropLast ++ [q] := by
  rcases List.eq_nil_or_concat L with e | ⟨L0, x, e⟩
  · rw [e] at h; cases h
  · rw [List.concat_eq_append] at e
    subst e
    simp at h
    subst h
    simp
theorem get_of {l : List (List Nat × Nat)} {x : List Nat} (h : (l.lookup x).isSome = true) : l.lookup x = some ((l.lookup x).getD 0) := by
  cases e : l.lookup x with
  | none => rw [e] at h; cases h
  | some i => rfl
theorem add_pre {m : Nat} {S : DS × PL} {t : List Nat} (h : okAdd m S t = true) : ∃ (q : Nat × List (List Nat)) (L0 : PL) (D2 : DS) (L2 : PL) (q2 : Nat × List (List Nat)) (i : Nat), S.2 = L0 ++ [q] ∧ t.length ≤ 1000 ∧ goodT t ∧ ¬ 63 ∈ frameL t ∧
    (∀ sure, ∃ sure2, Rot S.1 L0 q m sure D2 L2 q2 sure2) ∧ q2.1 ≤ 999999 ∧ q2.2.length < 1000 ∧ D2.names.lookup (partL q2.1) = some i ∧ small (writeD D2 i (frameL t)) (writeD D2 i (frameL t)).kept.length ∧
    addS m S t = (writeD D2 i (frameL t), L2 ++ [(q2.1, q2.2 ++ [t])]) := by
  unfold okAdd at h
  rw [Bool.and_eq_true, Bool.and_eq_true, Bool.and_eq_true] at h
  obtain ⟨⟨⟨h1, h2⟩, h3⟩, h4⟩ := h
  have h3' : ¬ 63 ∈ frameL t := by simpa using h3
  cases eL : S.2.getLast? with
  | none => rw [eL] at h4; cases h4
  | some q =>
    rw [eL] at h4
    dsimp only at h4
    rw [Bool.and_eq_true, Bool.and_eq_true, Bool.and_eq_true, decide_eq_true_eq, decide_eq_true_eq] at h4
    obtain ⟨⟨⟨b1, b2⟩, b3⟩, b4⟩ := h4
    have e1 := last_of eL
    have e2 := get_of b3
    by_cases hm : m ≤ q.2.length
    · rw [if_pos hm] at b4
      simp only [Bool.and_eq_true, decide_eq_true_eq] at b4
      obtain ⟨⟨⟨⟨⟨⟨c1, c2⟩, c3⟩, c4⟩, c5⟩, c6⟩, c7⟩ := b4
      have ea : addS m S t = (writeD (begN (syncD S.1 (atN S.1 q.1)) (q.1 + q.2.length)) (atN (begN (syncD S.1 (atN S.1 q.1)) (q.1 + q.2.length)) (q.1 + q.2.length)) (frameL t), S.2 ++ [(q.1 + q.2.length, [t])]) := by
        unfold addS
        rw [eL]
        dsimp only
        rw [if_pos hm]
      rw [ea] at c7
      refine ⟨q, S.2.dropLast, begN (syncD S.1 (atN S.1 q.1)) (q.1 + q.2.length), S.2, (q.1 + q.2.length, []), _, e1, of_decide_eq_true h1, h2, h3', fun sure => ⟨q.1 + q.2.length, .inr ⟨hm, atN S.1 q.1, b1, e2, c1, c2, by rw [← e1]; exact c3, Option.isNone_iff_eq_none.mp c4, c5, rfl, e1, rfl, rfl⟩⟩, c2, by show 0 < 1000; decide, get_of c6, c7, ea⟩
    · rw [if_neg hm, decide_eq_true_eq] at b4
      have ea : addS m S t = (writeD S.1 (atN S.1 q.1) (frameL t), S.2.dropLast ++ [(q.1, q.2 ++ [t])]) := by
        unfold addS
        rw [eL]
        dsimp only
        rw [if_neg hm]
      rw [ea] at b4
      exact ⟨q, S.2.dropLast, S.1, S.2.dropLast, q, _, e1, of_decide_eq_true h1, h2, h3', fun sure => ⟨sure, .inl ⟨hm, rfl, rfl, rfl, rfl⟩⟩, b1, b2, e2, b4, ea⟩
end K53

namespace K53
open PySem PySem.Spec PyProof.Rows L2
theorem part_drop (n : Nat) : (partL n).drop 4 = List.replicate (6 - (TL.numL n).length) 48 ++ TL.numL n := by unfold partL; rfl
theorem part_take (n : Nat) : (partL n).take 4 = [108, 111, 103, 46] := by unfold partL; rfl
theorem part_is {n : Nat} (h : n ≤ 999999) : isPartL (partL n) = true := by
  have l6 : (TL.numL n).length ≤ 6 := TL.numL_len (by decide) (by omega)
  unfold isPartL
  rw [part_take, part_drop, Bool.and_eq_true, Bool.and_eq_true, decide_eq_true_eq]
  refine ⟨by decide, ?_, ?_⟩
  · rw [List.length_append, List.length_replicate]; omega
  · rw [List.all_append, Bool.and_eq_true]
    refine ⟨?_, ?_⟩
    · rw [List.all_eq_true]
      intro c hc
      obtain rfl := List.eq_of_mem_replicate hc
      decide
    · rw [List.all_eq_true]
      intro c hc
      have := TL.numL_digits n c hc
      unfold isDig
      rw [Bool.and_eq_true, decide_eq_true_eq, decide_eq_true_eq]
      exact this
theorem val_zeros (l : List Nat) : ∀ k, NumText.digitsVal (List.replicate k 48 ++ l) = NumText.digitsVal l
  | 0 => rfl
  | k + 1 => by
    rw [List.replicate_succ, List.cons_append]
    have := val_zeros l k
    unfold NumText.digitsVal at *
    rw [List.foldl_cons]
    exact this
theorem part_val (n : Nat) : NumText.digitsVal ((partL n).drop 4) = n := by
  rw [part_drop, val_zeros, TL.numL_val]
theorem part_len {n : Nat} (h : n ≤ 999999) : (partL n).length = 10 := by
  have l6 : (TL.numL n).length ≤ 6 := TL.numL_len (by decide) (by omega)
  unfold partL
  rw [List.length_append, List.length_append, List.length_replicate]
  show 4 + _ = 10
  omega
def figL (k n : Nat) : List Nat := List.replicate k 48 ++ TL.numL n
theorem fig_txt {n : Nat} : Str.ofString "log." ++ mkS (figL (6 - (TL.numL n).length) n) = mkS (partL n) := by
  have e : Str.ofString "log." = mkS [108, 111, 103, 46] := by decide +kernel
  rw [e, mkS_app]
  rfl
theorem fig_next (k n : Nat) : Str.ofString "0" ++ mkS (figL k n) = mkS (figL (k + 1) n) := by
  have e : Str.ofString "0" = mkS [48] := by decide +kernel
  rw [e, mkS_app]
  unfold figL
  rw [List.replicate_succ]
  rfl
end K53

namespace K53
open PySem PySem.Spec PyProof.Rows L2
/-! ### what a turn of the law's loop asks, from the checks -/
theorem all_le : ∀ m ∈ [1, 2, 3], ∀ n ∈ List.range 11, (fin m n).2 ≠ [] ∧ (fin m n).2.length ≤ 40 ∧ ∀ q ∈ (fin m n).2, q.1 ≤ 999999 ∧ q.2.length ≤ 1000 ∧ ((fin m n).1.names.lookup (partL q.1)).isSome = true ∧ (n = 0 → q.2 = []) := by decide +kernel
theorem in3 {m : Nat} (h : m < 3) : m + 1 ∈ [1, 2, 3] := by
  have : m = 0 ∨ m = 1 ∨ m = 2 := by omega
  rcases this with rfl | rfl | rfl <;> decide
theorem next_of {L : PL} (h : L.isEmpty = false) : ∃ L0 q q0 L1, L = L0 ++ [q] ∧ L = q0 :: L1 ∧ nextL L = q.1 + q.2.length ∧ firstL L = q0.1 := by
  cases L with
  | nil => cases h
  | cons q0 L1 =>
    cases e : (q0 :: L1).getLast? with
    | none => simp at e
    | some q =>
      refine ⟨_, q, q0, L1, last_of e, rfl, ?_, rfl⟩
      unfold nextL
      rw [e]
theorem refused_of {D : DS} (h : refusedB D = true) : okF D ∧ partN D ≠ [] ∧ foundGo (partN D) D [] = none := by
  unfold refusedB at h
  rw [Bool.and_eq_true, Bool.and_eq_true, decide_eq_true_eq] at h
  obtain ⟨⟨h1, h2⟩, h3⟩ := h
  exact ⟨h1, fun z => (by rw [z] at h2; cases h2), Option.isNone_iff_eq_none.mp h3⟩
theorem found_of {D : DS} {P : DS → PL → Bool} (h : foundB D P = true) : okF D ∧ partN D ≠ [] ∧ ∃ D2 L2, foundGo (partN D) D [] = some (D2, L2) ∧ P D2 L2 = true := by
  unfold foundB at h
  rw [Bool.and_eq_true, Bool.and_eq_true, decide_eq_true_eq] at h
  obtain ⟨⟨h1, h2⟩, h3⟩ := h
  refine ⟨h1, fun z => (by rw [z] at h2; cases h2), ?_⟩
  cases e : foundGo (partN D) D [] with
  | none => rw [e] at h3; cases h3
  | some x => rw [e] at h3; exact ⟨x.1, x.2, rfl, h3⟩
section
variable {m n i : Nat} {q : Nat × List (List Nat)} (hm : m < 3) (hn : n < 11) (hq : (fin (m + 1) n).2[i]? = some q)
include hm hn hq
theorem t_base : i < (fin (m + 1) n).2.length ∧ q.1 ≤ 999999 ∧ q.2.length ≤ 1000 ∧ (fin (m + 1) n).1.names.lookup (partL q.1) = some (atN (fin (m + 1) n).1 q.1) ∧ (n = 0 → q.2 = []) := by
  obtain ⟨hi, e⟩ := List.getElem?_eq_some_iff.mp hq
  obtain ⟨_, _, h⟩ := all_le _ (in3 hm) n (List.mem_range.mpr hn)
  obtain ⟨h1, h2, h3, h4⟩ := h q (List.mem_of_getElem? hq)
  exact ⟨hi, h1, h2, get_of h3, h4⟩
theorem t0 : small (dropD (fin (m + 1) n).1 (partL q.1)) (fin (m + 1) n).1.kept.length ∧
    (0 < i ∧ i < (fin (m + 1) n).2.length - 1 → okF (dropD (fin (m + 1) n).1 (partL q.1)) ∧ partN (dropD (fin (m + 1) n).1 (partL q.1)) ≠ [] ∧ foundGo (partN (dropD (fin (m + 1) n).1 (partL q.1))) (dropD (fin (m + 1) n).1 (partL q.1)) [] = none) ∧
    (i = 0 ∧ 1 < (fin (m + 1) n).2.length → okF (dropD (fin (m + 1) n).1 (partL q.1)) ∧ partN (dropD (fin (m + 1) n).1 (partL q.1)) ≠ [] ∧ ∃ D2 L2 q1, foundGo (partN (dropD (fin (m + 1) n).1 (partL q.1))) (dropD (fin (m + 1) n).1 (partL q.1)) [] = some (D2, L2) ∧ L2.isEmpty = false ∧ (fin (m + 1) n).2[1]? = some q1 ∧ firstL L2 = q1.1 ∧ nextL L2 = n) := by
  obtain ⟨hi, e⟩ := List.getElem?_eq_some_iff.mp hq
  have h := all_it0 _ (in3 hm) n (List.mem_range.mpr hn) i (List.mem_range.mpr hi)
  unfold it0 at h
  dsimp only at h
  rw [hq] at h
  dsimp only at h
  rw [Bool.and_eq_true] at h
  obtain ⟨h1, h2⟩ := h
  refine ⟨of_decide_eq_true h1, fun z => ?_, fun z => ?_⟩
  · rw [if_pos z] at h2
    exact refused_of h2
  · rw [if_neg (by omega), if_pos z] at h2
    obtain ⟨x1, x2, D2, L2, x3, x4⟩ := found_of h2
    rw [Bool.and_eq_true, Bool.and_eq_true, decide_eq_true_eq, decide_eq_true_eq] at x4
    obtain ⟨⟨y1, y2⟩, y3⟩ := x4
    refine ⟨x1, x2, D2, L2, (fin (m + 1) n).2[1]'z.2, x3, by simpa using y1, List.getElem?_eq_getElem z.2, ?_, y3⟩
    rw [List.getElem?_eq_getElem z.2] at y2
    exact Option.some.inj y2
theorem t1 {s : Nat} (ok : okF (fin (m + 1) n).1) (sm : small (fin (m + 1) n).1 (fin (m + 1) n).1.kept.length) (hs : s < (readD (fin (m + 1) n).1 (atN (fin (m + 1) n).1 q.1)).length) :
    small (cutD (fin (m + 1) n).1 (atN (fin (m + 1) n).1 q.1) s) (fin (m + 1) n).1.kept.length ∧ okF (cutD (fin (m + 1) n).1 (atN (fin (m + 1) n).1 q.1) s) ∧
    (i < (fin (m + 1) n).2.length - 1 → foundGo (partN (fin (m + 1) n).1) (cutD (fin (m + 1) n).1 (atN (fin (m + 1) n).1 q.1) s) [] = none) ∧
    (¬ i < (fin (m + 1) n).2.length - 1 → ∃ D2 L2, foundGo (partN (fin (m + 1) n).1) (cutD (fin (m + 1) n).1 (atN (fin (m + 1) n).1 q.1) s) [] = some (D2, L2) ∧ L2.isEmpty = false ∧ nextL L2 ≤ n ∧ q.1 ≤ nextL L2 ∧ firstL L2 ≤ nextL L2 ∧ ∀ j, firstL L2 + j < nextL L2 → textAt L2 (firstL L2 + j) = some (tK (firstL L2 + j))) := by
  obtain ⟨hi, e⟩ := List.getElem?_eq_some_iff.mp hq
  obtain ⟨c1, c2⟩ := cut_small (i := atN (fin (m + 1) n).1 q.1) (n := s) sm ok.2.2.1
  refine ⟨c1, ⟨ok.1, ok.2.1, c2, ok.2.2.2⟩, ?_⟩
  have h := all_it1 _ (in3 hm) n (List.mem_range.mpr hn) i (List.mem_range.mpr hi) s (List.mem_range.mpr (by unfold sizeL; rw [hq]; exact hs))
  unfold it1 at h
  rw [hq] at h
  dsimp only at h
  cases e : foundGo (partN (fin (m + 1) n).1) (cutD (fin (m + 1) n).1 (atN (fin (m + 1) n).1 q.1) s) [] with
  | none =>
    rw [e] at h
    exact ⟨fun _ => rfl, fun z => absurd (of_decide_eq_true h) z⟩
  | some x =>
    rw [e] at h
    obtain ⟨D2, L2⟩ := x
    dsimp only at h
    simp only [Bool.and_eq_true, decide_eq_true_eq] at h
    obtain ⟨⟨⟨⟨⟨y1, y2⟩, y3⟩, y4⟩, y5⟩, y6⟩ := h
    refine ⟨fun z => absurd z y1, fun _ => ⟨D2, L2, rfl, by simpa using y2, y3, y4, y5, fun j hj => ?_⟩⟩
    unfold textsB at y6
    rw [List.all_eq_true] at y6
    exact of_decide_eq_true (y6 j (List.mem_range.mpr (by omega)))
theorem t2 : small (writeD (fin (m + 1) n).1 (atN (fin (m + 1) n).1 q.1) [51, 58, 52]) (fin (m + 1) n).1.kept.length ∧
    (i < (fin (m + 1) n).2.length - 1 → okF (writeD (fin (m + 1) n).1 (atN (fin (m + 1) n).1 q.1) [51, 58, 52]) ∧ partN (writeD (fin (m + 1) n).1 (atN (fin (m + 1) n).1 q.1) [51, 58, 52]) ≠ [] ∧ foundGo (partN (writeD (fin (m + 1) n).1 (atN (fin (m + 1) n).1 q.1) [51, 58, 52])) (writeD (fin (m + 1) n).1 (atN (fin (m + 1) n).1 q.1) [51, 58, 52]) [] = none) ∧
    (¬ i < (fin (m + 1) n).2.length - 1 → okF (writeD (fin (m + 1) n).1 (atN (fin (m + 1) n).1 q.1) [51, 58, 52]) ∧ partN (writeD (fin (m + 1) n).1 (atN (fin (m + 1) n).1 q.1) [51, 58, 52]) ≠ [] ∧ ∃ D2 L2, foundGo (partN (writeD (fin (m + 1) n).1 (atN (fin (m + 1) n).1 q.1) [51, 58, 52])) (writeD (fin (m + 1) n).1 (atN (fin (m + 1) n).1 q.1) [51, 58, 52]) [] = some (D2, L2) ∧ L2.isEmpty = false ∧ nextL L2 = n ∧ D2.names.lookup (partL q.1) = some (atN (fin (m + 1) n).1 q.1) ∧ (readD D2 (atN (fin (m + 1) n).1 q.1)).length = (readD (fin (m + 1) n).1 (atN (fin (m + 1) n).1 q.1)).length) ∧
    (0 < (readD (fin (m + 1) n).1 (atN (fin (m + 1) n).1 q.1)).length ∨ n = 0) := by
  obtain ⟨hi, e⟩ := List.getElem?_eq_some_iff.mp hq
  obtain ⟨h, hz⟩ := all_it2 _ (in3 hm) n (List.mem_range.mpr hn) i (List.mem_range.mpr hi)
  unfold it2 at h
  unfold sizeL at hz
  dsimp only at h
  rw [hq] at h hz
  dsimp only at h hz
  rw [Bool.and_eq_true] at h
  obtain ⟨h1, h2⟩ := h
  refine ⟨of_decide_eq_true h1, fun z => ?_, fun z => ?_, hz⟩
  · rw [if_pos z] at h2
    exact refused_of h2
  · rw [if_neg z] at h2
    obtain ⟨x1, x2, D2, L2, x3, x4⟩ := found_of h2
    simp only [Bool.and_eq_true, decide_eq_true_eq] at x4
    obtain ⟨⟨⟨y1, y2⟩, y3⟩, y4⟩ := x4
    exact ⟨x1, x2, D2, L2, x3, by simpa using y1, y2, y3, y4⟩
end
theorem t3 {m n : Nat} (hm : m < 3) (hn : n < 11) : (fin (m + 1) n).1.names.lookup (partL (n + 1)) = none ∧ small (makeD (fin (m + 1) n).1 (partL (n + 1))) (makeD (fin (m + 1) n).1 (partL (n + 1))).kept.length ∧
    okF (makeD (fin (m + 1) n).1 (partL (n + 1))) ∧ partN (makeD (fin (m + 1) n).1 (partL (n + 1))) ≠ [] ∧ foundGo (partN (makeD (fin (m + 1) n).1 (partL (n + 1)))) (makeD (fin (m + 1) n).1 (partL (n + 1))) [] = none := by
  have h := all_it3 _ (in3 hm) n (List.mem_range.mpr hn)
  unfold it3 at h
  dsimp only at h
  rw [Bool.and_eq_true, Bool.and_eq_true] at h
  obtain ⟨⟨h1, h2⟩, h3⟩ := h
  exact ⟨Option.isNone_iff_eq_none.mp h2, of_decide_eq_true h1, refused_of h3⟩
def dT (ts : List (List Nat)) : PyData := .list (ts.map fun t => .str (mkS t))
theorem vT_all {K : PySem.W.Frag} {H : Hp} : ∀ ts : List (List Nat), DpAll K H (ts.map sv) (ts.map fun t => .str (mkS t))
  | [] => .nil
  | t :: ts => .cons (.str _) (vT_all ts)
theorem vT_dp {K : PySem.W.Frag} {H : Hp} {a : Addr} {ts : List (List Nat)} (h : H a = some (.lst (ts.map sv))) : Dp K H (.ref a) (dT ts) := .lst (SqL.of h) (vT_all ts)
theorem dT_ok {n : Nat} {ts : List (List Nat)} (h : ts.length ≤ 1000) : okD (n + 2) (dT ts) := ⟨by rw [List.length_map]; omega, fun e he => by
  obtain ⟨t, _, rfl⟩ := List.mem_map.mp he
  trivial⟩
def nmsF (m n : Nat) : List (List Nat) := (fin m n).2.map fun q => partL q.1
theorem all_nms : ∀ m ∈ [1, 2, 3], ∀ n ∈ List.range 11, sortedS ((nmsF m n).map mkS) = true ∧ SeqAt.shaped (dT (nmsF m n)) = true := by decide +kernel
theorem ne_same {d : PyData} (h : SeqAt.shaped d = true) : (!PyData.eqv d d) = false := by rw [SeqAt.eqv_refl d (SeqAt.canLay_of_shaped h)]; rfl
/-! what a turn keeps: all that stood at its start but the pool -/
section
variable {CD CL : Addr} {G H1 H2 : Hp} {p l : Addr} {f g : List Addr}
theorem kp_same (k : SameBut p G H1) (P1 : PoolL H1 p l) (s : Same H1 H2) : SameBut p G H2 ∧ PoolL H2 p l := ⟨fun b o n e => s _ _ (k b o n e), P1.keep s⟩
theorem kp_but (k : SameBut p G H1) (s : SameBut p H1 H2) : SameBut p G H2 := k.trans s
theorem kp_out (P0 : PoolL G p l) (k : SameBut p G H1) (P1 : PoolL H1 p l) (f0 : ∀ c ∈ f, G c = none) (x : ∀ b o, H1 b = some o → b ∉ f → H2 b = some o) : SameBut p G H2 ∧ PoolL H2 p l := by
  obtain ⟨ns, a, b, c, d, h1, h2, h3⟩ := P0
  obtain ⟨ns', a', b', c', d', k1, k2, k3⟩ := P1
  refine ⟨fun b o n e => x _ _ (k b o n e) fun z => (by rw [f0 b z] at e; cases e), ⟨ns', a', b', c', d', x _ _ k1 fun z => (by rw [f0 p z] at h1; cases h1), x _ _ k2 fun z => (by rw [f0 l z] at h2; cases h2), k3⟩⟩
theorem kp_new (k : SameBut p G H1) (P1 : PoolL H1 p l) (f0 : ∀ c ∈ f, G c = none) (y : ∀ b ∈ g, b ∈ f ∨ H1 b = none) : ∀ c ∈ g, G c = none := by
  obtain ⟨ns', a', b', c', d', k1, k2, k3⟩ := P1
  intro c m
  rcases y c m with z | z
  · exact f0 c z
  · cases e : G c with
    | none => rfl
    | some o =>
      by_cases n : c = p
      · rw [n, k1] at z; cases z
      · rw [k c o n e] at z; cases z
theorem kp_fr (P0 : PoolL G p l) (k : SameBut p G H1) (P1 : PoolL H1 p l) (f0 : ∀ c ∈ f, G c = none) (x : Fr f g H1 H2) : (SameBut p G H2 ∧ PoolL H2 p l) ∧ ∀ c ∈ g, G c = none := ⟨kp_out P0 k P1 f0 x.1, kp_new k P1 f0 x.2⟩
end
end K53

namespace K53
open PySem PySem.Spec PyProof.Rows L2
local macro_rules | `(tactic| array_mem_dec) => `(tactic| first | with_reducible assumption | with_reducible exact upd_same | ((with_reducible apply same_at); (with_reducible assumption); array_mem_dec) | ((with_reducible apply upd_atN); (with_reducible assumption); array_mem_dec) | ((with_reducible apply upd_at); (first | with_reducible assumption | (apply Ne.symm; with_reducible assumption)); array_mem_dec))
local macro_rules | `(tactic| array_get_dec) => `(tactic| first | (with_reducible refine w_seq ?_) | (with_reducible refine w_asg ?_) | (with_reducible refine w_drop ?_) | (with_reducible refine w_ret ?_) | (with_reducible refine w_retN ?_) | (with_reducible refine w_next ?_) | (with_reducible refine w_break ?_) | (with_reducible refine w_cont ?_) | (with_reducible refine w_ifS ?_) | (with_reducible refine w_sub ?_) | (with_reducible refine w_c ?_) | (with_reducible refine w_op ?_) | (with_reducible refine w_un ?_) | (with_reducible refine w_test ?_) | (with_reducible refine w_B ?_) | (with_reducible refine w_yes ?_) | (with_reducible refine w_not ?_) | (with_reducible refine w_and ?_) | (with_reducible refine w_or ?_) | (with_reducible refine w_andV ?_) | (with_reducible refine w_orV ?_) | (with_reducible refine w_notV ?_) | (with_reducible refine w_ifE ?_) | (with_reducible refine w_nil ?_) | (with_reducible refine w_cons ?_) | (with_reducible refine w_call ?_) | (with_reducible refine w_callS ?_) | (with_reducible refine w_cB ?_) | (with_reducible refine w_lst ?_) | (with_reducible refine w_tup ?_) | (with_reducible refine w_sl ?_) | (with_reducible refine w_noPart ?_) | (with_reducible refine w_part ?_) | (with_reducible refine w_bm ?_) | (with_reducible refine w_bm0 ?_) | (with_reducible refine w_strTy ?_) | (with_reducible refine w_bl ?_) | (with_reducible refine w_int1 ?_) | (with_reducible refine w_str1 ?_) | (with_reducible refine w_rI0 ?_) | (with_reducible refine w_rU ?_) | (with_reducible refine w_eqI ?_) | (with_reducible refine w_eqS ?_) | (with_reducible refine w_neI ?_) | (with_reducible refine w_neS ?_) | (with_reducible refine w_bl2 ?_) | (with_reducible refine w_isN ?_) | (with_reducible refine w_for ?_) | (with_reducible refine w_iRng1 ?_) | (with_reducible refine w_iRng2 ?_) | (with_reducible refine w_iList ?_) | (with_reducible refine w_iTup ?_) | (with_reducible refine w_iStr ?_) | (with_reducible refine w_lc ?_) | (with_reducible refine w_M1 ?_) | (with_reducible refine w_M0 ?_) | (with_reducible refine w_isS ?_) | ((with_reducible apply w_name); (simp only [wipe, List.map_cons, List.map_nil, List.foldl_cons, List.foldl_nil, List.set_cons_zero, List.set_cons_succ]; exact rfl)) | ((with_reducible apply w_var); exact rfl) | ((with_reducible apply w_lstTy); array_mem_dec) | ((with_reducible apply w_lenL); array_mem_dec) | ((with_reducible apply w_lenT); array_mem_dec) | ((with_reducible apply w_listOf); array_mem_dec) | ((with_reducible apply w_lenS); (first | (with_reducible assumption) | omega | (rw [sizeLine_eq]; omega))) | ((with_reducible apply w_slS); (first | (with_reducible assumption) | omega | (rw [sizeLine_eq]; omega))) | ((with_reducible apply w_wipe); exact rfl) | ((with_reducible apply w_acc); array_mem_dec; (try (first | (with_reducible assumption) | omega | (rw [sizeLine_eq]; omega)))) | ((with_reducible apply w_itl); array_mem_dec) | ((with_reducible apply w_itt); array_mem_dec) | ((with_reducible apply w_append); array_mem_dec; (try (first | (with_reducible assumption) | omega | (rw [sizeLine_eq]; omega)))) | ((with_reducible apply w_rng1); (first | (with_reducible assumption) | omega); (first | (with_reducible assumption) | omega)) | ((with_reducible apply w_ixL); array_mem_dec; (first | (with_reducible assumption) | exact rfl | (apply atI_nat; (with_reducible assumption)) | exact atI_last _ _)) | ((with_reducible apply w_ixT); array_mem_dec; (first | (with_reducible assumption) | exact rfl | (apply atI_nat; (with_reducible assumption)) | exact atI_last _ _)) | ((with_reducible apply w_iT); first | exact rfl | (with_reducible assumption)) | ((with_reducible apply w_iF); first | exact rfl | (with_reducible assumption)) | ((with_reducible apply w_isiI (b := true)); decide +kernel) | ((with_reducible apply w_isiI (b := false)); decide +kernel) | ((with_reducible apply w_isiB (b := true)); decide +kernel) | ((with_reducible apply w_isiB (b := false)); decide +kernel) | ((with_reducible apply w_isiS (b := true)); decide +kernel) | ((with_reducible apply w_isiS (b := false)); decide +kernel) | ((with_reducible apply w_isiN (b := true)); decide +kernel) | ((with_reducible apply w_isiN (b := false)); decide +kernel) | ((with_reducible apply w_isiL (b := true)); array_mem_dec; decide +kernel) | ((with_reducible apply w_isiL (b := false)); array_mem_dec; decide +kernel) | ((with_reducible apply w_isiT (b := true)); array_mem_dec; decide +kernel) | ((with_reducible apply w_isiT (b := false)); array_mem_dec; decide +kernel) | (with_reducible refine w_notT ?_) | (with_reducible refine w_chain ?_) | ((with_reducible apply w_trL); array_mem_dec) | ((with_reducible apply w_gTup); array_mem_dec; exact rfl) | ((with_reducible apply w_gLst); array_mem_dec; exact rfl) | (with_reducible refine w_gCons ?_) | (with_reducible refine w_gNil ?_) | (with_reducible refine w_Fld ?_) | (with_reducible refine w_sFld ?_) | (with_reducible refine w_dget ?_) | (with_reducible refine w_dIn ?_) | (with_reducible refine w_dNotIn ?_) | (with_reducible refine w_sDPut ?_) | (with_reducible refine w_dnewK ?_) | (with_reducible refine w_meth ?_) | (with_reducible refine w_make ?_) | (with_reducible refine w_methS ?_) | (with_reducible refine w_makeS ?_) | (with_reducible refine w_dpop ?_) | ((with_reducible apply w_fld1); array_mem_dec; (with_reducible assumption); (with_reducible assumption); exact rfl) | ((with_reducible apply w_sfld1); array_mem_dec; (with_reducible assumption); (with_reducible assumption); exact Nat.le_of_ble_eq_true rfl) | ((with_reducible apply w_meth1); array_mem_dec; exact rfl) | ((with_reducible apply w_dgetS); array_mem_dec; (with_reducible assumption)) | ((with_reducible apply w_dgetI); array_mem_dec; (with_reducible assumption)) | ((with_reducible apply w_dinS); array_mem_dec) | ((with_reducible apply w_dputI); array_mem_dec; (try (first | (with_reducible assumption) | omega | (rw [sizeLine_eq]; omega)))) | ((with_reducible apply w_dputS); array_mem_dec; (try (first | (with_reducible assumption) | omega | (rw [sizeLine_eq]; omega)))) | ((with_reducible apply w_isD); array_mem_dec) | ((with_reducible apply w_dictD); array_mem_dec) | ((with_reducible apply w_dpopS); array_mem_dec; (with_reducible assumption)))
/-! ### the law's walk -/
def spFirstG : Sp := fun vs H Q _ => ∃ l : List Nat, vs = [.str (mkS l)] ∧ l.length ≤ 100 ∧ isPartL l = true ∧ ∀ H', Same H H' → Q (.int ((NumText.digitsVal (l.drop 4) : Nat) : Int)) H'
def spInitG (CD CL : Addr) : Sp := fun vs H Q _ => ∃ (a dx d : Addr) (fd : List Addr) (D : DS) (m : Nat), vs = [.ref a, .ref d, .int (m : Int)] ∧ H a = some (.ins CL dx []) ∧ a ∉ fd ∧ DiskAt CD H d fd D ∧ okF D ∧ 1 ≤ m ∧ m ≤ 1000 ∧
    ((partN D = [] ∧ D.names.lookup (partL 0) = none ∧ small (makeD D (partL 0)) (makeD D (partL 0)).kept.length ∧ ∀ H' fp', LD CD CL H' a fp' d (syncN (makeD D (partL 0))) [(0, [])] m 0 → Fr (a :: fd) fp' H H' → Q .non H') ∨
     (partN D ≠ [] ∧ ∃ D2 L2, foundGo (partN D) D [] = some (D2, L2) ∧ ∀ H' fp', LD CD CL H' a fp' d D2 L2 m (nextL L2) → Fr (a :: fd) fp' H H' → Q .non H'))
def spLaw (K : PySem.W.Frag) : Sp := fun vs H Q _ => ∃ (a : Addr) (ns : List Int), vs = [.ref a] ∧ SqL K H a (ns.map V.int) ∧ ns.length ≤ 63 ∧ ∀ H', Q (.bl true) H'
section
variable {P : Program} {w : World} {K : PySem.W.Frag} {mg : Str → Option Value} {base : Heap}
theorem okL_first_of (M : Nms K mg) : FnOk P w K mg base CX0 2 M.a_first_of M.d_first_of ["name"] spFirstG := ok_low (ok_first_of M) fun vs H Q E ⟨l, e, hl, hp, q⟩ => ⟨l, e, hl, fun _ => q, fun z => by rw [hp] at z; cases z⟩
theorem okL_Log___init__ (M : Nms K mg) : FnOk P w K mg base CX0 5 M.a_Log___init__ M.d_Log___init__ ["self", "disk", "most"] (spInitG M.CD M.CL) := ok_low (ok_Log___init__ M) fun vs H Q E ⟨a, dx, d, fd, D, m, e, h1, h2, h3, h4, m1, m2, h⟩ =>
  ⟨a, dx, d, fd, D, .int (m : Int), e, h1, h2, h3, h4, .inr ⟨m, rfl, m1, m2, h.imp id fun ⟨x, D2, L2, e2, q⟩ => ⟨x, fun D3 L3 e3 => by rw [e2] at e3; cases e3; exact q, fun e3 => by rw [e2] at e3; cases e3⟩⟩⟩
theorem ok__law_pool (M : Nms K mg) : FnOk P w K mg base CX0 1 M.a__law_pool M.d__law_pool ["script"] (spPool K) := ok_pool M.F__law_pool M.T
theorem ok__law_draw (M : Nms K mg) : FnOk P w K mg base CX0 1 M.a__law_draw M.d__law_draw ["pool", "many"] spDraw := ok_draw M.F__law_draw M.T
theorem ok__law_pick (M : Nms K mg) : FnOk P w K mg base CX0 2 M.a__law_pick M.d__law_pick ["pool", "rows"] spPick := ok_pick M.F__law_pick M.T (ok__law_draw M) M.g__law_draw M.k__law_draw M.b__law_draw
theorem ok__law_same (M : Nms K mg) : FnOk P w K mg base CX0 4 M.a__law_same M.d__law_same ["actual", "due"] (spSame K 3) := ok_same M.F__law_same M.T M.g__law_same M.k__law_same M.b__law_same 3
def wrongs : List (List Nat) := [[108, 111, 103, 46, 49, 50, 51, 52, 53], [108, 111, 103, 46, 49, 50, 51, 52, 53, 54, 55], [108, 111, 103, 46, 49, 50, 97, 52, 53, 54], [108, 111, 103, 115, 46, 48, 48, 48, 48, 48, 48], [115, 110, 97, 112, 46, 48, 48, 48, 48, 48, 49], [], [108, 111, 103, 46]]
theorem wrongs_bad : ∀ x ∈ wrongs, isPartL x = false ∧ x.length ≤ 100 := by decide +kernel
theorem wrongs_txt : [V.str (Str.ofString "log.12345"), .str (Str.ofString "log.1234567"), .str (Str.ofString "log.12a456"), .str (Str.ofString "logs.000000"), .str (Str.ofString "snap.000001"), .str (Str.ofString ""), .str (Str.ofString "log.")] = wrongs.map sv := by decide +kernel
theorem ok_law (M : Nms K mg) : FnOk P w K mg base CX0 10 M.a_law M.d_law ["script"] (spLaw K) := by
  refine M.F_law.ok sc_law (fun vs H Q E h => ?_) (fun cdv A outer s H vs Q E hr h => ?_)
  · obtain ⟨a, ns, rfl, _⟩ := h
    rfl
  · have hu := hu1 hr
    have clD := M.clD
    have clL := M.clL
    have nD_kept := M.nD_kept
    have nD_late := M.nD_late
    have nD_names := M.nD_names
    have nD_sure := M.nD_sure
    have nD_changes := M.nD_changes
    have nD_next := M.nD_next
    have nL_disk := M.nL_disk
    have nL_most := M.nL_most
    have nL_parts := M.nL_parts
    have nL_sure := M.nL_sure
    refine ⟨_, (pss_cons (ps_set (i := 1) sc_law.nd rfl (Or.inl rfl) (pe_call (ok__law_pool M) (hr.mono (by decide)) rfl M.g__law_pool M.k__law_pool M.b__law_pool .nil pass0 (pa_cons (pv 0) pa_nil)))
    (pss_cons (ps_set (i := 2) sc_law.nd rfl (Or.inl rfl) (pe_call (ok__law_pick M) (hr.mono (by decide)) rfl M.g__law_pick M.k__law_pick M.b__law_pick .nil pass0 (pa_cons (pv 1) (pa_cons (pe_lst (pa_cons pe_int (pa_cons pe_int (pa_cons pe_int (pa_cons (pe_call (ok__law_draw M) (hr.mono (by decide)) rfl M.g__law_draw M.k__law_draw M.b__law_draw .nil pass0 (pa_cons (pv 1) (pa_cons pe_int pa_nil))) pa_nil))))) pa_nil))))
    (pss_cons (ps_set (i := 3) sc_law.nd rfl (Or.inl rfl) (pe_callTy call_str_int (by rfl) M.T.b_str (by decide +kernel) (pa_cons (pv 2) pa_nil)))
    (pss_cons (ps_while PassesOwn.never (pt_cmpR op_lt (pe_callB call_len (by rfl) M.T.b_len (by decide +kernel) (pa_cons (pv 3) pa_nil)) pe_int (nomark _)) (pss_one (ps_set (i := 3) sc_law.nd rfl (Or.inl rfl) (pe_op op_add_str pe_str (pv 3)))))
    (pss_cons (ps_if (PW.pt (pw_or (pt_not (pt_val (pe_call (ok__law_same M) (hr.mono (by decide)) rfl M.g__law_same M.k__law_same M.b__law_same .nil pass0 (pa_cons (pe_call (okL_part_name M) (hr.mono (by decide)) rfl M.g_part_name M.k_part_name M.b_part_name .nil pass0 (pa_cons (pv 2) pa_nil)) (pa_cons (pe_op op_add_str pe_str (pv 3)) pa_nil))))) (pw_or (pt_not (pt_val (pe_call (ok__law_same M) (hr.mono (by decide)) rfl M.g__law_same M.k__law_same M.b__law_same .nil pass0 (pa_cons (pe_call (okL_first_of M) (hr.mono (by decide)) rfl M.g_first_of M.k_first_of M.b_first_of .nil pass0 (pa_cons (pe_op op_add_str pe_str (pv 3)) pa_nil)) (pa_cons (pv 2) pa_nil))))) (pw_or1 (pt_cmpR op_isnot_bl (pe_call (ok_is_part M) (hr.mono (by decide)) rfl M.g_is_part M.k_is_part M.b_is_part .nil pass0 (pa_cons (pe_op op_add_str pe_str (pv 3)) pa_nil)) pe_bl (nomark _)))))) (pss_one (ps_ret pe_bl)) pss_nil)
    (pss_cons (ps_for PassesOwn.never rfl (pi_list (pe_lst (pa_cons pe_str (pa_cons pe_str (pa_cons pe_str (pa_cons pe_str (pa_cons pe_str (pa_cons pe_str (pa_cons pe_str pa_nil))))))))) (pg_name (i := 4) sc_law.nd rfl (Or.inl rfl)) (pss_one (ps_if (PW.pt (pw_or (pt_cmpR op_isnot_bl (pe_call (ok_is_part M) (hr.mono (by decide)) rfl M.g_is_part M.k_is_part M.b_is_part .nil pass0 (pa_cons (pv 4) pa_nil)) pe_bl (nomark _)) (pw_or1 (pt_cmpR op_ne (pe_call (ok__law_refused M) (hr.mono (by decide)) rfl M.g__law_refused M.k__law_refused M.b__law_refused .nil pass0 (pa_cons pe_int (pa_cons (pv 4) (pa_cons pe_int pa_nil)))) pe_str (nomark _))))) (pss_one (ps_ret pe_bl)) pss_nil)))
    (pss_cons (ps_if (PW.pt (pw_or (pt_cmpR op_ne (pe_call (ok__law_refused M) (hr.mono (by decide)) rfl M.g__law_refused M.k__law_refused M.b__law_refused .nil pass0 (pa_cons pe_int (pa_cons (pe_call (ok__law_pick M) (hr.mono (by decide)) rfl M.g__law_pick M.k__law_pick M.b__law_pick .nil pass0 (pa_cons (pv 1) (pa_cons (pe_lst (pa_cons (pe_un un_neg pe_int) (pa_cons pe_int (pa_cons pe_bl pa_nil)))) pa_nil))) (pa_cons pe_int pa_nil)))) pe_str (nomark _)) (pw_or1 (pt_cmpR op_ne (pe_call (ok__law_refused M) (hr.mono (by decide)) rfl M.g__law_refused M.k__law_refused M.b__law_refused .nil pass0 (pa_cons pe_int (pa_cons (pe_call (ok__law_pick M) (hr.mono (by decide)) rfl M.g__law_pick M.k__law_pick M.b__law_pick .nil pass0 (pa_cons (pv 1) (pa_cons (pe_lst (pa_cons pe_int (pa_cons pe_int (pa_cons pe_bl pa_nil)))) pa_nil))) (pa_cons pe_int pa_nil)))) pe_str (nomark _))))) (pss_one (ps_ret pe_bl)) pss_nil)
    (pss_cons (ps_set (i := 5) sc_law.nd rfl (Or.inl rfl) (pe_op op_add pe_int (pe_call (ok__law_draw M) (hr.mono (by decide)) rfl M.g__law_draw M.k__law_draw M.b__law_draw .nil pass0 (pa_cons (pv 1) (pa_cons pe_int pa_nil)))))
    (pss_cons (ps_set (i := 6) sc_law.nd rfl (Or.inl rfl) (pe_call (ok__law_draw M) (hr.mono (by decide)) rfl M.g__law_draw M.k__law_draw M.b__law_draw .nil pass0 (pa_cons (pv 1) (pa_cons pe_int pa_nil))))
    (pss_cons (ps_set (i := 7) sc_law.nd rfl (Or.inl rfl) (pe_make0 M.mkD (ok_Disk___init__ M) (hr.mono (by decide)) rfl M.gD M.b_Disk___init__ .nil pass0))
    (pss_cons (ps_set (i := 8) sc_law.nd rfl (Or.inl rfl) (pe_make M.mkL (okL_Log___init__ M) (hr.mono (by decide)) rfl M.gL M.b_Log___init__ .nil pass0 (pa_cons (pv 7) (pa_cons (pv 5) pa_nil))))
    (pss_cons (ps_for PassesOwn.never rfl (pi_range1 (by rfl) M.T.b_range (pa_cons (pv 6) pa_nil)) (pg_name (i := 9) sc_law.nd rfl (Or.inl rfl)) (pss_one (ps_expr (pe_meth (pv 8) M.clL M.m_Log_add (ok_Log_add M) (hr.mono (by decide)) M.b_Log_add .nil pass0 (pa_cons (pe_op op_add_str pe_str (pe_callTy call_str_int (by rfl) M.T.b_str (by decide +kernel) (pa_cons (pv 9) pa_nil))) pa_nil)))))
    (pss_cons (ps_expr (pe_meth0 (pv 8) M.clL M.m_Log_sync (ok_Log_sync M) (hr.mono (by decide)) M.b_Log_sync .nil pass0))
    (pss_cons (ps_set (i := 10) sc_law.nd rfl (Or.inl rfl) (pe_call (ok_part_names M) (hr.mono (by decide)) rfl M.g_part_names M.k_part_names M.b_part_names .nil pass0 (pa_cons (pv 7) pa_nil)))
    (pss_cons (ps_if (PW.pt (pw_or (pt_not (pt_val (pe_call (ok__law_same M) (hr.mono (by decide)) rfl M.g__law_same M.k__law_same M.b__law_same .nil pass0 (pa_cons (pv 10) (pa_cons (pe_lc (g := gTup K 2 (gCons (gName 11) (gCons (gName 12) gNil))) (own := [("first", 11), ("count", 12)]) rfl sc_law.nd (pi_list (pe_meth0 (pv 8) M.clL M.m_Log_parts (ok_Log_parts M) (hr.mono (by decide)) M.b_Log_parts .nil pass0)) (blkOk_by (N := ["script", "pool", "number", "figures", "wrong", "most", "many", "disk", "log", "k", "names", "first", "count", "at", "here", "choice", "told", "size", "j"]) (sc := defScope s_law) (own := [("first", 11), ("count", 12)]) (by decide +kernel)) (fun _ _ _ _ _ => (pg_tup rfl (pgs_cons (pg_name (i := 11) sc_law.nd rfl (Or.inl rfl)) (pgs_cons (pg_name (i := 12) sc_law.nd rfl (Or.inl rfl)) pgs_nil)))) (fun _ _ _ _ _ => pts_nil) (fun _ _ _ _ _ => (pe_call (okL_part_name M) (hr.mono (by decide)) rfl M.g_part_name M.k_part_name M.b_part_name .nil pass0 (pa_cons (pv 11) pa_nil)))) pa_nil))))) (pw_or1 (pt_cmpR (op_neD hr.units) (pv 10) (pe_callB cr_sortedS (by rfl) M.T.b_sorted (by decide +kernel) (pa_cons (pv 10) pa_nil)) (nomark _))))) (pss_one (ps_ret pe_bl)) pss_nil)
    (pss_cons (ps_for PassesOwn.never rfl (pi_range1 (by rfl) M.T.b_range (pa_cons pe_int pa_nil)) (pg_name (i := 9) sc_law.nd rfl (Or.inl rfl)) (pss_cons (ps_set (i := 13) sc_law.nd rfl (Or.inl rfl) (pe_call (ok__law_draw M) (hr.mono (by decide)) rfl M.g__law_draw M.k__law_draw M.b__law_draw .nil pass0 (pa_cons (pv 1) (pa_cons (pe_callB call_len (by rfl) M.T.b_len (by decide +kernel) (pa_cons (pv 10) pa_nil)) pa_nil))))
    (pss_cons (ps_set (i := 14) sc_law.nd rfl (Or.inl rfl) (pe_meth0 (pv 7) M.clD M.m_Disk_copy (ok_Disk_copy M) (hr.mono (by decide)) M.b_Disk_copy .nil pass0))
    (pss_cons (ps_asg (pe_ix (r := rIxL K) ix_list (pe_meth0 (pv 8) M.clL M.m_Log_parts (ok_Log_parts M) (hr.mono (by decide)) M.b_Log_parts .nil pass0) (pv 13) (fun _ _ => rfl)) (pg_tup rfl (pgs_cons (pg_name (i := 11) sc_law.nd rfl (Or.inl rfl)) (pgs_cons (pg_name (i := 12) sc_law.nd rfl (Or.inl rfl)) pgs_nil))))
    (pss_cons (ps_set (i := 15) sc_law.nd rfl (Or.inl rfl) (pe_call (ok__law_draw M) (hr.mono (by decide)) rfl M.g__law_draw M.k__law_draw M.b__law_draw .nil pass0 (pa_cons (pv 1) (pa_cons pe_int pa_nil))))
    (pss_one (ps_if (pt_cmpR op_eq (pv 15) pe_int (nomark _)) (pss_cons (ps_expr (pe_meth (pv 14) M.clD M.m_Disk_remove (ok_Disk_remove M) (hr.mono (by decide)) M.b_Disk_remove .nil pass0 (pa_cons (pe_ix (r := rIxL K) ix_list (pv 10) (pv 13) (fun _ _ => rfl)) pa_nil)))
    (pss_one (ps_if (PW.pt (pw_and (pt_cmpR op_gt (pv 13) pe_int (nomark _)) (pw_and1 (pt_cmpR op_lt (pv 13) (pe_op op_sub (pe_callB call_len (by rfl) M.T.b_len (by decide +kernel) (pa_cons (pv 10) pa_nil)) pe_int) (nomark _))))) (pss_one (ps_if (pt_cmpR op_ne (pe_call (ok__law_refused M) (hr.mono (by decide)) rfl M.g__law_refused M.k__law_refused M.b__law_refused .nil pass0 (pa_cons pe_int (pa_cons (pv 14) (pa_cons (pv 5) pa_nil)))) pe_str (nomark _)) (pss_one (ps_ret pe_bl)) pss_nil)) (pss_one (ps_if (PW.pt (pw_and (pt_cmpR op_eq (pv 13) pe_int (nomark _)) (pw_and1 (pt_cmpR op_gt (pe_callB call_len (by rfl) M.T.b_len (by decide +kernel) (pa_cons (pv 10) pa_nil)) pe_int (nomark _))))) (pss_cons (ps_set (i := 16) sc_law.nd rfl (Or.inl rfl) (pe_make M.mkL (okL_Log___init__ M) (hr.mono (by decide)) rfl M.gL M.b_Log___init__ .nil pass0 (pa_cons (pv 14) (pa_cons (pv 5) pa_nil))))
    (pss_one (ps_if (pt_not (pt_val (pe_call (ok__law_same M) (hr.mono (by decide)) rfl M.g__law_same M.k__law_same M.b__law_same .nil pass0 (pa_cons (pe_lst (pa_cons (pe_meth0 (pv 16) M.clL M.m_Log_first (ok_Log_first M) (hr.mono (by decide)) M.b_Log_first .nil pass0) (pa_cons (pe_meth0 (pv 16) M.clL M.m_Log_next (ok_Log_next M) (hr.mono (by decide)) M.b_Log_next .nil pass0) pa_nil))) (pa_cons (pe_lst (pa_cons (pe_ix (r := rIxT K) ix_tup (pe_ix (r := rIxL K) ix_list (pe_meth0 (pv 8) M.clL M.m_Log_parts (ok_Log_parts M) (hr.mono (by decide)) M.b_Log_parts .nil pass0) pe_int (fun _ _ => rfl)) pe_int (fun _ _ => rfl)) (pa_cons (pv 6) pa_nil))) pa_nil))))) (pss_one (ps_ret pe_bl)) pss_nil))) pss_nil))))) (pss_one (ps_if (PW.pt (pw_and (pt_cmpR op_eq (pv 15) pe_int (nomark _)) (pw_and1 (pt_cmpR op_gt (pv 12) pe_int (nomark _))))) (pss_cons (ps_set (i := 17) sc_law.nd rfl (Or.inl rfl) (pe_call (ok__law_draw M) (hr.mono (by decide)) rfl M.g__law_draw M.k__law_draw M.b__law_draw .nil pass0 (pa_cons (pv 1) (pa_cons (pe_meth (pv 14) M.clD M.m_Disk_size (ok_Disk_size M) (hr.mono (by decide)) M.b_Disk_size .nil pass0 (pa_cons (pe_ix (r := rIxL K) ix_list (pv 10) (pv 13) (fun _ _ => rfl)) pa_nil)) pa_nil))))
    (pss_cons (ps_expr (pe_meth (pv 14) M.clD M.m_Disk_cut (ok_Disk_cut M) (hr.mono (by decide)) M.b_Disk_cut .nil pass0 (pa_cons (pe_ix (r := rIxL K) ix_list (pv 10) (pv 13) (fun _ _ => rfl)) (pa_cons (pv 17) pa_nil))))
    (pss_one (ps_if (pt_cmpR op_lt (pv 13) (pe_op op_sub (pe_callB call_len (by rfl) M.T.b_len (by decide +kernel) (pa_cons (pv 10) pa_nil)) pe_int) (nomark _)) (pss_one (ps_if (pt_cmpR op_ne (pe_call (ok__law_refused M) (hr.mono (by decide)) rfl M.g__law_refused M.k__law_refused M.b__law_refused .nil pass0 (pa_cons pe_int (pa_cons (pv 14) (pa_cons (pv 5) pa_nil)))) pe_str (nomark _)) (pss_one (ps_ret pe_bl)) pss_nil)) (pss_cons (ps_set (i := 16) sc_law.nd rfl (Or.inl rfl) (pe_make M.mkL (okL_Log___init__ M) (hr.mono (by decide)) rfl M.gL M.b_Log___init__ .nil pass0 (pa_cons (pv 14) (pa_cons (pv 5) pa_nil))))
    (pss_one (ps_if (PW.pt (pw_or (pt_cmpR op_gt (pe_meth0 (pv 16) M.clL M.m_Log_next (ok_Log_next M) (hr.mono (by decide)) M.b_Log_next .nil pass0) (pv 6) (nomark _)) (pw_or (pt_cmpR op_lt (pe_meth0 (pv 16) M.clL M.m_Log_next (ok_Log_next M) (hr.mono (by decide)) M.b_Log_next .nil pass0) (pv 11) (nomark _)) (pw_or1 (pt_not (pt_val (pe_call (ok__law_same M) (hr.mono (by decide)) rfl M.g__law_same M.k__law_same M.b__law_same .nil pass0 (pa_cons (pe_meth (pv 16) M.clL M.m_Log_texts (ok_Log_texts M) (hr.mono (by decide)) M.b_Log_texts .nil pass0 (pa_cons (pe_meth0 (pv 16) M.clL M.m_Log_first (ok_Log_first M) (hr.mono (by decide)) M.b_Log_first .nil pass0) pa_nil)) (pa_cons (pe_lc (own := [("j", 18)]) rfl sc_law.nd (pi_range2 (by rfl) M.T.b_range (pa_cons (pe_meth0 (pv 16) M.clL M.m_Log_first (ok_Log_first M) (hr.mono (by decide)) M.b_Log_first .nil pass0) (pa_cons (pe_meth0 (pv 16) M.clL M.m_Log_next (ok_Log_next M) (hr.mono (by decide)) M.b_Log_next .nil pass0) pa_nil))) (blkOk_by (N := ["script", "pool", "number", "figures", "wrong", "most", "many", "disk", "log", "k", "names", "first", "count", "at", "here", "choice", "told", "size", "j"]) (sc := defScope s_law) (own := [("j", 18)]) (by decide +kernel)) (fun _ _ _ _ _ => (pg_name (i := 18) sc_law.nd rfl (Or.inl rfl))) (fun _ _ _ _ _ => pts_nil) (fun _ _ _ _ _ => (pe_op op_add_str pe_str (pe_callTy call_str_int (by rfl) M.T.b_str (by decide +kernel) (pa_cons (pv 18) pa_nil))))) pa_nil))))))))) (pss_one (ps_ret pe_bl)) pss_nil))))))) (pss_one (ps_if (pt_cmpR op_eq (pv 15) pe_int (nomark _)) (pss_cons (ps_expr (pe_meth (pv 14) M.clD M.m_Disk_write (ok_Disk_write M) (hr.mono (by decide)) M.b_Disk_write .nil pass0 (pa_cons (pe_ix (r := rIxL K) ix_list (pv 10) (pv 13) (fun _ _ => rfl)) (pa_cons pe_str pa_nil))))
    (pss_one (ps_if (pt_cmpR op_lt (pv 13) (pe_op op_sub (pe_callB call_len (by rfl) M.T.b_len (by decide +kernel) (pa_cons (pv 10) pa_nil)) pe_int) (nomark _)) (pss_one (ps_if (pt_cmpR op_ne (pe_call (ok__law_refused M) (hr.mono (by decide)) rfl M.g__law_refused M.k__law_refused M.b__law_refused .nil pass0 (pa_cons pe_int (pa_cons (pv 14) (pa_cons (pv 5) pa_nil)))) pe_str (nomark _)) (pss_one (ps_ret pe_bl)) pss_nil)) (pss_one (ps_if (PW.pt (pw_or (pt_cmpR op_ne (pe_meth0 (pe_make M.mkL (okL_Log___init__ M) (hr.mono (by decide)) rfl M.gL M.b_Log___init__ .nil pass0 (pa_cons (pv 14) (pa_cons (pv 5) pa_nil))) M.clL M.m_Log_next (ok_Log_next M) (hr.mono (by decide)) M.b_Log_next .nil pass0) (pv 6) (nomark _)) (pw_or1 (pt_cmpR op_ne (pe_meth (pv 14) M.clD M.m_Disk_size (ok_Disk_size M) (hr.mono (by decide)) M.b_Disk_size .nil pass0 (pa_cons (pe_ix (r := rIxL K) ix_list (pv 10) (pv 13) (fun _ _ => rfl)) pa_nil)) (pe_meth (pv 7) M.clD M.m_Disk_size (ok_Disk_size M) (hr.mono (by decide)) M.b_Disk_size .nil pass0 (pa_cons (pe_ix (r := rIxL K) ix_list (pv 10) (pv 13) (fun _ _ => rfl)) pa_nil)) (nomark _))))) (pss_one (ps_ret pe_bl)) pss_nil))))) (pss_cons (ps_expr (pe_meth (pv 14) M.clD M.m_Disk_make (ok_Disk_make M) (hr.mono (by decide)) M.b_Disk_make .nil pass0 (pa_cons (pe_call (okL_part_name M) (hr.mono (by decide)) rfl M.g_part_name M.k_part_name M.b_part_name .nil pass0 (pa_cons (pe_op op_add (pv 6) pe_int) pa_nil)) pa_nil)))
    (pss_one (ps_if (pt_cmpR op_ne (pe_call (ok__law_refused M) (hr.mono (by decide)) rfl M.g__law_refused M.k__law_refused M.b__law_refused .nil pass0 (pa_cons pe_int (pa_cons (pv 14) (pa_cons (pv 5) pa_nil)))) pe_str (nomark _)) (pss_one (ps_ret pe_bl)) pss_nil))))))))))))))
    (pss_one (ps_ret pe_bl)))))))))))))))))), ?_⟩
    try dsimp only [cxOf, Cx.nox]
    obtain ⟨a, ns, rfl, hS, hns, kQ⟩ := h
    refine w_start (σ' := [some (.ref a), none, none, none, none, none, none, none, none, none, none, none, none, none, none, none, none, none, none]) rfl ?_
    (repeat array_get_dec)
    refine ⟨a, ns, rfl, hS, hns, fun H0 p l s0 hp0 hl0 hP => ?_⟩
    (repeat array_get_dec)
    refine ⟨p, l, 1000000, rfl, hP, by decide, by decide, fun d0 H1 d0a d0b hP1 sb1 => ?_⟩
    (repeat array_get_dec)
    refine ⟨by show 4 ≤ sizeLine; decide, fun q1 hq1 => ?_⟩
    (repeat array_get_dec)
    refine ⟨p, q1, l, _, rfl, hP1.new hq1, upd_same, hP1.ne hq1, by show 1 ≤ 4; decide, by show 4 ≤ sizeLine; decide, fun v H2 hv hP2 sb2 => ?_⟩
    obtain ⟨n, hn, rfl⟩ : ∃ n : Nat, n ≤ 999999 ∧ v = .int (n : Int) := by
      simp only [List.mem_cons, List.not_mem_nil, or_false] at hv
      rcases hv with rfl | rfl | rfl | rfl
      · exact ⟨0, by decide, rfl⟩
      · exact ⟨7, by decide, rfl⟩
      · exact ⟨999999, by decide, rfl⟩
      · exact ⟨d0.toNat, by omega, by rw [Int.toNat_of_nonneg d0a]⟩
    (repeat array_get_dec)
    refine w_strOf (log_small n (by omega)) ?_
    (repeat array_get_dec)
    have l6 : (TL.numL n).length ≤ 6 := TL.numL_len (by decide) (by omega)
    have l1 : 1 ≤ (TL.numL n).length := by
      have := TL.numL_ne n
      cases e : TL.numL n with
      | nil => exact absurd e this
      | cons _ _ => simp
    have ef0 : Str.ofString (toString ((n : Nat) : Int)) = mkS (figL 0 n) := TL.ext_tl (by rw [TL.tl_num]; rfl)
    rw [ef0]
    refine w_while ⟨fun m σ H' => ∃ k, m = 6 - k ∧ k + (TL.numL n).length ≤ 6 ∧ H' = H2 ∧ σ = [some (.ref a), some (.ref p), some (.int (n : Int)), some (.str (mkS (figL k n))), none, none, none, none, none, none, none, none, none, none, none, none, none, none, none], ⟨6, 0, rfl, by omega, rfl, rfl⟩, ?_⟩
    rintro m σ H' ⟨k, rfl, hk, rfl, rfl⟩
    have lk : (mkS (figL k n)).length = k + (TL.numL n).length := by rw [len_tl]; show (figL k n).length = _; unfold figL; rw [List.length_append, List.length_replicate]
    have lz : (mkS (figL k n)).length ≤ sizeLine := by rw [lk, sizeLine_eq]; omega
    (repeat array_get_dec)
    rw [lk]
    refine ite2 (fun h6 => ?_) (fun h6 => ?_)
    · have h6' : k + (TL.numL n).length < 6 := by have := of_decide_eq_true h6; omega
      refine ⟨_, fun _ _ z => z, ?_⟩
      (repeat array_get_dec)
      have c0 : (Str.ofString "0").length ≤ 1 := by decide +kernel
      refine w_addS (fit_add c0 (Nat.le_of_eq lk) (by omega)) ?_
      rw [fig_next]
      (repeat array_get_dec)
      exact ⟨6 - (k + 1), by omega, k + 1, rfl, by omega, rfl, rfl⟩
    · have h6' : k = 6 - (TL.numL n).length := by
        have : ¬ ((k + (TL.numL n).length : Nat) : Int) < 6 := fun z => h6 (decide_eq_true z)
        omega
      (repeat array_get_dec)
      refine ⟨n, rfl, hn, ?_⟩
      have c4 : (Str.ofString "log.").length ≤ 4 := by decide +kernel
      have ft : Str.ofString "log." ++ mkS (figL k n) = mkS (partL n) := by rw [h6']; exact fig_txt
      have pl := part_len hn
      (repeat array_get_dec)
      refine w_addS (fit_add c4 (Nat.le_of_eq lk) (by omega)) ?_
      rw [ft]
      (repeat array_get_dec)
      refine ⟨_, _, _, rfl, .str _, .str _, trivial, fun H3 s3 => ?_⟩
      (repeat array_get_dec)
      refine w_addS (fit_add c4 (Nat.le_of_eq lk) (by omega)) ?_
      rw [ft]
      (repeat array_get_dec)
      refine ⟨partL n, rfl, by omega, part_is hn, fun H4 s4 => ?_⟩
      rw [part_val]
      (repeat array_get_dec)
      refine ⟨_, _, _, rfl, .int _, .int _, trivial, fun H5 s5 => ?_⟩
      (repeat array_get_dec)
      refine w_addS (fit_add c4 (Nat.le_of_eq lk) (by omega)) ?_
      rw [ft]
      (repeat array_get_dec)
      refine ⟨partL n, rfl, by omega, fun H6 s6 => ?_⟩
      rw [part_is hn]
      (repeat array_get_dec)
      have hP6 := hP2.keep (((s3.trans s4).trans s5).trans s6)
      refine ⟨by show 7 ≤ sizeLine; decide, fun q7 hq7 => ?_⟩
      rw [wrongs_txt]
      (repeat array_get_dec)
      refine for_list (K := K) (a := q7) (xs := wrongs.map sv) (fun i σ H' => ∃ v4, σ = [some (.ref a), some (.ref p), some (.int (n : Int)), some (.str (mkS (figL k n))), v4, none, none, none, none, none, none, none, none, none, none, none, none, none, none] ∧ H' q7 = some (.lst (wrongs.map sv)) ∧ PoolL H' p l) ⟨_, rfl, upd_same, hP6.new hq7⟩ ?_ ?_ ?_
      · rintro i σ H' _ ⟨v4, rfl, k1, k2⟩
        exact SqL.of k1
      · rintro i y σ H' hy ⟨v4, rfl, k1, k2⟩
        obtain ⟨x, hx, rfl⟩ : ∃ x, x ∈ wrongs ∧ y = sv x := by
          obtain ⟨x, hx, e⟩ := List.mem_map.mp (List.mem_of_getElem? hy)
          exact ⟨x, hx, e.symm⟩
        obtain ⟨b1, b2⟩ := wrongs_bad x hx
        (repeat array_get_dec)
        refine ⟨x, rfl, b2, fun H7 s7 => ?_⟩
        rw [b1]
        (repeat array_get_dec)
        refine ⟨1, sv x, .int 0, rfl, .inr (.inl ⟨rfl, ⟨x, rfl, b2, b1⟩, fun H8 s8 => ?_⟩)⟩
        rw [show refS false = V.str (Str.ofString "paper") from rfl]
        (repeat array_get_dec)
        exact ⟨_, rfl, s8 _ _ (s7 _ _ k1), k2.keep (s7.trans s8)⟩
      · rintro σ H' ⟨v4, rfl, k1, k2⟩
        (repeat array_get_dec)
        refine ⟨by show 3 ≤ sizeLine; decide, fun q8 hq8 => ?_⟩
        (repeat array_get_dec)
        refine ⟨p, q8, l, _, rfl, k2.new hq8, upd_same, k2.ne hq8, by show 1 ≤ 3; decide, by show 3 ≤ sizeLine; decide, fun v H7 hv hP7 sb7 => ?_⟩
        have hb : badN v 0 999999 := by
          simp only [List.mem_cons, List.not_mem_nil, or_false] at hv
          rcases hv with rfl | rfl | rfl
          · exact .inl ⟨_, rfl, by omega⟩
          · exact .inl ⟨_, rfl, by omega⟩
          · exact .inr ⟨_, rfl⟩
        (repeat array_get_dec)
        refine ⟨0, v, .int 0, rfl, .inl ⟨rfl, hb, fun H8 s8 => ?_⟩⟩
        rw [show refS true = V.str (Str.ofString "number") from rfl]
        (repeat array_get_dec)
        have hP8 := hP7.keep s8
        refine ⟨by show 3 ≤ sizeLine; decide, fun q9 hq9 => ?_⟩
        (repeat array_get_dec)
        refine ⟨p, q9, l, _, rfl, hP8.new hq9, upd_same, hP8.ne hq9, by show 1 ≤ 3; decide, by show 3 ≤ sizeLine; decide, fun v2 H9 hv2 hP9 sb9 => ?_⟩
        have hb2 : badN v2 1 1000 := by
          simp only [List.mem_cons, List.not_mem_nil, or_false] at hv2
          rcases hv2 with rfl | rfl | rfl
          · exact .inl ⟨_, rfl, by omega⟩
          · exact .inl ⟨_, rfl, by omega⟩
          · exact .inr ⟨_, rfl⟩
        (repeat array_get_dec)
        refine ⟨3, v2, .int 0, rfl, .inr (.inr (.inr ⟨rfl, hb2, fun H10 s10 => ?_⟩))⟩
        rw [show refS true = V.str (Str.ofString "number") from rfl]
        (repeat array_get_dec)
        have hP10 := hP9.keep s10
        refine ⟨p, l, 3, rfl, hP10, by decide, by decide, fun dm H11 dm0 dm1 hP11 sb11 => ?_⟩
        obtain ⟨m, rfl⟩ : ∃ m : Nat, dm = (m : Int) := ⟨dm.toNat, by omega⟩
        have m3 : m + 1 ≤ 3 := by omega
        refine w_rI0 ?_
        rw [show (1 : Int) + (m : Int) = ((m + 1 : Nat) : Int) by omega]
        (repeat array_get_dec)
        refine ⟨p, l, 11, rfl, hP11, by decide, by decide, fun dn H12 dn0 dn1 hP12 sb12 => ?_⟩
        obtain ⟨nn, rfl⟩ : ∃ nn : Nat, dn = (nn : Int) := ⟨dn.toNat, by omega⟩
        have nn11 : nn < 11 := by omega
        (repeat array_get_dec)
        intro x dx hx hdx hne
        refine ⟨x, dx, rfl, upd_same, fun H13 fd dk fr => ⟨rfl, ?_⟩⟩
        (repeat array_get_dec)
        intro g dg hg hdg hne2
        refine ⟨g, dg, x, fd, noneD, m + 1, rfl, upd_same, fun z => dk.has g z hg, dk.keep fun b o e _ => by rw [upd_ne (ne_of_none e hg), upd_ne (ne_of_none e hdg)]; exact e, by decide +kernel, by omega, by omega, .inl ⟨by decide, by decide +kernel, by decide +kernel, fun H14 fp ld F14 => ⟨rfl, ?_⟩⟩⟩
        (repeat array_get_dec)
        have low13 : ∀ b o, H12 b = some o → H13 b = some o := fun b o e => fr.1 b o (by rw [upd_ne (ne_of_none e hx), upd_ne (ne_of_none e hdx)]; exact e) (by simp; exact ne_of_none e hx)
        have up13 : ∀ b, H13 b = none → H12 b = none := fun b e => by
          cases e2 : H12 b with
          | none => rfl
          | some o => rw [low13 b o e2] at e; cases e
        have fd12 : ∀ b ∈ fd, H12 b = none := fun b mb => by
          rcases fr.2 b mb with z | z
          · rw [List.mem_singleton.mp z]; exact hx
          · exact (hu2 (hu2 z).2).2
        have low14 : ∀ b o, H12 b = some o → H14 b = some o := fun b o e => F14.1 b o (by rw [upd_ne (ne_of_none (low13 b o e) hg), upd_ne (ne_of_none (low13 b o e) hdg)]; exact low13 b o e) (by
          simp only [List.mem_cons, not_or]
          exact ⟨ne_of_none (low13 b o e) hg, fun z => by rw [fd12 b z] at e; cases e⟩)
        have fp12 : ∀ b ∈ fp, H12 b = none := fun b mb => by
          rcases F14.2 b mb with z | z
          · rcases List.mem_cons.mp z with rfl | z
            · exact up13 _ hg
            · exact fd12 b z
          · exact up13 _ (hu2 (hu2 z).2).2
        refine for_range (fun i σ H' => ∃ vk sure fpk, σ = [some (.ref a), some (.ref p), some (.int (n : Int)), some (.str (mkS (figL k n))), v4, some (.int ((m + 1 : Nat) : Int)), some (.int (nn : Int)), some (.ref x), some (.ref g), vk, none, none, none, none, none, none, none, none, none] ∧
          LD M.CD M.CL H' g fpk x (st (m + 1) i).1 (st (m + 1) i).2 (m + 1) sure ∧ (∀ b o, H12 b = some o → H' b = some o) ∧ ∀ b ∈ fpk, H12 b = none) ⟨none, 0, fp, rfl, ld, low14, fp12⟩ ?_ ?_
        · rintro i σ H' hi ⟨vk, sure, fpk, rfl, ldk, lowk, fpk12⟩
          have hi' : i < nn := by omega
          obtain ⟨q, L0, D2, L2, q2, ix, e1, b1, b2, b3, b4, b5, b6, b7, b8, b9⟩ := add_pre (all_add (m + 1) (by omega) m3 i (by omega))
          obtain ⟨sure2, hrot⟩ := b4 sure
          obtain ⟨fl, fdk, ef, dj, la, dkk⟩ := id ldk
          obtain ⟨pp, rows, ef2, lp⟩ := id la
          obtain ⟨dxg, gi⟩ := lp.ins
          rw [Int.zero_add]
          (repeat array_get_dec)
          refine w_strOf (log_small i (by omega)) ?_
          (repeat array_get_dec)
          have ct : (Str.ofString "t").length ≤ 1 := by decide +kernel
          refine w_addS (fit_add ct (numS_len (n := i) (by omega)) (by decide)) ?_
          have et : Str.ofString "t" ++ Str.ofString (toString ((i : Nat) : Int)) = mkS (tK i) := by
            refine TL.ext_tl ?_
            rw [TL.tl_append, TL.tl_num]; rfl
          rw [et]
          (repeat array_get_dec)
          refine ⟨g, fpk, x, _, q, L0, m + 1, sure, tK i, D2, L2, q2, sure2, ix, rfl, by rw [← e1]; exact ldk, b1, b2, b3, hrot, b5, b6, b7, b8, fun H2 fp2 v ld2 F2 => ?_⟩
          (repeat array_get_dec)
          refine ⟨_, sure2, fp2, rfl, by show LD _ _ _ _ _ _ (addS (m + 1) (st (m + 1) i) (tK i)).1 (addS (m + 1) (st (m + 1) i) (tK i)).2 _ _; rw [b9]; exact ld2, fun b o e => F2.1 b o (lowk b o e) fun z => (by rw [fpk12 b z] at e; cases e), fun b mb => ?_⟩
          rcases F2.2 b mb with z | z
          · exact fpk12 b z
          · cases e2 : H12 b with
            | none => rfl
            | some o => rw [lowk b o e2] at z; cases z
        · rintro σ H' ⟨vk, sure, fpk, rfl, ldk, lowk, fpk12⟩
          have hfin := all_fin (m + 1) (by omega) m3 nn nn11
          unfold okFin at hfin
          cases eq : (st (m + 1) nn).2.getLast? with
          | none => rw [eq] at hfin; cases hfin
          | some q =>
            rw [eq] at hfin
            simp only [Bool.and_eq_true, decide_eq_true_eq, beq_iff_eq] at hfin
            obtain ⟨⟨⟨⟨⟨f1, f2⟩, f3⟩, f4⟩, f5⟩, f6⟩ := hfin
            have eL := last_of eq
            have efin : fin (m + 1) nn = (syncD (st (m + 1) nn).1 (atN (st (m + 1) nn).1 q.1), (st (m + 1) nn).2) := by
              unfold fin
              rw [eq]
            obtain ⟨fl, fdk, ef, dj, la, dkk⟩ := id ldk
            obtain ⟨pp, rows, ef2, lp⟩ := id la
            obtain ⟨dxg, gi⟩ := lp.ins
            have en : (((nn : Nat) : Int) - 0).toNat = nn := by omega
            (repeat array_get_dec)
            rw [Int.toNat_natCast] at ldk
            rw [efin] at f3
            refine ⟨g, fpk, x, (st (m + 1) nn).1, q, (st (m + 1) nn).2.dropLast, m + 1, sure, atN (st (m + 1) nn).1 q.1, rfl, by rw [← eL]; exact ldk, f1, get_of f2, f3, fun H15 ld15 F15 => ?_⟩
            rw [← eL] at ld15
            have eD : syncD (st (m + 1) nn).1 (atN (st (m + 1) nn).1 q.1) = (fin (m + 1) nn).1 := by rw [efin]
            have eL2 : (st (m + 1) nn).2 = (fin (m + 1) nn).2 := by rw [efin]
            rw [eD, eL2] at ld15
            have hm3 : m < 3 := by omega
            obtain ⟨le1, le2, le3⟩ := all_le _ (in3 hm3) nn (List.mem_range.mpr nn11)
            obtain ⟨nm1, nm2⟩ := all_nms _ (in3 hm3) nn (List.mem_range.mpr nn11)
            (repeat array_get_dec)
            obtain ⟨fl15, fd15, ef15, dj15, la15, dk15⟩ := id ld15
            refine ⟨x, fd15, _, _, rfl, dk15, f4.1, f4.2.1, fun pn H16 s16 fpn hpn => ?_⟩
            rw [f5] at hpn
            have la16 := la15.same s16
            obtain ⟨pp16, rows16, ef16, lp16⟩ := id la16
            obtain ⟨dxg16, gi16⟩ := lp16.ins
            (repeat array_get_dec)
            refine ⟨g, _, x, _, _, _, rfl, la16, fun pq H17 ts s17 fpq hpq hts htq => ?_⟩
            (repeat array_get_dec)
            intro A hA
            refine lc_list (K := K) (a := pq) (xs := ts.map V.ref) (fun i H' => H' A = some (.lst (((nmsF (m + 1) nn).take i).map sv)) ∧ ∀ b o, b ≠ A → H17 b = some o → H' b = some o) ⟨upd_same, fun b o nb e => by rw [upd_ne nb]; exact e⟩ ?_ ?_ ?_
            · rintro i H' _ ⟨h1, h2⟩
              exact SqL.of (h2 _ _ (ne_of_none hpq hA) hpq)
            · rintro i y H' hy ⟨h1, h2⟩
              have hi1 : i < ts.length := by have := (List.getElem?_eq_some_iff.mp hy).1; rw [List.length_map] at this; exact this
              have hi2 : i < (fin (m + 1) nn).2.length := by rw [← hts]; exact hi1
              obtain rfl : y = V.ref ts[i] := by rw [List.getElem?_map, List.getElem?_eq_getElem hi1] at hy; exact (Option.some.inj hy).symm
              have w1 := htq i _ _ (List.getElem?_eq_getElem hi2) (List.getElem?_eq_getElem hi1)
              have w2 := h2 _ _ (ne_of_none w1 hA) w1
              have lz : (((nmsF (m + 1) nn).take i).map sv).length < sizeLine := by rw [List.length_map, List.length_take, sizeLine_eq]; unfold nmsF; rw [List.length_map]; omega
              (repeat array_get_dec)
              refine ⟨_, rfl, (le3 _ (List.getElem_mem hi2)).1, ?_⟩
              (repeat array_get_dec)
              refine ⟨?_, fun b o nb e => by rw [upd_ne nb]; exact h2 b o nb e⟩
              rw [upd_same]
              have e3 : (nmsF (m + 1) nn)[i]? = some (partL ((fin (m + 1) nn).2[i]).1) := by unfold nmsF; rw [List.getElem?_map, List.getElem?_eq_getElem hi2]; rfl
              rw [take_snoc e3, List.map_append]
              rfl
            · rintro H' ⟨h1, h2⟩
              have e4 : (nmsF (m + 1) nn).take (ts.map V.ref).length = nmsF (m + 1) nn := List.take_of_length_le (by unfold nmsF; rw [List.length_map, List.length_map, hts]; exact Nat.le_refl _)
              rw [e4] at h1
              have l40 : (nmsF (m + 1) nn).length ≤ 40 := by unfold nmsF; rw [List.length_map]; exact le2
              have hpn2 : H' pn = some (.lst ((nmsF (m + 1) nn).map sv)) := h2 _ _ (ne_of_none (s17 _ _ hpn) hA) (s17 _ _ hpn)
              (repeat array_get_dec)
              refine ⟨.ref pn, .ref A, dT (nmsF (m + 1) nn), rfl, vT_dp hpn2, vT_dp h1, dT_ok (by omega), fun H18 s18 => ?_⟩
              have hpn3 := s18 _ _ hpn2
              (repeat array_get_dec)
              refine ⟨pn, (nmsF (m + 1) nn).map mkS, rfl, SqL.of (by rw [List.map_map]; exact hpn3), by rw [List.length_map]; omega, fun ys ps hperm hsort fps => ?_⟩
              obtain rfl := sorted_same hperm hsort nm1
              (repeat array_get_dec)
              refine ⟨dT (nmsF (m + 1) nn), dT (nmsF (m + 1) nn), vT_dp (upd_atN fps hpn3), vT_dp (by rw [upd_same, List.map_map]; rfl), nm2, nm2, ?_⟩
              rw [ne_same nm2]
              (repeat array_get_dec)
              have s19 : Same H15 (upd H18 ps (HO.lst (List.map V.str (List.map mkS (nmsF (m + 1) nn))))) := fun b o e => by
                have e17 := s17 _ _ (s16 _ _ e)
                have e18 := s18 _ _ (h2 _ _ (ne_of_none e17 hA) e17)
                exact upd_atN fps e18
              have low15 : Same H12 H15 := fun b o e => F15.1 _ _ (lowk _ _ e) fun z => (by rw [fpk12 b z] at e; cases e)
              have ld19 := ld15.same s19
              have hP19 := hP12.keep (low15.trans s19)
              have hpn19 : upd H18 ps (HO.lst (List.map V.str (List.map mkS (nmsF (m + 1) nn)))) pn = some (.lst ((nmsF (m + 1) nn).map sv)) := upd_atN fps hpn3
              have pfp : ∀ b ∈ fpk, b ≠ p := fun b mb z => by
                obtain ⟨_, _, _, _, _, z1, _⟩ := hP12
                rw [← z, fpk12 b mb] at z1
                cases z1
              have pnp : pn ≠ p := (hP12.keep low15).ne fpn
              have lenN : ((nmsF (m + 1) nn).map sv).length = (fin (m + 1) nn).2.length := by unfold nmsF; rw [List.length_map, List.length_map]
              have len1 : 1 ≤ (fin (m + 1) nn).2.length := by
                cases e : (fin (m + 1) nn).2 with
                | nil => exact absurd e le1
                | cons _ _ => simp
              refine for_range (fun i σ H' => ∃ v9 v11 v12 v13 v14 v15 v16 v17 v18, σ = [some (.ref a), some (.ref p), some (.int (n : Int)), some (.str (mkS (figL k n))), v4, some (.int ((m + 1 : Nat) : Int)), some (.int (nn : Int)), some (.ref x), some (.ref g), v9, some (.ref pn), v11, v12, v13, v14, v15, v16, v17, v18] ∧
                LD M.CD M.CL H' g fpk x (fin (m + 1) nn).1 (fin (m + 1) nn).2 (m + 1) (q.1 + q.2.length) ∧ H' pn = some (.lst ((nmsF (m + 1) nn).map sv)) ∧ PoolL H' p l) ⟨_, _, _, _, _, _, _, _, _, rfl, ld19, hpn19, hP19⟩ ?_ ?_
              · rintro kk σ HA hkk ⟨v9, v11, v12, v13, v14, v15, v16, v17, v18, rfl, ldA, hpnA, hPA⟩
                (repeat array_get_dec)
                rw [lenN]
                refine ⟨p, l, _, rfl, hPA, by omega, by omega, fun d1 HB d1a d1b hPB sbB => ?_⟩
                obtain ⟨i, rfl⟩ : ∃ i : Nat, d1 = (i : Int) := ⟨d1.toNat, by omega⟩
                have hi : i < (fin (m + 1) nn).2.length := by omega
                have hq : (fin (m + 1) nn).2[i]? = some ((fin (m + 1) nn).2[i]) := List.getElem?_eq_getElem hi
                generalize hqe : (fin (m + 1) nn).2[i] = qi at hq
                have hnm : ((nmsF (m + 1) nn).map sv)[i]? = some (sv (partL qi.1)) := by unfold nmsF; rw [List.getElem?_map, List.getElem?_map, hq]; rfl
                obtain ⟨_, b1, b2, b3, b4⟩ := t_base hm3 nn11 hq
                have kpB : SameBut p HA HB := sbB
                have ldB := ldA.keep (H' := HB) fun b o e mb => sbB _ _ (pfp b mb) e
                obtain ⟨flB, fdB, efB, djB, laB, dkB⟩ := id ldB
                obtain ⟨kB, lB, nB, sB, cB, suB, cvB, efdB, ⟨_, ⟨dxB, gxB⟩, _⟩⟩ := id dkB
                (repeat array_get_dec)
                refine ⟨x, fdB, _, _, rfl, dkB, fun hb HC fpC dkC sC fC => ?_⟩
                have laC := laB.same sC
                obtain ⟨ppC, rowsC, efC, lpC⟩ := id laC
                obtain ⟨dxgC, giC⟩ := lpC.ins
                (repeat array_get_dec)
                refine ⟨g, _, x, _, _, _, rfl, laC, fun pqC HD tsC sD fpqC hpqC htsC htqC => ?_⟩
                have hiT : i < tsC.length := by rw [htsC]; exact hi
                have htC := htqC i _ _ hq (List.getElem?_eq_getElem hiT)
                have hixC : (tsC.map V.ref)[i]? = some (V.ref tsC[i]) := by rw [List.getElem?_map, List.getElem?_eq_getElem hiT]; rfl
                (repeat array_get_dec)
                have hpnD : HD pn = some (.lst ((nmsF (m + 1) nn).map sv)) := sD _ _ (sC _ _ (sbB _ _ pnp hpnA))
                have dkD := dkC.same sD
                have ldD := (ldB.same sC).same sD
                obtain ⟨kpD, hPD⟩ := kp_same kpB hPB (sC.trans sD)
                have fD0 : ∀ c ∈ fpC, HA c = none := fun c mc => by
                  have z := fC c mc
                  cases e : HA c with
                  | none => rfl
                  | some o =>
                    by_cases w : c = p
                    · obtain ⟨_, _, _, _, _, z1, _⟩ := hPB
                      rw [w, z1] at z; cases z
                    · rw [sbB _ _ w e] at z; cases z
                refine ⟨p, l, 4, rfl, hPD, by decide, by decide, fun d2 HE d2a d2b hPE sbE => ?_⟩
                have kpE := kpD.trans sbE
                have pC : ∀ b ∈ fpC, b ≠ p := fun b mb z => by
                  obtain ⟨_, _, _, _, _, z1, _⟩ := hPA
                  rw [← z, fD0 b mb] at z1
                  cases z1
                have dkE := dkD.keep (H' := HE) fun b o e mb => sbE _ _ (pC b mb) e
                have ldE := ldD.keep (H' := HE) fun b o e mb => sbE _ _ (pfp b mb) e
                have hpnE := sbE _ _ pnp hpnD
                obtain ⟨kC, lC, nC, sC', cC, suC, cvC, efdC, ⟨_, ⟨dxC, gxC⟩, _⟩⟩ := id dkE
                obtain ⟨flE, fdE, efE, djE, laE, dxE⟩ := id ldE
                obtain ⟨ppE, rowsE, efE2, lpE⟩ := id laE
                obtain ⟨dxgE, giE⟩ := lpE.ins
                have fin1 : ∀ Hz, SameBut p HA Hz ∧ PoolL Hz p l → LD M.CD M.CL Hz g fpk x (fin (m + 1) nn).1 (fin (m + 1) nn).2 (m + 1) (q.1 + q.2.length) ∧ Hz pn = some (.lst ((nmsF (m + 1) nn).map sv)) ∧ PoolL Hz p l := fun Hz z => ⟨ldA.keep fun b o e mb => z.1 _ _ (pfp b mb) e, z.1 _ _ pnp hpnA, z.2⟩
                have smF : small (fin (m + 1) nn).1 (fin (m + 1) nn).1.kept.length := by rw [← eD]; exact f3
                have pne : partN (fin (m + 1) nn).1 ≠ [] := by rw [f5]; intro w; exact le1 (List.map_eq_nil_iff.mp w)
                obtain ⟨s3a, s3b, s3c, s3d, s3e⟩ := t3 hm3 nn11
                (repeat array_get_dec)
                refine ite2 (fun c0 => ?_) (fun c0 => ?_)
                · skip
                  obtain ⟨s0a, s0b, s0c⟩ := t0 hm3 nn11 hq
                  (repeat array_get_dec)
                  refine ⟨hb, fpC, _, _, partL qi.1, _, rfl, dkE, b3, s0a, fun HF fpF dkF frF => ?_⟩
                  obtain ⟨kpF, fF0⟩ := kp_fr hPA kpE hPE fD0 frF
                  have hpnF := (fin1 _ kpF).2.1
                  (repeat array_get_dec)
                  refine ite2 (fun c1 => ?_) (fun c1 => ?_)
                  · have c1' : 0 < i := by have := of_decide_eq_true c1; omega
                    (repeat array_get_dec)
                    rw [lenN]
                    refine ite2 (fun c2 => ?_) (fun c2 => ?_)
                    · have c2' : i < (fin (m + 1) nn).2.length - 1 := by have := of_decide_eq_true c2; omega
                      obtain ⟨r1, r2, r3⟩ := s0b ⟨c1', c2'⟩
                      (repeat array_get_dec)
                      refine ⟨2, .ref hb, .int ((m + 1 : Nat) : Int), rfl, .inr (.inr (.inl ⟨rfl, hb, fpF, _, m + 1, rfl, rfl, dkF, r1, by omega, by omega, r2, r3, fun HG xG => ?_⟩))⟩
                      rw [show refS false = V.str (Str.ofString "paper") from rfl]
                      (repeat array_get_dec)
                      exact ⟨_, _, _, _, _, _, _, _, _, rfl, fin1 _ (kp_out hPA kpF.1 kpF.2 fF0 xG)⟩
                    · (repeat array_get_dec)
                      refine iteF' (decide_eq_false fun w => by have := V.int.inj w; omega) ?_
                      (repeat array_get_dec)
                      exact ⟨_, _, _, _, _, _, _, _, _, rfl, fin1 _ kpF⟩
                  · have c1' : i = 0 := by have : ¬ (0 : Int) < i := fun w => c1 (decide_eq_true w); omega
                    (repeat array_get_dec)
                    refine iteT' (decide_eq_true (by rw [c1']; rfl)) ?_
                    (repeat array_get_dec)
                    rw [lenN]
                    refine ite2 (fun c2 => ?_) (fun c2 => ?_)
                    · have c2' : 1 < (fin (m + 1) nn).2.length := by have := of_decide_eq_true c2; omega
                      obtain ⟨r1, r2, D2, L2, q1, r3, r4, r5, r6, r7⟩ := s0c ⟨c1', c2'⟩
                      obtain ⟨L0, qz, q0, L1, e1, e2, e3, e4⟩ := next_of r4
                      have z2 : qz.1 + qz.2.length = nn := by rw [← e3]; exact r7
                      have z1 : q0.1 = q1.1 := by rw [← e4]; exact r6
                      (repeat array_get_dec)
                      intro yG dyG hyG hdyG hneG
                      refine ⟨yG, dyG, hb, fpF, _, m + 1, rfl, upd_same, fun w => dkF.has yG w hyG, dkF.keep fun b o e _ => by rw [upd_ne (ne_of_none e hyG), upd_ne (ne_of_none e hdyG)]; exact e, r1, by omega, by omega, .inr ⟨r2, D2, L2, r3, fun HG fpG ldG frG => ⟨rfl, ?_⟩⟩⟩
                      have kpuG := kp_same kpF.1 kpF.2 (same_new (same_new (Same.refl _) hdyG (o := .own yG)) (by rw [upd_ne (Ne.symm hneG)]; exact hyG) (o := .ins M.CL dyG []))
                      have kpG := kp_out hPA kpuG.1 kpuG.2 (kp_new kpF.1 kpF.2 fF0 (g := yG :: fpF) fun b mb => (List.mem_cons.mp mb).elim (fun w => .inr (by rw [w]; exact hyG)) .inl) frG.1
                      obtain ⟨flG, fdG, efG, djG, laG, dkG⟩ := id ldG
                      obtain ⟨ppG, rowsG, eflG, lpG⟩ := id laG
                      obtain ⟨dxgG, giG⟩ := lpG.ins
                      obtain ⟨kkG, llG, nnG, ssG, ccG, suG, cvG, efdG, ⟨_, ⟨dxdG, gdG⟩, _⟩⟩ := id dkG
                      obtain ⟨flX, fdX, efX, djX, laX, dkX⟩ := id (fin1 _ kpG).1
                      obtain ⟨ppX, rowsX, eflX, lpX⟩ := id laX
                      obtain ⟨dxgX, giX⟩ := lpX.ins
                      (repeat array_get_dec)
                      refine ⟨yG, flG, hb, q0, L1, _, _, rfl, by rw [← e2]; exact laG, ?_⟩
                      (repeat array_get_dec)
                      refine ⟨yG, flG, hb, qz, L0, _, _, rfl, by rw [← e1]; exact laG, ?_⟩
                      rw [z2, z1]
                      (repeat array_get_dec)
                      refine ⟨by show 2 ≤ sizeLine; decide, fun w1 hw1 => ?_⟩
                      (repeat array_get_dec)
                      refine ⟨g, _, x, _, _, _, rfl, laX.same (same_new (Same.refl _) hw1), fun pqI HI tsI sI fpqI hpqI htsI htqI => ?_⟩
                      have h1I : 1 < tsI.length := by rw [htsI]; exact c2'
                      have hix := htqI 1 _ _ r5 (List.getElem?_eq_getElem h1I)
                      have hatI : atI (tsI.map V.ref) (1 : Int) = some (V.ref tsI[1]) := atI_nat (j := 1) (by rw [List.getElem?_map, List.getElem?_eq_getElem h1I]; rfl)
                      (repeat array_get_dec)
                      refine ⟨by show 2 ≤ sizeLine; decide, fun w2 hw2 => ?_⟩
                      (repeat array_get_dec)
                      have hw1I := sI _ _ (upd_same (H := HG) (a := w1))
                      refine ⟨.ref w1, .ref w2, .list [.int ((q1.1 : Nat) : Int), .int ((nn : Nat) : Int)], rfl, .lst (SqL.of (upd_atN hw2 hw1I)) (.cons (.int _) (.cons (.int _) .nil)), .lst (SqL.of upd_same) (.cons (.int _) (.cons (.int _) .nil)), (okD_flat (n := 1) (by simp) fun e he => by simp at he; rcases he with rfl | rfl <;> trivial).1, fun HJ sJ => ?_⟩
                      (repeat array_get_dec)
                      exact ⟨_, _, _, _, _, _, _, _, _, rfl, fin1 _ (kp_same kpG.1 kpG.2 fun b o e => sJ _ _ (upd_atN hw2 (sI _ _ (upd_atN hw1 e))))⟩
                    · (repeat array_get_dec)
                      exact ⟨_, _, _, _, _, _, _, _, _, rfl, fin1 _ kpF⟩
                · (repeat array_get_dec)
                  refine ite2 (fun c1 => ?_) (fun c1 => ?_)
                  · skip
                    (repeat array_get_dec)
                    refine ite2 (fun c2 => ?_) (fun c2 => ?_)
                    · have c2' : 0 < qi.2.length := by have := of_decide_eq_true c2; omega
                      obtain ⟨_, _, _, sz⟩ := t2 hm3 nn11 hq
                      have sz' : 0 < (readD (fin (m + 1) nn).1 (atN (fin (m + 1) nn).1 qi.1)).length := sz.elim id fun w => by rw [b4 w] at c2'; cases c2'
                      have szm : (readD (fin (m + 1) nn).1 (atN (fin (m + 1) nn).1 qi.1)).length ≤ 400000 := f4.2.2.1 _ (smF.2.2.2.2.2.2.2 _ (lookup_mem b3))
                      (repeat array_get_dec)
                      refine ⟨hb, fpC, _, _, partL qi.1, _, rfl, dkE, b3, ?_⟩
                      (repeat array_get_dec)
                      refine ⟨p, l, _, rfl, hPE, by omega, by omega, fun d3 HF d3a d3b hPF sbF => ?_⟩
                      obtain ⟨s, rfl⟩ : ∃ s : Nat, d3 = (s : Int) := ⟨d3.toNat, by omega⟩
                      obtain ⟨u1, u2, u3, u4⟩ := t1 (s := s) hm3 nn11 hq f4 smF (by omega)
                      have kpF := kpE.trans sbF
                      have dkF := dkE.keep (H' := HF) fun b o e mb => sbF _ _ (pC b mb) e
                      have hpnF := sbF _ _ pnp hpnE
                      obtain ⟨kC2, lC2, nC2, sC2, cC2, suC2, cvC2, efdC2, ⟨_, ⟨dxC2, gxC2⟩, _⟩⟩ := id dkF
                      (repeat array_get_dec)
                      refine ⟨hb, fpC, _, _, partL qi.1, _, s, rfl, dkF, b3, by omega, u1, fun HG dkG frG => ?_⟩
                      obtain ⟨kpG, fG0⟩ := kp_fr hPA kpF hPF fD0 frG
                      replace dkG : DiskAt M.CD HG hb fpC (cutD (fin (m + 1) nn).1 (atN (fin (m + 1) nn).1 qi.1) s) := by
                        show DiskN _ _ _ _ _ (List.length (List.set _ _ _))
                        rw [List.length_set]
                        exact dkG
                      have hpnG := (fin1 _ kpG).2.1
                      (repeat array_get_dec)
                      rw [lenN]
                      refine ite2 (fun c3 => ?_) (fun c3 => ?_)
                      · have c3' : i < (fin (m + 1) nn).2.length - 1 := by have := of_decide_eq_true c3; omega
                        (repeat array_get_dec)
                        refine ⟨2, .ref hb, .int ((m + 1 : Nat) : Int), rfl, .inr (.inr (.inl ⟨rfl, hb, fpC, _, m + 1, rfl, rfl, dkG, u2, by omega, by omega, pne, (u3 c3'), fun HJ xJ => ?_⟩))⟩
                        rw [show refS false = V.str (Str.ofString "paper") from rfl]
                        (repeat array_get_dec)
                        exact ⟨_, _, _, _, _, _, _, _, _, rfl, fin1 _ (kp_out hPA kpG.1 kpG.2 fD0 xJ)⟩
                      · have c3' : ¬ i < (fin (m + 1) nn).2.length - 1 := fun w => c3 (decide_eq_true (by omega))
                        obtain ⟨D2, L2, r3, r4, r5, r6, r7, r8⟩ := u4 c3'
                        obtain ⟨L0, qz, q0, L1, e1, e2, e3, e4⟩ := next_of r4
                        rw [e3] at r5 r6 r7 r8
                        rw [e4] at r7 r8
                        (repeat array_get_dec)
                        intro yI dyI hyI hdyI hneI
                        refine ⟨yI, dyI, hb, fpC, _, m + 1, rfl, upd_same, fun w => dkG.has yI w hyI, dkG.keep fun b o e _ => by rw [upd_ne (ne_of_none e hyI), upd_ne (ne_of_none e hdyI)]; exact e, u2, by omega, by omega, .inr ⟨pne, D2, L2, r3, fun HI fpI ldI frI => ⟨rfl, ?_⟩⟩⟩
                        have kpuI := kp_same kpG.1 kpG.2 (same_new (same_new (Same.refl _) hdyI (o := .own yI)) (by rw [upd_ne (Ne.symm hneI)]; exact hyI) (o := .ins M.CL dyI []))
                        have kpI := kp_out hPA kpuI.1 kpuI.2 (kp_new kpG.1 kpG.2 fD0 (g := yI :: fpC) fun b mb => (List.mem_cons.mp mb).elim (fun w => .inr (by rw [w]; exact hyI)) .inl) frI.1
                        obtain ⟨flI, fdI, efI, djI, laI, dkI⟩ := id ldI
                        obtain ⟨ppI, rowsI, eflI, lpI⟩ := id laI
                        obtain ⟨dxgI, giI⟩ := lpI.ins
                        obtain ⟨kkI, llI, nnI, ssI, ccI, suI, cvI, efdI, ⟨_, ⟨dxdI, gdI⟩, _⟩⟩ := id dkI
                        (repeat array_get_dec)
                        refine ⟨yI, flI, hb, qz, L0, _, _, rfl, by rw [← e1]; exact laI, ?_⟩
                        (repeat array_get_dec)
                        refine iteF' (decide_eq_false (by omega)) ?_
                        (repeat array_get_dec)
                        refine ⟨yI, flI, hb, qz, L0, _, _, rfl, by rw [← e1]; exact laI, ?_⟩
                        (repeat array_get_dec)
                        refine iteF' (decide_eq_false (by omega)) ?_
                        (repeat array_get_dec)
                        refine ⟨yI, flI, hb, q0, L1, _, _, rfl, by rw [← e2]; exact laI, ?_⟩
                        (repeat array_get_dec)
                        have tl1 : ((List.range (qz.1 + qz.2.length - q0.1)).map fun j => tK (q0.1 + j)).length = qz.1 + qz.2.length - q0.1 := by rw [List.length_map, List.length_range]
                        refine ⟨yI, flI, hb, q0, qz, L1, L0, _, _, q0.1, (List.range (qz.1 + qz.2.length - q0.1)).map fun j => tK (q0.1 + j), rfl, by rw [← e2]; exact laI, by rw [← e2, e1], Nat.le_refl _, by rw [tl1]; omega, by rw [tl1]; omega, by omega, fun j t ht => ?_, fun pt HJ sJ fpt hpt => ?_⟩
                        · have hj : j < qz.1 + qz.2.length - q0.1 := by have := (List.getElem?_eq_some_iff.mp ht).1; rw [tl1] at this; exact this
                          rw [List.getElem?_map, List.getElem?_range hj] at ht
                          rw [← Option.some.inj ht, ← e2]
                          exact r8 j (by omega)
                        · have laJ := laI.same sJ
                          have giJ := sJ _ _ giI
                          (repeat array_get_dec)
                          refine ⟨yI, flI, hb, q0, L1, _, _, rfl, by rw [← e2]; exact laJ, ?_⟩
                          (repeat array_get_dec)
                          refine ⟨yI, flI, hb, qz, L0, _, _, rfl, by rw [← e1]; exact laJ, ?_⟩
                          (repeat array_get_dec)
                          refine ⟨_, _, rfl, ⟨by omega, by omega, by omega, by omega⟩, ?_⟩
                          (repeat array_get_dec)
                          intro A2 hA2
                          have en2 : ((((qz.1 + qz.2.length : Nat) : Int)) - ((q0.1 : Nat) : Int)).toNat = qz.1 + qz.2.length - q0.1 := by omega
                          rw [en2]
                          refine lc_range (fun i H' => H' A2 = some (.lst (((List.range i).map fun j => tK (q0.1 + j)).map sv)) ∧ ∀ b o, b ≠ A2 → HJ b = some o → H' b = some o) ⟨upd_same, fun b o nb e => by rw [upd_ne nb]; exact e⟩ ?_ ?_
                          · rintro j H' hj ⟨h1, h2⟩
                            have lz : (((List.range j).map fun j => tK (q0.1 + j)).map sv).length < sizeLine := by rw [List.length_map, List.length_map, List.length_range, sizeLine_eq]; omega
                            (repeat array_get_dec)
                            rw [show ((q0.1 : Nat) : Int) + (j : Int) = ((q0.1 + j : Nat) : Int) by omega]
                            refine w_strOf (log_small (q0.1 + j) (by omega)) ?_
                            (repeat array_get_dec)
                            have ct : (Str.ofString "t").length ≤ 1 := by decide +kernel
                            refine w_addS (fit_add ct (numS_len (n := q0.1 + j) (by omega)) (by decide)) ?_
                            have et : Str.ofString "t" ++ Str.ofString (toString ((q0.1 + j : Nat) : Int)) = mkS (tK (q0.1 + j)) := by
                              refine TL.ext_tl ?_
                              rw [TL.tl_append, TL.tl_num]; rfl
                            rw [et]
                            (repeat array_get_dec)
                            refine ⟨by rw [upd_same, List.range_succ, List.map_append, List.map_append]; rfl, fun b o nb e => by rw [upd_ne nb]; exact h2 b o nb e⟩
                          · rintro H' ⟨h1, h2⟩
                            (repeat array_get_dec)
                            refine ⟨.ref pt, .ref A2, dT ((List.range (qz.1 + qz.2.length - q0.1)).map fun j => tK (q0.1 + j)), rfl, vT_dp (h2 _ _ (ne_of_none hpt hA2) hpt), vT_dp h1, dT_ok (by rw [tl1]; omega), fun HL sL => ?_⟩
                            (repeat array_get_dec)
                            exact ⟨_, _, _, _, _, _, _, _, _, rfl, fin1 _ (kp_same kpI.1 kpI.2 fun b o e => sL _ _ (h2 _ _ (ne_of_none (sJ _ _ e) hA2) (sJ _ _ e)))⟩
                    · (repeat array_get_dec)
                      refine iteF' (decide_eq_false fun w => by have w1 := V.int.inj w; have w2 := V.int.inj (of_decide_eq_true c1); omega) ?_
                      (repeat array_get_dec)
                      refine ⟨nn + 1, by rw [show ((nn : Int) + 1) = ((nn + 1 : Nat) : Int) by omega]; rfl, by omega, ?_⟩
                      (repeat array_get_dec)
                      refine ⟨hb, fpC, _, partL (nn + 1), rfl, dkE, s3a, fun z => (by have := congrArg List.length z; rw [part_len (by omega)] at this; cases this), s3b, fun HF fpF dkF frF => ?_⟩
                      obtain ⟨kpF, fF0⟩ := kp_fr hPA kpE hPE fD0 frF
                      (repeat array_get_dec)
                      refine ⟨2, .ref hb, .int ((m + 1 : Nat) : Int), rfl, .inr (.inr (.inl ⟨rfl, hb, fpF, _, m + 1, rfl, rfl, dkF, s3c, by omega, by omega, s3d, s3e, fun HG xG => ?_⟩))⟩
                      rw [show refS false = V.str (Str.ofString "paper") from rfl]
                      (repeat array_get_dec)
                      exact ⟨_, _, _, _, _, _, _, _, _, rfl, fin1 _ (kp_out hPA kpF.1 kpF.2 fF0 xG)⟩
                  · (repeat array_get_dec)
                    refine ite2 (fun c2 => ?_) (fun c2 => ?_)
                    · (repeat array_get_dec)
                      rw [show Str.ofString "3:4" = mkS [51, 58, 52] by decide +kernel]
                      obtain ⟨s2a, s2b, s2c, _⟩ := t2 hm3 nn11 hq
                      refine ⟨hb, fpC, _, _, partL qi.1, _, [51, 58, 52], rfl, dkE, b3, by decide, by decide, s2a, fun HF dkF frF => ?_⟩
                      obtain ⟨kpF, fF0⟩ := kp_fr hPA kpE hPE fD0 frF
                      have hpnF := (fin1 _ kpF).2.1
                      (repeat array_get_dec)
                      rw [lenN]
                      refine ite2 (fun c3 => ?_) (fun c3 => ?_)
                      · have c3' : i < (fin (m + 1) nn).2.length - 1 := by have := of_decide_eq_true c3; omega
                        obtain ⟨r1, r2, r3⟩ := s2b c3'
                        (repeat array_get_dec)
                        refine ⟨2, .ref hb, .int ((m + 1 : Nat) : Int), rfl, .inr (.inr (.inl ⟨rfl, hb, fpC, _, m + 1, rfl, rfl, dkF, r1, by omega, by omega, r2, r3, fun HG xG => ?_⟩))⟩
                        rw [show refS false = V.str (Str.ofString "paper") from rfl]
                        (repeat array_get_dec)
                        exact ⟨_, _, _, _, _, _, _, _, _, rfl, fin1 _ (kp_out hPA kpF.1 kpF.2 fF0 xG)⟩
                      · have c3' : ¬ i < (fin (m + 1) nn).2.length - 1 := fun w => c3 (decide_eq_true (by omega))
                        obtain ⟨r1, r2, D2, L2, r3, r4, r5, r6, r7⟩ := s2c c3'
                        obtain ⟨L0, qz, q0, L1, e1, e2, e3, e4⟩ := next_of r4
                        rw [e3] at r5
                        (repeat array_get_dec)
                        intro yG dyG hyG hdyG hneG
                        refine ⟨yG, dyG, hb, fpC, _, m + 1, rfl, upd_same, fun w => dkF.has yG w hyG, dkF.keep fun b o e _ => by rw [upd_ne (ne_of_none e hyG), upd_ne (ne_of_none e hdyG)]; exact e, r1, by omega, by omega, .inr ⟨r2, D2, L2, r3, fun HG fpG ldG frG => ⟨rfl, ?_⟩⟩⟩
                        have kpuG := kp_same kpF.1 kpF.2 (same_new (same_new (Same.refl _) hdyG (o := .own yG)) (by rw [upd_ne (Ne.symm hneG)]; exact hyG) (o := .ins M.CL dyG []))
                        have kpG := kp_out hPA kpuG.1 kpuG.2 (kp_new kpF.1 kpF.2 fF0 (g := yG :: fpC) fun b mb => (List.mem_cons.mp mb).elim (fun w => .inr (by rw [w]; exact hyG)) .inl) frG.1
                        obtain ⟨flG, fdG, efG, djG, laG, dkG⟩ := id ldG
                        obtain ⟨ppG, rowsG, eflG, lpG⟩ := id laG
                        obtain ⟨dxgG, giG⟩ := lpG.ins
                        obtain ⟨kkG, llG, nnG, ssG, ccG, suG, cvG, efdG, ⟨_, ⟨dxdG, gdG⟩, _⟩⟩ := id dkG
                        (repeat array_get_dec)
                        refine ⟨yG, flG, hb, qz, L0, _, _, rfl, by rw [← e1]; exact laG, ?_⟩
                        rw [r5]
                        (repeat array_get_dec)
                        refine iteF' (ne_self _) ?_
                        have hpnG := (fin1 _ kpG).2.1
                        obtain ⟨flX, fdX, efX, djX, laX, dkX⟩ := id (fin1 _ kpG).1
                        obtain ⟨kkX, llX, nnX, ssX, ccX, suX, cvX, efdX, ⟨_, ⟨dxdX, gdX⟩, _⟩⟩ := id dkX
                        (repeat array_get_dec)
                        refine ⟨hb, fdG, D2, _, partL qi.1, _, rfl, dkG, r6, ?_⟩
                        (repeat array_get_dec)
                        refine ⟨x, fdX, _, _, partL qi.1, _, rfl, dkX, b3, ?_⟩
                        rw [r7]
                        (repeat array_get_dec)
                        refine iteF' (ne_self _) ?_
                        (repeat array_get_dec)
                        exact ⟨_, _, _, _, _, _, _, _, _, rfl, fin1 _ kpG⟩
                    · (repeat array_get_dec)
                      refine ⟨nn + 1, by rw [show ((nn : Int) + 1) = ((nn + 1 : Nat) : Int) by omega]; rfl, by omega, ?_⟩
                      (repeat array_get_dec)
                      refine ⟨hb, fpC, _, partL (nn + 1), rfl, dkE, s3a, fun z => (by have := congrArg List.length z; rw [part_len (by omega)] at this; cases this), s3b, fun HF fpF dkF frF => ?_⟩
                      obtain ⟨kpF, fF0⟩ := kp_fr hPA kpE hPE fD0 frF
                      (repeat array_get_dec)
                      refine ⟨2, .ref hb, .int ((m + 1 : Nat) : Int), rfl, .inr (.inr (.inl ⟨rfl, hb, fpF, _, m + 1, rfl, rfl, dkF, s3c, by omega, by omega, s3d, s3e, fun HG xG => ?_⟩))⟩
                      rw [show refS false = V.str (Str.ofString "paper") from rfl]
                      (repeat array_get_dec)
                      exact ⟨_, _, _, _, _, _, _, _, _, rfl, fin1 _ (kp_out hPA kpF.1 kpF.2 fF0 xG)⟩
              · rintro σ H' ⟨v9, v11, v12, v13, v14, v15, v16, v17, v18, rfl, _, _, _⟩
                (repeat array_get_dec)
                exact kQ _
end
end K53

namespace K53
open PySem PySem.Spec PyProof.Rows L2
/-! ### what the top has written, the head -/
theorem all_mk {P : Program} {w : World} {K : PySem.W.Frag} {h : Heap} {mg : Str → Option Value} {fa f1 T1 f2 T2 f3 f4 f5 f6 f7 f8 f9 f10 f11 f12 f13 f14 f15 f16 f17 f18 f19 f20 f21 f22 f23 f24 f25 f26 f27 f28 f29 f30 f31 f32 f33 f34 f35 f36 f37 f38 f39 f40 f41 f42 f43 f44 CD CL CE CP CN : Addr} (X : K.In h) (G : h.Ns mainGlobals mg) (hfa : mg "law" = some (.ref fa))
    {od1 an1 oD1 od2 an2 oD2 od3 an3 od4 an4 od5 an5 od6 an6 od7 an7 od8 an8 od9 an9 od10 an10 od11 an11 od12 an12 od13 an13 od14 an14 od15 an15 od16 an16 od17 an17 od18 an18 od19 an19 od20 an20 od21 an21 od22 an22 od23 an23 od24 an24 od25 an25 od26 an26 od27 an27 od28 an28 od29 an29 od30 an30 od31 an31 od32 an32 od33 an33 od34 an34 od35 an35 od36 an36 od37 an37 od38 an38 od39 an39 od40 an40 od41 an41 od42 an42 od43 an43 od44 an44 : Option Addr} {sl1 sT1 sl2 sT2 sl3 sl4 sl5 sl6 sl7 sl8 sl9 sl10 sl11 sl12 sl13 sl14 sl15 sl16 sl17 sl18 sl19 sl20 sl21 sl22 sl23 sl24 sl25 sl26 sl27 sl28 sl29 sl30 sl31 sl32 sl33 sl34 sl35 sl36 sl37 sl38 sl39 sl40 sl41 sl42 sl43 sl44 : Array (Option Value)} {oc1 kV1 dc1 pm1 cd1 ct1 oT1 oc2 kV2 dc2 pm2 cd2 ct2 oT2 oc3 kV3 dc3 pm3 cd3 ct3 oc4 kV4 dc4 pm4 cd4 ct4 oc5 kV5 dc5 pm5 cd5 ct5 oc6 kV6 dc6 pm6 cd6 ct6 oc7 kV7 dc7 pm7 cd7 ct7 oc8 kV8 dc8 pm8 cd8 ct8 oc9 kV9 dc9 pm9 cd9 ct9 oc10 kV10 dc10 pm10 cd10 ct10 oc11 kV11 dc11 pm11 cd11 ct11 oc12 kV12 dc12 pm12 cd12 ct12 oc13 kV13 dc13 pm13 cd13 ct13 oc14 kV14 dc14 pm14 cd14 ct14 oc15 kV15 dc15 pm15 cd15 ct15 oc16 kV16 dc16 pm16 cd16 ct16 oc17 kV17 dc17 pm17 cd17 ct17 oc18 kV18 dc18 pm18 cd18 ct18 oc19 kV19 dc19 pm19 cd19 ct19 oc20 kV20 dc20 pm20 cd20 ct20 oc21 kV21 dc21 pm21 cd21 ct21 oc22 kV22 dc22 pm22 cd22 ct22 oc23 kV23 dc23 pm23 cd23 ct23 oc24 kV24 dc24 pm24 cd24 ct24 oc25 kV25 dc25 pm25 cd25 ct25 oc26 kV26 dc26 pm26 cd26 ct26 oc27 kV27 dc27 pm27 cd27 ct27 oc28 kV28 dc28 pm28 cd28 ct28 oc29 kV29 dc29 pm29 cd29 ct29 oc30 kV30 dc30 pm30 cd30 ct30 oc31 kV31 dc31 pm31 cd31 ct31 oc32 kV32 dc32 pm32 cd32 ct32 oc33 kV33 dc33 pm33 cd33 ct33 oc34 kV34 dc34 pm34 cd34 ct34 oc35 kV35 dc35 pm35 cd35 ct35 oc36 kV36 dc36 pm36 cd36 ct36 oc37 kV37 dc37 pm37 cd37 ct37 oc38 kV38 dc38 pm38 cd38 ct38 oc39 kV39 dc39 pm39 cd39 ct39 oc40 kV40 dc40 pm40 cd40 ct40 oc41 kV41 dc41 pm41 cd41 ct41 oc42 kV42 dc42 pm42 cd42 ct42 oc43 kV43 dc43 pm43 cd43 ct43 oc44 kV44 dc44 pm44 cd44 ct44 : Value}
    {t1_0 t1_1 t2_0 t2_1 t_GREAT t_STEP t_MOST_frames t_MOST_logs t_FEWEST t_SPOILT : Tok}
    {nT1 nT2 : Nat}
    (a1 : PySem.W.nsIn K mainGlobals "is_number" = some (some (.ref f1)))
    (a2 : PySem.W.nsIn K mainGlobals "checked_number" = some (some (.ref f2)))
    (a16 : PySem.W.nsIn K mainGlobals "applied" = some (some (.ref f16)))
    (a17 : PySem.W.nsIn K mainGlobals "check_of" = some (some (.ref f17)))
    (a18 : PySem.W.nsIn K mainGlobals "checked_text" = some (some (.ref f18)))
    (a19 : PySem.W.nsIn K mainGlobals "framed" = some (some (.ref f19)))
    (a20 : PySem.W.nsIn K mainGlobals "_number" = some (some (.ref f20)))
    (a21 : PySem.W.nsIn K mainGlobals "one_frame" = some (some (.ref f21)))
    (a22 : PySem.W.nsIn K mainGlobals "read_frames" = some (some (.ref f22)))
    (a23 : PySem.W.nsIn K mainGlobals "part_name" = some (some (.ref f23)))
    (a24 : PySem.W.nsIn K mainGlobals "part_names" = some (some (.ref f24)))
    (a25 : PySem.W.nsIn K mainGlobals "is_part" = some (some (.ref f25)))
    (a26 : PySem.W.nsIn K mainGlobals "first_of" = some (some (.ref f26)))
    (a37 : PySem.W.nsIn K mainGlobals "new_log" = some (some (.ref f37)))
    (a38 : PySem.W.nsIn K mainGlobals "_law_same" = some (some (.ref f38)))
    (a39 : PySem.W.nsIn K mainGlobals "_law_pool" = some (some (.ref f39)))
    (a40 : PySem.W.nsIn K mainGlobals "_law_draw" = some (some (.ref f40)))
    (a41 : PySem.W.nsIn K mainGlobals "_law_pick" = some (some (.ref f41)))
    (a42 : PySem.W.nsIn K mainGlobals "_law_refusal" = some (some (.ref f42)))
    (a43 : PySem.W.nsIn K mainGlobals "_law_refused" = some (some (.ref f43)))
    (a44 : PySem.W.nsIn K mainGlobals "law" = some (some (.ref f44)))
    (g_CD : PySem.W.nsIn K mainGlobals "Disk" = some (some (.ref CD)))
    (g_CL : PySem.W.nsIn K mainGlobals "Log" = some (some (.ref CL)))
    (aE : PySem.W.nsIn K mainGlobals "DeskError" = some (some (.ref CE)))
    (a_CP : PySem.W.nsIn K mainGlobals "InvalidPaper" = some (some (.ref CP)))
    (a_CN : PySem.W.nsIn K mainGlobals "InvalidNumber" = some (some (.ref CN)))
    (z_len : PySem.W.nsIn K mainGlobals "len" = some none)
    (z_isinstance : PySem.W.nsIn K mainGlobals "isinstance" = some none)
    (z_str : PySem.W.nsIn K mainGlobals "str" = some none)
    (z_int : PySem.W.nsIn K mainGlobals "int" = some none)
    (z_list : PySem.W.nsIn K mainGlobals "list" = some none)
    (z_tuple : PySem.W.nsIn K mainGlobals "tuple" = some none)
    (z_bool : PySem.W.nsIn K mainGlobals "bool" = some none)
    (z_range : PySem.W.nsIn K mainGlobals "range" = some none)
    (z_abs : PySem.W.nsIn K mainGlobals "abs" = some none)
    (z_ord : PySem.W.nsIn K mainGlobals "ord" = some none)
    (z_sorted : PySem.W.nsIn K mainGlobals "sorted" = some none)
    (z_dict : PySem.W.nsIn K mainGlobals "dict" = some none)
    (z_ValueError : PySem.W.nsIn K mainGlobals "ValueError" = some none)
    (n_GREAT : PySem.W.nsIn K mainGlobals "GREAT" = some (some (.int 1000003 t_GREAT)))
    (n_STEP : PySem.W.nsIn K mainGlobals "STEP" = some (some (.int 8191 t_STEP)))
    (n_MOST_frames : PySem.W.nsIn K mainGlobals "MOST_frames" = some (some (.int 1000000 t_MOST_frames)))
    (n_MOST_logs : PySem.W.nsIn K mainGlobals "MOST_logs" = some (some (.int 1000 t_MOST_logs)))
    (n_FEWEST : PySem.W.nsIn K mainGlobals "FEWEST" = some (some (.int 1 t_FEWEST)))
    (n_SPOILT : PySem.W.nsIn K mainGlobals "SPOILT" = some (some (.str (Str.ofString "?") t_SPOILT)))
    (l1 : K.lookup f1 = some ⟨oc1, od1, .func (PySem.W.fnOf "is_number" "is_number" (defArgs s_is_number) (defBody s_is_number) (defScope s_is_number) (.ref T1) kV1 dc1 pm1 an1 cd1 ct1), sl1⟩)
    (c1 : PySem.W.codeIn K cd1 "is_number" = true)
    (k1 : PySem.W.keepIn K (.ref f1) = true)
    (d1 : K.lookup T1 = some ⟨oT1, oD1, .seq #[.int 0 t1_0, .int 1000000 t1_1] nT1, sT1⟩)
    (l2 : K.lookup f2 = some ⟨oc2, od2, .func (PySem.W.fnOf "checked_number" "checked_number" (defArgs s_checked_number) (defBody s_checked_number) (defScope s_checked_number) (.ref T2) kV2 dc2 pm2 an2 cd2 ct2), sl2⟩)
    (c2 : PySem.W.codeIn K cd2 "checked_number" = true)
    (k2 : PySem.W.keepIn K (.ref f2) = true)
    (d2 : K.lookup T2 = some ⟨oT2, oD2, .seq #[.int 0 t2_0, .int 1000000 t2_1] nT2, sT2⟩)
    (a3 : PySem.W.findIn K (.ref CD) "__init__" = some (some (.ref f3)))
    (i3 : PySem.W.isFn K (.ref f3) = true)
    (l3 : K.lookup f3 = some ⟨oc3, od3, .func (PySem.W.fnOf "__init__" "Disk.__init__" (defArgs s_Disk___init__) (defBody s_Disk___init__) (defScope s_Disk___init__) .none kV3 dc3 pm3 an3 cd3 ct3), sl3⟩)
    (c3 : PySem.W.codeIn K cd3 "Disk.__init__" = true)
    (k3 : PySem.W.keepIn K (.ref f3) = true)
    (a4 : PySem.W.findIn K (.ref CD) "names" = some (some (.ref f4)))
    (i4 : PySem.W.isFn K (.ref f4) = true)
    (l4 : K.lookup f4 = some ⟨oc4, od4, .func (PySem.W.fnOf "names" "Disk.names" (defArgs s_Disk_names) (defBody s_Disk_names) (defScope s_Disk_names) .none kV4 dc4 pm4 an4 cd4 ct4), sl4⟩)
    (c4 : PySem.W.codeIn K cd4 "Disk.names" = true)
    (k4 : PySem.W.keepIn K (.ref f4) = true)
    (a5 : PySem.W.findIn K (.ref CD) "_file" = some (some (.ref f5)))
    (i5 : PySem.W.isFn K (.ref f5) = true)
    (l5 : K.lookup f5 = some ⟨oc5, od5, .func (PySem.W.fnOf "_file" "Disk._file" (defArgs s_Disk__file) (defBody s_Disk__file) (defScope s_Disk__file) .none kV5 dc5 pm5 an5 cd5 ct5), sl5⟩)
    (c5 : PySem.W.codeIn K cd5 "Disk._file" = true)
    (k5 : PySem.W.keepIn K (.ref f5) = true)
    (a6 : PySem.W.findIn K (.ref CD) "read" = some (some (.ref f6)))
    (i6 : PySem.W.isFn K (.ref f6) = true)
    (l6 : K.lookup f6 = some ⟨oc6, od6, .func (PySem.W.fnOf "read" "Disk.read" (defArgs s_Disk_read) (defBody s_Disk_read) (defScope s_Disk_read) .none kV6 dc6 pm6 an6 cd6 ct6), sl6⟩)
    (c6 : PySem.W.codeIn K cd6 "Disk.read" = true)
    (k6 : PySem.W.keepIn K (.ref f6) = true)
    (a7 : PySem.W.findIn K (.ref CD) "size" = some (some (.ref f7)))
    (i7 : PySem.W.isFn K (.ref f7) = true)
    (l7 : K.lookup f7 = some ⟨oc7, od7, .func (PySem.W.fnOf "size" "Disk.size" (defArgs s_Disk_size) (defBody s_Disk_size) (defScope s_Disk_size) .none kV7 dc7 pm7 an7 cd7 ct7), sl7⟩)
    (c7 : PySem.W.codeIn K cd7 "Disk.size" = true)
    (k7 : PySem.W.keepIn K (.ref f7) = true)
    (a8 : PySem.W.findIn K (.ref CD) "make" = some (some (.ref f8)))
    (i8 : PySem.W.isFn K (.ref f8) = true)
    (l8 : K.lookup f8 = some ⟨oc8, od8, .func (PySem.W.fnOf "make" "Disk.make" (defArgs s_Disk_make) (defBody s_Disk_make) (defScope s_Disk_make) .none kV8 dc8 pm8 an8 cd8 ct8), sl8⟩)
    (c8 : PySem.W.codeIn K cd8 "Disk.make" = true)
    (k8 : PySem.W.keepIn K (.ref f8) = true)
    (a9 : PySem.W.findIn K (.ref CD) "_change" = some (some (.ref f9)))
    (i9 : PySem.W.isFn K (.ref f9) = true)
    (l9 : K.lookup f9 = some ⟨oc9, od9, .func (PySem.W.fnOf "_change" "Disk._change" (defArgs s_Disk__change) (defBody s_Disk__change) (defScope s_Disk__change) .none kV9 dc9 pm9 an9 cd9 ct9), sl9⟩)
    (c9 : PySem.W.codeIn K cd9 "Disk._change" = true)
    (k9 : PySem.W.keepIn K (.ref f9) = true)
    (a10 : PySem.W.findIn K (.ref CD) "write" = some (some (.ref f10)))
    (i10 : PySem.W.isFn K (.ref f10) = true)
    (l10 : K.lookup f10 = some ⟨oc10, od10, .func (PySem.W.fnOf "write" "Disk.write" (defArgs s_Disk_write) (defBody s_Disk_write) (defScope s_Disk_write) .none kV10 dc10 pm10 an10 cd10 ct10), sl10⟩)
    (c10 : PySem.W.codeIn K cd10 "Disk.write" = true)
    (k10 : PySem.W.keepIn K (.ref f10) = true)
    (a11 : PySem.W.findIn K (.ref CD) "sync" = some (some (.ref f11)))
    (i11 : PySem.W.isFn K (.ref f11) = true)
    (l11 : K.lookup f11 = some ⟨oc11, od11, .func (PySem.W.fnOf "sync" "Disk.sync" (defArgs s_Disk_sync) (defBody s_Disk_sync) (defScope s_Disk_sync) .none kV11 dc11 pm11 an11 cd11 ct11), sl11⟩)
    (c11 : PySem.W.codeIn K cd11 "Disk.sync" = true)
    (k11 : PySem.W.keepIn K (.ref f11) = true)
    (a12 : PySem.W.findIn K (.ref CD) "sync_names" = some (some (.ref f12)))
    (i12 : PySem.W.isFn K (.ref f12) = true)
    (l12 : K.lookup f12 = some ⟨oc12, od12, .func (PySem.W.fnOf "sync_names" "Disk.sync_names" (defArgs s_Disk_sync_names) (defBody s_Disk_sync_names) (defScope s_Disk_sync_names) .none kV12 dc12 pm12 an12 cd12 ct12), sl12⟩)
    (c12 : PySem.W.codeIn K cd12 "Disk.sync_names" = true)
    (k12 : PySem.W.keepIn K (.ref f12) = true)
    (a13 : PySem.W.findIn K (.ref CD) "remove" = some (some (.ref f13)))
    (i13 : PySem.W.isFn K (.ref f13) = true)
    (l13 : K.lookup f13 = some ⟨oc13, od13, .func (PySem.W.fnOf "remove" "Disk.remove" (defArgs s_Disk_remove) (defBody s_Disk_remove) (defScope s_Disk_remove) .none kV13 dc13 pm13 an13 cd13 ct13), sl13⟩)
    (c13 : PySem.W.codeIn K cd13 "Disk.remove" = true)
    (k13 : PySem.W.keepIn K (.ref f13) = true)
    (a14 : PySem.W.findIn K (.ref CD) "cut" = some (some (.ref f14)))
    (i14 : PySem.W.isFn K (.ref f14) = true)
    (l14 : K.lookup f14 = some ⟨oc14, od14, .func (PySem.W.fnOf "cut" "Disk.cut" (defArgs s_Disk_cut) (defBody s_Disk_cut) (defScope s_Disk_cut) .none kV14 dc14 pm14 an14 cd14 ct14), sl14⟩)
    (c14 : PySem.W.codeIn K cd14 "Disk.cut" = true)
    (k14 : PySem.W.keepIn K (.ref f14) = true)
    (a15 : PySem.W.findIn K (.ref CD) "copy" = some (some (.ref f15)))
    (i15 : PySem.W.isFn K (.ref f15) = true)
    (l15 : K.lookup f15 = some ⟨oc15, od15, .func (PySem.W.fnOf "copy" "Disk.copy" (defArgs s_Disk_copy) (defBody s_Disk_copy) (defScope s_Disk_copy) .none kV15 dc15 pm15 an15 cd15 ct15), sl15⟩)
    (c15 : PySem.W.codeIn K cd15 "Disk.copy" = true)
    (k15 : PySem.W.keepIn K (.ref f15) = true)
    (l16 : K.lookup f16 = some ⟨oc16, od16, .func (PySem.W.fnOf "applied" "applied" (defArgs s_applied) (defBody s_applied) (defScope s_applied) .none kV16 dc16 pm16 an16 cd16 ct16), sl16⟩)
    (c16 : PySem.W.codeIn K cd16 "applied" = true)
    (k16 : PySem.W.keepIn K (.ref f16) = true)
    (l17 : K.lookup f17 = some ⟨oc17, od17, .func (PySem.W.fnOf "check_of" "check_of" (defArgs s_check_of) (defBody s_check_of) (defScope s_check_of) .none kV17 dc17 pm17 an17 cd17 ct17), sl17⟩)
    (c17 : PySem.W.codeIn K cd17 "check_of" = true)
    (k17 : PySem.W.keepIn K (.ref f17) = true)
    (l18 : K.lookup f18 = some ⟨oc18, od18, .func (PySem.W.fnOf "checked_text" "checked_text" (defArgs s_checked_text) (defBody s_checked_text) (defScope s_checked_text) .none kV18 dc18 pm18 an18 cd18 ct18), sl18⟩)
    (c18 : PySem.W.codeIn K cd18 "checked_text" = true)
    (k18 : PySem.W.keepIn K (.ref f18) = true)
    (l19 : K.lookup f19 = some ⟨oc19, od19, .func (PySem.W.fnOf "framed" "framed" (defArgs s_framed) (defBody s_framed) (defScope s_framed) .none kV19 dc19 pm19 an19 cd19 ct19), sl19⟩)
    (c19 : PySem.W.codeIn K cd19 "framed" = true)
    (k19 : PySem.W.keepIn K (.ref f19) = true)
    (l20 : K.lookup f20 = some ⟨oc20, od20, .func (PySem.W.fnOf "_number" "_number" (defArgs s__number) (defBody s__number) (defScope s__number) .none kV20 dc20 pm20 an20 cd20 ct20), sl20⟩)
    (c20 : PySem.W.codeIn K cd20 "_number" = true)
    (k20 : PySem.W.keepIn K (.ref f20) = true)
    (l21 : K.lookup f21 = some ⟨oc21, od21, .func (PySem.W.fnOf "one_frame" "one_frame" (defArgs s_one_frame) (defBody s_one_frame) (defScope s_one_frame) .none kV21 dc21 pm21 an21 cd21 ct21), sl21⟩)
    (c21 : PySem.W.codeIn K cd21 "one_frame" = true)
    (k21 : PySem.W.keepIn K (.ref f21) = true)
    (l22 : K.lookup f22 = some ⟨oc22, od22, .func (PySem.W.fnOf "read_frames" "read_frames" (defArgs s_read_frames) (defBody s_read_frames) (defScope s_read_frames) .none kV22 dc22 pm22 an22 cd22 ct22), sl22⟩)
    (c22 : PySem.W.codeIn K cd22 "read_frames" = true)
    (k22 : PySem.W.keepIn K (.ref f22) = true)
    (l23 : K.lookup f23 = some ⟨oc23, od23, .func (PySem.W.fnOf "part_name" "part_name" (defArgs s_part_name) (defBody s_part_name) (defScope s_part_name) .none kV23 dc23 pm23 an23 cd23 ct23), sl23⟩)
    (c23 : PySem.W.codeIn K cd23 "part_name" = true)
    (k23 : PySem.W.keepIn K (.ref f23) = true)
    (l24 : K.lookup f24 = some ⟨oc24, od24, .func (PySem.W.fnOf "part_names" "part_names" (defArgs s_part_names) (defBody s_part_names) (defScope s_part_names) .none kV24 dc24 pm24 an24 cd24 ct24), sl24⟩)
    (c24 : PySem.W.codeIn K cd24 "part_names" = true)
    (k24 : PySem.W.keepIn K (.ref f24) = true)
    (l25 : K.lookup f25 = some ⟨oc25, od25, .func (PySem.W.fnOf "is_part" "is_part" (defArgs s_is_part) (defBody s_is_part) (defScope s_is_part) .none kV25 dc25 pm25 an25 cd25 ct25), sl25⟩)
    (c25 : PySem.W.codeIn K cd25 "is_part" = true)
    (k25 : PySem.W.keepIn K (.ref f25) = true)
    (l26 : K.lookup f26 = some ⟨oc26, od26, .func (PySem.W.fnOf "first_of" "first_of" (defArgs s_first_of) (defBody s_first_of) (defScope s_first_of) .none kV26 dc26 pm26 an26 cd26 ct26), sl26⟩)
    (c26 : PySem.W.codeIn K cd26 "first_of" = true)
    (k26 : PySem.W.keepIn K (.ref f26) = true)
    (a27 : PySem.W.findIn K (.ref CL) "__init__" = some (some (.ref f27)))
    (i27 : PySem.W.isFn K (.ref f27) = true)
    (l27 : K.lookup f27 = some ⟨oc27, od27, .func (PySem.W.fnOf "__init__" "Log.__init__" (defArgs s_Log___init__) (defBody s_Log___init__) (defScope s_Log___init__) .none kV27 dc27 pm27 an27 cd27 ct27), sl27⟩)
    (c27 : PySem.W.codeIn K cd27 "Log.__init__" = true)
    (k27 : PySem.W.keepIn K (.ref f27) = true)
    (a28 : PySem.W.findIn K (.ref CL) "_begin" = some (some (.ref f28)))
    (i28 : PySem.W.isFn K (.ref f28) = true)
    (l28 : K.lookup f28 = some ⟨oc28, od28, .func (PySem.W.fnOf "_begin" "Log._begin" (defArgs s_Log__begin) (defBody s_Log__begin) (defScope s_Log__begin) .none kV28 dc28 pm28 an28 cd28 ct28), sl28⟩)
    (c28 : PySem.W.codeIn K cd28 "Log._begin" = true)
    (k28 : PySem.W.keepIn K (.ref f28) = true)
    (a29 : PySem.W.findIn K (.ref CL) "_found" = some (some (.ref f29)))
    (i29 : PySem.W.isFn K (.ref f29) = true)
    (l29 : K.lookup f29 = some ⟨oc29, od29, .func (PySem.W.fnOf "_found" "Log._found" (defArgs s_Log__found) (defBody s_Log__found) (defScope s_Log__found) .none kV29 dc29 pm29 an29 cd29 ct29), sl29⟩)
    (c29 : PySem.W.codeIn K cd29 "Log._found" = true)
    (k29 : PySem.W.keepIn K (.ref f29) = true)
    (a30 : PySem.W.findIn K (.ref CL) "first" = some (some (.ref f30)))
    (i30 : PySem.W.isFn K (.ref f30) = true)
    (l30 : K.lookup f30 = some ⟨oc30, od30, .func (PySem.W.fnOf "first" "Log.first" (defArgs s_Log_first) (defBody s_Log_first) (defScope s_Log_first) .none kV30 dc30 pm30 an30 cd30 ct30), sl30⟩)
    (c30 : PySem.W.codeIn K cd30 "Log.first" = true)
    (k30 : PySem.W.keepIn K (.ref f30) = true)
    (a31 : PySem.W.findIn K (.ref CL) "next" = some (some (.ref f31)))
    (i31 : PySem.W.isFn K (.ref f31) = true)
    (l31 : K.lookup f31 = some ⟨oc31, od31, .func (PySem.W.fnOf "next" "Log.next" (defArgs s_Log_next) (defBody s_Log_next) (defScope s_Log_next) .none kV31 dc31 pm31 an31 cd31 ct31), sl31⟩)
    (c31 : PySem.W.codeIn K cd31 "Log.next" = true)
    (k31 : PySem.W.keepIn K (.ref f31) = true)
    (a32 : PySem.W.findIn K (.ref CL) "add" = some (some (.ref f32)))
    (i32 : PySem.W.isFn K (.ref f32) = true)
    (l32 : K.lookup f32 = some ⟨oc32, od32, .func (PySem.W.fnOf "add" "Log.add" (defArgs s_Log_add) (defBody s_Log_add) (defScope s_Log_add) .none kV32 dc32 pm32 an32 cd32 ct32), sl32⟩)
    (c32 : PySem.W.codeIn K cd32 "Log.add" = true)
    (k32 : PySem.W.keepIn K (.ref f32) = true)
    (a33 : PySem.W.findIn K (.ref CL) "sync" = some (some (.ref f33)))
    (i33 : PySem.W.isFn K (.ref f33) = true)
    (l33 : K.lookup f33 = some ⟨oc33, od33, .func (PySem.W.fnOf "sync" "Log.sync" (defArgs s_Log_sync) (defBody s_Log_sync) (defScope s_Log_sync) .none kV33 dc33 pm33 an33 cd33 ct33), sl33⟩)
    (c33 : PySem.W.codeIn K cd33 "Log.sync" = true)
    (k33 : PySem.W.keepIn K (.ref f33) = true)
    (a34 : PySem.W.findIn K (.ref CL) "text" = some (some (.ref f34)))
    (i34 : PySem.W.isFn K (.ref f34) = true)
    (l34 : K.lookup f34 = some ⟨oc34, od34, .func (PySem.W.fnOf "text" "Log.text" (defArgs s_Log_text) (defBody s_Log_text) (defScope s_Log_text) .none kV34 dc34 pm34 an34 cd34 ct34), sl34⟩)
    (c34 : PySem.W.codeIn K cd34 "Log.text" = true)
    (k34 : PySem.W.keepIn K (.ref f34) = true)
    (a35 : PySem.W.findIn K (.ref CL) "texts" = some (some (.ref f35)))
    (i35 : PySem.W.isFn K (.ref f35) = true)
    (l35 : K.lookup f35 = some ⟨oc35, od35, .func (PySem.W.fnOf "texts" "Log.texts" (defArgs s_Log_texts) (defBody s_Log_texts) (defScope s_Log_texts) .none kV35 dc35 pm35 an35 cd35 ct35), sl35⟩)
    (c35 : PySem.W.codeIn K cd35 "Log.texts" = true)
    (k35 : PySem.W.keepIn K (.ref f35) = true)
    (a36 : PySem.W.findIn K (.ref CL) "parts" = some (some (.ref f36)))
    (i36 : PySem.W.isFn K (.ref f36) = true)
    (l36 : K.lookup f36 = some ⟨oc36, od36, .func (PySem.W.fnOf "parts" "Log.parts" (defArgs s_Log_parts) (defBody s_Log_parts) (defScope s_Log_parts) .none kV36 dc36 pm36 an36 cd36 ct36), sl36⟩)
    (c36 : PySem.W.codeIn K cd36 "Log.parts" = true)
    (k36 : PySem.W.keepIn K (.ref f36) = true)
    (l37 : K.lookup f37 = some ⟨oc37, od37, .func (PySem.W.fnOf "new_log" "new_log" (defArgs s_new_log) (defBody s_new_log) (defScope s_new_log) .none kV37 dc37 pm37 an37 cd37 ct37), sl37⟩)
    (c37 : PySem.W.codeIn K cd37 "new_log" = true)
    (k37 : PySem.W.keepIn K (.ref f37) = true)
    (l38 : K.lookup f38 = some ⟨oc38, od38, .func (PySem.W.fnOf "_law_same" "_law_same" (defArgs s__law_same) (defBody s__law_same) (defScope s__law_same) .none kV38 dc38 pm38 an38 cd38 ct38), sl38⟩)
    (c38 : PySem.W.codeIn K cd38 "_law_same" = true)
    (k38 : PySem.W.keepIn K (.ref f38) = true)
    (l39 : K.lookup f39 = some ⟨oc39, od39, .func (PySem.W.fnOf "_law_pool" "_law_pool" (defArgs s__law_pool) (defBody s__law_pool) (defScope s__law_pool) .none kV39 dc39 pm39 an39 cd39 ct39), sl39⟩)
    (c39 : PySem.W.codeIn K cd39 "_law_pool" = true)
    (k39 : PySem.W.keepIn K (.ref f39) = true)
    (l40 : K.lookup f40 = some ⟨oc40, od40, .func (PySem.W.fnOf "_law_draw" "_law_draw" (defArgs s__law_draw) (defBody s__law_draw) (defScope s__law_draw) .none kV40 dc40 pm40 an40 cd40 ct40), sl40⟩)
    (c40 : PySem.W.codeIn K cd40 "_law_draw" = true)
    (k40 : PySem.W.keepIn K (.ref f40) = true)
    (l41 : K.lookup f41 = some ⟨oc41, od41, .func (PySem.W.fnOf "_law_pick" "_law_pick" (defArgs s__law_pick) (defBody s__law_pick) (defScope s__law_pick) .none kV41 dc41 pm41 an41 cd41 ct41), sl41⟩)
    (c41 : PySem.W.codeIn K cd41 "_law_pick" = true)
    (k41 : PySem.W.keepIn K (.ref f41) = true)
    (l42 : K.lookup f42 = some ⟨oc42, od42, .func (PySem.W.fnOf "_law_refusal" "_law_refusal" (defArgs s__law_refusal) (defBody s__law_refusal) (defScope s__law_refusal) .none kV42 dc42 pm42 an42 cd42 ct42), sl42⟩)
    (c42 : PySem.W.codeIn K cd42 "_law_refusal" = true)
    (k42 : PySem.W.keepIn K (.ref f42) = true)
    (l43 : K.lookup f43 = some ⟨oc43, od43, .func (PySem.W.fnOf "_law_refused" "_law_refused" (defArgs s__law_refused) (defBody s__law_refused) (defScope s__law_refused) .none kV43 dc43 pm43 an43 cd43 ct43), sl43⟩)
    (c43 : PySem.W.codeIn K cd43 "_law_refused" = true)
    (k43 : PySem.W.keepIn K (.ref f43) = true)
    (l44 : K.lookup f44 = some ⟨oc44, od44, .func (PySem.W.fnOf "law" "law" (defArgs s_law) (defBody s_law) (defScope s_law) .none kV44 dc44 pm44 an44 cd44 ct44), sl44⟩)
    (c44 : PySem.W.codeIn K cd44 "law" = true)
    (k44 : PySem.W.keepIn K (.ref f44) = true)
    (pg_CD : PySem.W.plainGet K CD Str.empty = true)
    (hd_CD : PySem.W.hasDictIn K CD = true)
    (po_CD : PySem.W.plainOver K CD = true)
    (sa_CD : PySem.W.findIn K (.ref CD) "__setattr__" = some (some (.builtin "object.__setattr__")))
    (mk_CD : PySem.W.makesIn K CD = true)
    (kc_CD : PySem.W.keepIn K (.ref CD) = true)
    (n_CD_kept : PySem.W.findIn K (.ref CD) "_kept" = some none)
    (n_CD_late : PySem.W.findIn K (.ref CD) "_late" = some none)
    (n_CD_names : PySem.W.findIn K (.ref CD) "_names" = some none)
    (n_CD_sure : PySem.W.findIn K (.ref CD) "_sure" = some none)
    (n_CD_changes : PySem.W.findIn K (.ref CD) "_changes" = some none)
    (n_CD_next : PySem.W.findIn K (.ref CD) "_next" = some none)
    (pg_CL : PySem.W.plainGet K CL Str.empty = true)
    (hd_CL : PySem.W.hasDictIn K CL = true)
    (po_CL : PySem.W.plainOver K CL = true)
    (sa_CL : PySem.W.findIn K (.ref CL) "__setattr__" = some (some (.builtin "object.__setattr__")))
    (mk_CL : PySem.W.makesIn K CL = true)
    (kc_CL : PySem.W.keepIn K (.ref CL) = true)
    (n_CL_disk : PySem.W.findIn K (.ref CL) "_disk" = some none)
    (n_CL_most : PySem.W.findIn K (.ref CL) "_most" = some none)
    (n_CL_parts : PySem.W.findIn K (.ref CL) "_parts" = some none)
    (n_CL_sure : PySem.W.findIn K (.ref CL) "_sure" = some none)
    (bE : PySem.W.subIn K (.ref CE) (.type "BaseException") = some true)
    (tE : PySem.W.typeIn K (.ref CE) = some (.type "type"))
    (hE : PySem.W.hasDictIn K CE = true)
    (x_CP : PySem.W.excIn K CP [.type "ValueError", .type "Exception", .type "BaseException", .type "object"] "ValueError.__new__" = true)
    (k_CP : PySem.W.keepIn K (.ref CP) = true)
    (b_CP : PySem.W.subIn K (.ref CP) (.type "BaseException") = some true)
    (t_CP : PySem.W.typeIn K (.ref CP) = some (.type "type"))
    (sD_CP : PySem.W.subIn K (.ref CP) (.ref CE) = some true)
    (sV_CP : PySem.W.subIn K (.ref CP) (.type "ValueError") = some true)
    (eg_CP : PySem.W.findIn K (.ref CP) "__getattribute__" = some (some (.builtin "BaseException.__getattribute__")))
    (ek_CP : PySem.W.findIn K (.ref CP) "__getattr__" = some none)
    (ed_CP : PySem.W.hasDictIn K CP = true)
    (ea_CP : PySem.W.findIn K (.ref CP) "__class__" = some (some (.builtin "object.__class__")))
    (en_CP : PySem.W.specialIn K (.builtin "object.__class__") "__get__" = some (some (.builtin "getset_descriptor.__get__")))
    (et_CP : PySem.W.takesIn K (.builtin "object.__class__") = some true)
    (em_CP : PySem.W.mroIn K CP (.type "object") = some true)
    (x_CN : PySem.W.excIn K CN [.type "ValueError", .type "Exception", .type "BaseException", .type "object"] "ValueError.__new__" = true)
    (k_CN : PySem.W.keepIn K (.ref CN) = true)
    (b_CN : PySem.W.subIn K (.ref CN) (.type "BaseException") = some true)
    (t_CN : PySem.W.typeIn K (.ref CN) = some (.type "type"))
    (sD_CN : PySem.W.subIn K (.ref CN) (.ref CE) = some true)
    (sV_CN : PySem.W.subIn K (.ref CN) (.type "ValueError") = some true)
    (eg_CN : PySem.W.findIn K (.ref CN) "__getattribute__" = some (some (.builtin "BaseException.__getattribute__")))
    (ek_CN : PySem.W.findIn K (.ref CN) "__getattr__" = some none)
    (ed_CN : PySem.W.hasDictIn K CN = true)
    (ea_CN : PySem.W.findIn K (.ref CN) "__class__" = some (some (.builtin "object.__class__")))
    (en_CN : PySem.W.specialIn K (.builtin "object.__class__") "__get__" = some (some (.builtin "getset_descriptor.__get__")))
    (et_CN : PySem.W.takesIn K (.builtin "object.__class__") = some true)
    (em_CN : PySem.W.mroIn K CN (.type "object") = some true)
    (p_notNP : PySem.W.kitOne K (.ref CP) (.ref CN) = some false)
    (p_notPN : PySem.W.kitOne K (.ref CN) (.ref CP) = some false)
    : ∃ fd : FuncData, (∀ (s : Shared) (v : Value), BindsTo s fd ⟨[v], []⟩ [("script", v)]) ∧ ∀ base : Heap, K.In base → base.Ns mainGlobals mg → FnOk P w K mg base CX0 10 fa fd ["script"] (spLaw K) := by
  have e := hfa.symm.trans (PySem.W.mg_of X G a44)
  cases e
  have T : Blt mg := ⟨PySem.W.mg_none_of X G z_len, PySem.W.mg_none_of X G z_isinstance, PySem.W.mg_none_of X G z_str, PySem.W.mg_none_of X G z_int, PySem.W.mg_none_of X G z_list, PySem.W.mg_none_of X G z_tuple, PySem.W.mg_none_of X G z_bool, PySem.W.mg_none_of X G z_range, PySem.W.mg_none_of X G z_abs, PySem.W.mg_none_of X G z_ord, PySem.W.mg_none_of X G z_sorted, PySem.W.mg_none_of X G z_dict, PySem.W.mg_none_of X G z_ValueError⟩
  have F1 : FunD K "is_number" "is_number" (defArgs s_is_number) (defBody s_is_number) (defScope s_is_number) [.int 0, .int 1000000] [] f1 (PySem.W.fnOf "is_number" "is_number" (defArgs s_is_number) (defBody s_is_number) (defScope s_is_number) (.ref T1) kV1 dc1 pm1 an1 cd1 ct1) := ⟨⟨_, _, _, _, _, _, _, _, _, _, rfl, l1, c1, .inr ⟨by simp, _, _, [.int 0 t1_0, .int 1000000 t1_1], _, rfl, d1, rfl, .cons ⟨_, rfl⟩ (.cons ⟨_, rfl⟩ (.nil))⟩, .inl rfl⟩, k1⟩
  have b1 : Binds K (PySem.W.fnOf "is_number" "is_number" (defArgs s_is_number) (defBody s_is_number) (defScope s_is_number) (.ref T1) kV1 dc1 pm1 an1 cd1 ct1) ["value", "least", "most"] [] := by
    obtain ⟨ds, v, b⟩ := F1.binds1 (ps := ["value", "least", "most"]) 3 2 (by simp) rfl fun T kV doc pm an cdv ct us its hl hi => match us, its, hl, hi with | [_, _, _], [_, _], _, _ => ⟨_, rfl, rfl⟩
    cases v
    exact b
  have F2 : FunD K "checked_number" "checked_number" (defArgs s_checked_number) (defBody s_checked_number) (defScope s_checked_number) [.int 0, .int 1000000] [] f2 (PySem.W.fnOf "checked_number" "checked_number" (defArgs s_checked_number) (defBody s_checked_number) (defScope s_checked_number) (.ref T2) kV2 dc2 pm2 an2 cd2 ct2) := ⟨⟨_, _, _, _, _, _, _, _, _, _, rfl, l2, c2, .inr ⟨by simp, _, _, [.int 0 t2_0, .int 1000000 t2_1], _, rfl, d2, rfl, .cons ⟨_, rfl⟩ (.cons ⟨_, rfl⟩ (.nil))⟩, .inl rfl⟩, k2⟩
  have b2 : Binds K (PySem.W.fnOf "checked_number" "checked_number" (defArgs s_checked_number) (defBody s_checked_number) (defScope s_checked_number) (.ref T2) kV2 dc2 pm2 an2 cd2 ct2) ["value", "least", "most"] [] := by
    obtain ⟨ds, v, b⟩ := F2.binds1 (ps := ["value", "least", "most"]) 3 2 (by simp) rfl fun T kV doc pm an cdv ct us its hl hi => match us, its, hl, hi with | [_, _, _], [_, _], _, _ => ⟨_, rfl, rfl⟩
    cases v
    exact b
  have F3 := fun_mk (st := s_Disk___init__) l3 c3 k3
  have b3 := F3.binds (ps := ["self"]) fun _ _ _ _ _ _ us hl => match us, hl with | [_], _ => rfl
  have F4 := fun_mk (st := s_Disk_names) l4 c4 k4
  have b4 := F4.binds (ps := ["self"]) fun _ _ _ _ _ _ us hl => match us, hl with | [_], _ => rfl
  have F5 := fun_mk (st := s_Disk__file) l5 c5 k5
  have b5 := F5.binds (ps := ["self", "name"]) fun _ _ _ _ _ _ us hl => match us, hl with | [_, _], _ => rfl
  have F6 := fun_mk (st := s_Disk_read) l6 c6 k6
  have b6 := F6.binds (ps := ["self", "name"]) fun _ _ _ _ _ _ us hl => match us, hl with | [_, _], _ => rfl
  have F7 := fun_mk (st := s_Disk_size) l7 c7 k7
  have b7 := F7.binds (ps := ["self", "name"]) fun _ _ _ _ _ _ us hl => match us, hl with | [_, _], _ => rfl
  have F8 := fun_mk (st := s_Disk_make) l8 c8 k8
  have b8 := F8.binds (ps := ["self", "name"]) fun _ _ _ _ _ _ us hl => match us, hl with | [_, _], _ => rfl
  have F9 := fun_mk (st := s_Disk__change) l9 c9 k9
  have b9 := F9.binds (ps := ["self", "row"]) fun _ _ _ _ _ _ us hl => match us, hl with | [_, _], _ => rfl
  have F10 := fun_mk (st := s_Disk_write) l10 c10 k10
  have b10 := F10.binds (ps := ["self", "name", "text"]) fun _ _ _ _ _ _ us hl => match us, hl with | [_, _, _], _ => rfl
  have F11 := fun_mk (st := s_Disk_sync) l11 c11 k11
  have b11 := F11.binds (ps := ["self", "name"]) fun _ _ _ _ _ _ us hl => match us, hl with | [_, _], _ => rfl
  have F12 := fun_mk (st := s_Disk_sync_names) l12 c12 k12
  have b12 := F12.binds (ps := ["self"]) fun _ _ _ _ _ _ us hl => match us, hl with | [_], _ => rfl
  have F13 := fun_mk (st := s_Disk_remove) l13 c13 k13
  have b13 := F13.binds (ps := ["self", "name"]) fun _ _ _ _ _ _ us hl => match us, hl with | [_, _], _ => rfl
  have F14 := fun_mk (st := s_Disk_cut) l14 c14 k14
  have b14 := F14.binds (ps := ["self", "name", "size"]) fun _ _ _ _ _ _ us hl => match us, hl with | [_, _, _], _ => rfl
  have F15 := fun_mk (st := s_Disk_copy) l15 c15 k15
  have b15 := F15.binds (ps := ["self"]) fun _ _ _ _ _ _ us hl => match us, hl with | [_], _ => rfl
  have F16 := fun_mk (st := s_applied) l16 c16 k16
  have b16 := F16.binds (ps := ["names", "changes"]) fun _ _ _ _ _ _ us hl => match us, hl with | [_, _], _ => rfl
  have F17 := fun_mk (st := s_check_of) l17 c17 k17
  have b17 := F17.binds (ps := ["text"]) fun _ _ _ _ _ _ us hl => match us, hl with | [_], _ => rfl
  have F18 := fun_mk (st := s_checked_text) l18 c18 k18
  have b18 := F18.binds (ps := ["text"]) fun _ _ _ _ _ _ us hl => match us, hl with | [_], _ => rfl
  have F19 := fun_mk (st := s_framed) l19 c19 k19
  have b19 := F19.binds (ps := ["text"]) fun _ _ _ _ _ _ us hl => match us, hl with | [_], _ => rfl
  have F20 := fun_mk (st := s__number) l20 c20 k20
  have b20 := F20.binds (ps := ["text", "at"]) fun _ _ _ _ _ _ us hl => match us, hl with | [_, _], _ => rfl
  have F21 := fun_mk (st := s_one_frame) l21 c21 k21
  have b21 := F21.binds (ps := ["text", "at"]) fun _ _ _ _ _ _ us hl => match us, hl with | [_, _], _ => rfl
  have F22 := fun_mk (st := s_read_frames) l22 c22 k22
  have b22 := F22.binds (ps := ["text"]) fun _ _ _ _ _ _ us hl => match us, hl with | [_], _ => rfl
  have F23 := fun_mk (st := s_part_name) l23 c23 k23
  have b23 := F23.binds (ps := ["first"]) fun _ _ _ _ _ _ us hl => match us, hl with | [_], _ => rfl
  have F24 := fun_mk (st := s_part_names) l24 c24 k24
  have b24 := F24.binds (ps := ["disk"]) fun _ _ _ _ _ _ us hl => match us, hl with | [_], _ => rfl
  have F25 := fun_mk (st := s_is_part) l25 c25 k25
  have b25 := F25.binds (ps := ["name"]) fun _ _ _ _ _ _ us hl => match us, hl with | [_], _ => rfl
  have F26 := fun_mk (st := s_first_of) l26 c26 k26
  have b26 := F26.binds (ps := ["name"]) fun _ _ _ _ _ _ us hl => match us, hl with | [_], _ => rfl
  have F27 := fun_mk (st := s_Log___init__) l27 c27 k27
  have b27 := F27.binds (ps := ["self", "disk", "most"]) fun _ _ _ _ _ _ us hl => match us, hl with | [_, _, _], _ => rfl
  have F28 := fun_mk (st := s_Log__begin) l28 c28 k28
  have b28 := F28.binds (ps := ["self", "first"]) fun _ _ _ _ _ _ us hl => match us, hl with | [_, _], _ => rfl
  have F29 := fun_mk (st := s_Log__found) l29 c29 k29
  have b29 := F29.binds (ps := ["self"]) fun _ _ _ _ _ _ us hl => match us, hl with | [_], _ => rfl
  have F30 := fun_mk (st := s_Log_first) l30 c30 k30
  have b30 := F30.binds (ps := ["self"]) fun _ _ _ _ _ _ us hl => match us, hl with | [_], _ => rfl
  have F31 := fun_mk (st := s_Log_next) l31 c31 k31
  have b31 := F31.binds (ps := ["self"]) fun _ _ _ _ _ _ us hl => match us, hl with | [_], _ => rfl
  have F32 := fun_mk (st := s_Log_add) l32 c32 k32
  have b32 := F32.binds (ps := ["self", "text"]) fun _ _ _ _ _ _ us hl => match us, hl with | [_, _], _ => rfl
  have F33 := fun_mk (st := s_Log_sync) l33 c33 k33
  have b33 := F33.binds (ps := ["self"]) fun _ _ _ _ _ _ us hl => match us, hl with | [_], _ => rfl
  have F34 := fun_mk (st := s_Log_text) l34 c34 k34
  have b34 := F34.binds (ps := ["self", "number"]) fun _ _ _ _ _ _ us hl => match us, hl with | [_, _], _ => rfl
  have F35 := fun_mk (st := s_Log_texts) l35 c35 k35
  have b35 := F35.binds (ps := ["self", "start"]) fun _ _ _ _ _ _ us hl => match us, hl with | [_, _], _ => rfl
  have F36 := fun_mk (st := s_Log_parts) l36 c36 k36
  have b36 := F36.binds (ps := ["self"]) fun _ _ _ _ _ _ us hl => match us, hl with | [_], _ => rfl
  have F37 := fun_mk (st := s_new_log) l37 c37 k37
  have b37 := F37.binds (ps := ["most"]) fun _ _ _ _ _ _ us hl => match us, hl with | [_], _ => rfl
  have F38 := fun_mk (st := s__law_same) l38 c38 k38
  have b38 := F38.binds (ps := ["actual", "due"]) fun _ _ _ _ _ _ us hl => match us, hl with | [_, _], _ => rfl
  have F39 := fun_mk (st := s__law_pool) l39 c39 k39
  have b39 := F39.binds (ps := ["script"]) fun _ _ _ _ _ _ us hl => match us, hl with | [_], _ => rfl
  have F40 := fun_mk (st := s__law_draw) l40 c40 k40
  have b40 := F40.binds (ps := ["pool", "many"]) fun _ _ _ _ _ _ us hl => match us, hl with | [_, _], _ => rfl
  have F41 := fun_mk (st := s__law_pick) l41 c41 k41
  have b41 := F41.binds (ps := ["pool", "rows"]) fun _ _ _ _ _ _ us hl => match us, hl with | [_, _], _ => rfl
  have F42 := fun_mk (st := s__law_refusal) l42 c42 k42
  have b42 := F42.binds (ps := ["problem"]) fun _ _ _ _ _ _ us hl => match us, hl with | [_], _ => rfl
  have F43 := fun_mk (st := s__law_refused) l43 c43 k43
  have b43 := F43.binds (ps := ["choice", "one", "two"]) fun _ _ _ _ _ _ us hl => match us, hl with | [_, _, _], _ => rfl
  have F44 := fun_mk (st := s_law) l44 c44 k44
  have b44 := F44.binds (ps := ["script"]) fun _ _ _ _ _ _ us hl => match us, hl with | [_], _ => rfl
  have X_CP : ErrT K mg "InvalidPaper" CP := ⟨PySem.W.mg_of X G a_CP, x_CP, k_CP, b_CP, t_CP⟩
  have kV_CP : PySem.W.kitOne K (.ref CP) (.type "ValueError") = some true := by
    show (if (Value.ref CP == Value.type "ValueError") = true then some true else PySem.W.kitCls K (.ref CP) (.type "ValueError")) = some true
    rw [show (Value.ref CP == Value.type "ValueError") = false from rfl, if_neg Bool.false_ne_true]
    show (if PySem.W.kitMeta "ValueError" = true then PySem.W.subIn K (.ref CP) (.type "ValueError") else none) = some true
    rw [if_pos (show PySem.W.kitMeta "ValueError" = true by decide +kernel)]
    exact sV_CP
  have kC_CP : PySem.W.kitOne K (.ref CP) (.ref CP) = some true := if_pos (by simp)
  have Y_CP : CatchT K mg CE CP := ⟨PySem.W.mg_of X G aE, PySem.W.exm_ref bE hE tE sD_CP, ⟨eg_CP, ek_CP, b_CP, ed_CP, ea_CP, en_CP, et_CP, em_CP⟩, kC_CP, kV_CP, PySem.W.mg_none_of X G z_ValueError⟩
  have X_CN : ErrT K mg "InvalidNumber" CN := ⟨PySem.W.mg_of X G a_CN, x_CN, k_CN, b_CN, t_CN⟩
  have kV_CN : PySem.W.kitOne K (.ref CN) (.type "ValueError") = some true := by
    show (if (Value.ref CN == Value.type "ValueError") = true then some true else PySem.W.kitCls K (.ref CN) (.type "ValueError")) = some true
    rw [show (Value.ref CN == Value.type "ValueError") = false from rfl, if_neg Bool.false_ne_true]
    show (if PySem.W.kitMeta "ValueError" = true then PySem.W.subIn K (.ref CN) (.type "ValueError") else none) = some true
    rw [if_pos (show PySem.W.kitMeta "ValueError" = true by decide +kernel)]
    exact sV_CN
  have kC_CN : PySem.W.kitOne K (.ref CN) (.ref CN) = some true := if_pos (by simp)
  have Y_CN : CatchT K mg CE CN := ⟨PySem.W.mg_of X G aE, PySem.W.exm_ref bE hE tE sD_CN, ⟨eg_CN, ek_CN, b_CN, ed_CN, ea_CN, en_CN, et_CN, em_CN⟩, kC_CN, kV_CN, PySem.W.mg_none_of X G z_ValueError⟩
  let M : Nms K mg := { T := T, a_is_number := f1, d_is_number := PySem.W.fnOf "is_number" "is_number" (defArgs s_is_number) (defBody s_is_number) (defScope s_is_number) (.ref T1) kV1 dc1 pm1 an1 cd1 ct1, b_is_number := b1, k_is_number := k1, F_is_number := ⟨_, F1⟩, g_is_number := PySem.W.mg_of X G a1, a_checked_number := f2, d_checked_number := PySem.W.fnOf "checked_number" "checked_number" (defArgs s_checked_number) (defBody s_checked_number) (defScope s_checked_number) (.ref T2) kV2 dc2 pm2 an2 cd2 ct2, b_checked_number := b2, k_checked_number := k2, F_checked_number := ⟨_, F2⟩, g_checked_number := PySem.W.mg_of X G a2, a_Disk___init__ := f3, d_Disk___init__ := PySem.W.fnOf "__init__" "Disk.__init__" (defArgs s_Disk___init__) (defBody s_Disk___init__) (defScope s_Disk___init__) .none kV3 dc3 pm3 an3 cd3 ct3, b_Disk___init__ := b3, k_Disk___init__ := k3, F_Disk___init__ := F3, a_Disk_names := f4, d_Disk_names := PySem.W.fnOf "names" "Disk.names" (defArgs s_Disk_names) (defBody s_Disk_names) (defScope s_Disk_names) .none kV4 dc4 pm4 an4 cd4 ct4, b_Disk_names := b4, k_Disk_names := k4, F_Disk_names := F4, a_Disk__file := f5, d_Disk__file := PySem.W.fnOf "_file" "Disk._file" (defArgs s_Disk__file) (defBody s_Disk__file) (defScope s_Disk__file) .none kV5 dc5 pm5 an5 cd5 ct5, b_Disk__file := b5, k_Disk__file := k5, F_Disk__file := F5, a_Disk_read := f6, d_Disk_read := PySem.W.fnOf "read" "Disk.read" (defArgs s_Disk_read) (defBody s_Disk_read) (defScope s_Disk_read) .none kV6 dc6 pm6 an6 cd6 ct6, b_Disk_read := b6, k_Disk_read := k6, F_Disk_read := F6, a_Disk_size := f7, d_Disk_size := PySem.W.fnOf "size" "Disk.size" (defArgs s_Disk_size) (defBody s_Disk_size) (defScope s_Disk_size) .none kV7 dc7 pm7 an7 cd7 ct7, b_Disk_size := b7, k_Disk_size := k7, F_Disk_size := F7, a_Disk_make := f8, d_Disk_make := PySem.W.fnOf "make" "Disk.make" (defArgs s_Disk_make) (defBody s_Disk_make) (defScope s_Disk_make) .none kV8 dc8 pm8 an8 cd8 ct8, b_Disk_make := b8, k_Disk_make := k8, F_Disk_make := F8, a_Disk__change := f9, d_Disk__change := PySem.W.fnOf "_change" "Disk._change" (defArgs s_Disk__change) (defBody s_Disk__change) (defScope s_Disk__change) .none kV9 dc9 pm9 an9 cd9 ct9, b_Disk__change := b9, k_Disk__change := k9, F_Disk__change := F9, a_Disk_write := f10, d_Disk_write := PySem.W.fnOf "write" "Disk.write" (defArgs s_Disk_write) (defBody s_Disk_write) (defScope s_Disk_write) .none kV10 dc10 pm10 an10 cd10 ct10, b_Disk_write := b10, k_Disk_write := k10, F_Disk_write := F10, a_Disk_sync := f11, d_Disk_sync := PySem.W.fnOf "sync" "Disk.sync" (defArgs s_Disk_sync) (defBody s_Disk_sync) (defScope s_Disk_sync) .none kV11 dc11 pm11 an11 cd11 ct11, b_Disk_sync := b11, k_Disk_sync := k11, F_Disk_sync := F11, a_Disk_sync_names := f12, d_Disk_sync_names := PySem.W.fnOf "sync_names" "Disk.sync_names" (defArgs s_Disk_sync_names) (defBody s_Disk_sync_names) (defScope s_Disk_sync_names) .none kV12 dc12 pm12 an12 cd12 ct12, b_Disk_sync_names := b12, k_Disk_sync_names := k12, F_Disk_sync_names := F12, a_Disk_remove := f13, d_Disk_remove := PySem.W.fnOf "remove" "Disk.remove" (defArgs s_Disk_remove) (defBody s_Disk_remove) (defScope s_Disk_remove) .none kV13 dc13 pm13 an13 cd13 ct13, b_Disk_remove := b13, k_Disk_remove := k13, F_Disk_remove := F13, a_Disk_cut := f14, d_Disk_cut := PySem.W.fnOf "cut" "Disk.cut" (defArgs s_Disk_cut) (defBody s_Disk_cut) (defScope s_Disk_cut) .none kV14 dc14 pm14 an14 cd14 ct14, b_Disk_cut := b14, k_Disk_cut := k14, F_Disk_cut := F14, a_Disk_copy := f15, d_Disk_copy := PySem.W.fnOf "copy" "Disk.copy" (defArgs s_Disk_copy) (defBody s_Disk_copy) (defScope s_Disk_copy) .none kV15 dc15 pm15 an15 cd15 ct15, b_Disk_copy := b15, k_Disk_copy := k15, F_Disk_copy := F15, a_applied := f16, d_applied := PySem.W.fnOf "applied" "applied" (defArgs s_applied) (defBody s_applied) (defScope s_applied) .none kV16 dc16 pm16 an16 cd16 ct16, b_applied := b16, k_applied := k16, F_applied := F16, g_applied := PySem.W.mg_of X G a16, a_check_of := f17, d_check_of := PySem.W.fnOf "check_of" "check_of" (defArgs s_check_of) (defBody s_check_of) (defScope s_check_of) .none kV17 dc17 pm17 an17 cd17 ct17, b_check_of := b17, k_check_of := k17, F_check_of := F17, g_check_of := PySem.W.mg_of X G a17, a_checked_text := f18, d_checked_text := PySem.W.fnOf "checked_text" "checked_text" (defArgs s_checked_text) (defBody s_checked_text) (defScope s_checked_text) .none kV18 dc18 pm18 an18 cd18 ct18, b_checked_text := b18, k_checked_text := k18, F_checked_text := F18, g_checked_text := PySem.W.mg_of X G a18, a_framed := f19, d_framed := PySem.W.fnOf "framed" "framed" (defArgs s_framed) (defBody s_framed) (defScope s_framed) .none kV19 dc19 pm19 an19 cd19 ct19, b_framed := b19, k_framed := k19, F_framed := F19, g_framed := PySem.W.mg_of X G a19, a__number := f20, d__number := PySem.W.fnOf "_number" "_number" (defArgs s__number) (defBody s__number) (defScope s__number) .none kV20 dc20 pm20 an20 cd20 ct20, b__number := b20, k__number := k20, F__number := F20, g__number := PySem.W.mg_of X G a20, a_one_frame := f21, d_one_frame := PySem.W.fnOf "one_frame" "one_frame" (defArgs s_one_frame) (defBody s_one_frame) (defScope s_one_frame) .none kV21 dc21 pm21 an21 cd21 ct21, b_one_frame := b21, k_one_frame := k21, F_one_frame := F21, g_one_frame := PySem.W.mg_of X G a21, a_read_frames := f22, d_read_frames := PySem.W.fnOf "read_frames" "read_frames" (defArgs s_read_frames) (defBody s_read_frames) (defScope s_read_frames) .none kV22 dc22 pm22 an22 cd22 ct22, b_read_frames := b22, k_read_frames := k22, F_read_frames := F22, g_read_frames := PySem.W.mg_of X G a22, a_part_name := f23, d_part_name := PySem.W.fnOf "part_name" "part_name" (defArgs s_part_name) (defBody s_part_name) (defScope s_part_name) .none kV23 dc23 pm23 an23 cd23 ct23, b_part_name := b23, k_part_name := k23, F_part_name := F23, g_part_name := PySem.W.mg_of X G a23, a_part_names := f24, d_part_names := PySem.W.fnOf "part_names" "part_names" (defArgs s_part_names) (defBody s_part_names) (defScope s_part_names) .none kV24 dc24 pm24 an24 cd24 ct24, b_part_names := b24, k_part_names := k24, F_part_names := F24, g_part_names := PySem.W.mg_of X G a24, a_is_part := f25, d_is_part := PySem.W.fnOf "is_part" "is_part" (defArgs s_is_part) (defBody s_is_part) (defScope s_is_part) .none kV25 dc25 pm25 an25 cd25 ct25, b_is_part := b25, k_is_part := k25, F_is_part := F25, g_is_part := PySem.W.mg_of X G a25, a_first_of := f26, d_first_of := PySem.W.fnOf "first_of" "first_of" (defArgs s_first_of) (defBody s_first_of) (defScope s_first_of) .none kV26 dc26 pm26 an26 cd26 ct26, b_first_of := b26, k_first_of := k26, F_first_of := F26, g_first_of := PySem.W.mg_of X G a26, a_Log___init__ := f27, d_Log___init__ := PySem.W.fnOf "__init__" "Log.__init__" (defArgs s_Log___init__) (defBody s_Log___init__) (defScope s_Log___init__) .none kV27 dc27 pm27 an27 cd27 ct27, b_Log___init__ := b27, k_Log___init__ := k27, F_Log___init__ := F27, a_Log__begin := f28, d_Log__begin := PySem.W.fnOf "_begin" "Log._begin" (defArgs s_Log__begin) (defBody s_Log__begin) (defScope s_Log__begin) .none kV28 dc28 pm28 an28 cd28 ct28, b_Log__begin := b28, k_Log__begin := k28, F_Log__begin := F28, a_Log__found := f29, d_Log__found := PySem.W.fnOf "_found" "Log._found" (defArgs s_Log__found) (defBody s_Log__found) (defScope s_Log__found) .none kV29 dc29 pm29 an29 cd29 ct29, b_Log__found := b29, k_Log__found := k29, F_Log__found := F29, a_Log_first := f30, d_Log_first := PySem.W.fnOf "first" "Log.first" (defArgs s_Log_first) (defBody s_Log_first) (defScope s_Log_first) .none kV30 dc30 pm30 an30 cd30 ct30, b_Log_first := b30, k_Log_first := k30, F_Log_first := F30, a_Log_next := f31, d_Log_next := PySem.W.fnOf "next" "Log.next" (defArgs s_Log_next) (defBody s_Log_next) (defScope s_Log_next) .none kV31 dc31 pm31 an31 cd31 ct31, b_Log_next := b31, k_Log_next := k31, F_Log_next := F31, a_Log_add := f32, d_Log_add := PySem.W.fnOf "add" "Log.add" (defArgs s_Log_add) (defBody s_Log_add) (defScope s_Log_add) .none kV32 dc32 pm32 an32 cd32 ct32, b_Log_add := b32, k_Log_add := k32, F_Log_add := F32, a_Log_sync := f33, d_Log_sync := PySem.W.fnOf "sync" "Log.sync" (defArgs s_Log_sync) (defBody s_Log_sync) (defScope s_Log_sync) .none kV33 dc33 pm33 an33 cd33 ct33, b_Log_sync := b33, k_Log_sync := k33, F_Log_sync := F33, a_Log_text := f34, d_Log_text := PySem.W.fnOf "text" "Log.text" (defArgs s_Log_text) (defBody s_Log_text) (defScope s_Log_text) .none kV34 dc34 pm34 an34 cd34 ct34, b_Log_text := b34, k_Log_text := k34, F_Log_text := F34, a_Log_texts := f35, d_Log_texts := PySem.W.fnOf "texts" "Log.texts" (defArgs s_Log_texts) (defBody s_Log_texts) (defScope s_Log_texts) .none kV35 dc35 pm35 an35 cd35 ct35, b_Log_texts := b35, k_Log_texts := k35, F_Log_texts := F35, a_Log_parts := f36, d_Log_parts := PySem.W.fnOf "parts" "Log.parts" (defArgs s_Log_parts) (defBody s_Log_parts) (defScope s_Log_parts) .none kV36 dc36 pm36 an36 cd36 ct36, b_Log_parts := b36, k_Log_parts := k36, F_Log_parts := F36, a_new_log := f37, d_new_log := PySem.W.fnOf "new_log" "new_log" (defArgs s_new_log) (defBody s_new_log) (defScope s_new_log) .none kV37 dc37 pm37 an37 cd37 ct37, b_new_log := b37, k_new_log := k37, F_new_log := F37, g_new_log := PySem.W.mg_of X G a37, a__law_same := f38, d__law_same := PySem.W.fnOf "_law_same" "_law_same" (defArgs s__law_same) (defBody s__law_same) (defScope s__law_same) .none kV38 dc38 pm38 an38 cd38 ct38, b__law_same := b38, k__law_same := k38, F__law_same := F38, g__law_same := PySem.W.mg_of X G a38, a__law_pool := f39, d__law_pool := PySem.W.fnOf "_law_pool" "_law_pool" (defArgs s__law_pool) (defBody s__law_pool) (defScope s__law_pool) .none kV39 dc39 pm39 an39 cd39 ct39, b__law_pool := b39, k__law_pool := k39, F__law_pool := F39, g__law_pool := PySem.W.mg_of X G a39, a__law_draw := f40, d__law_draw := PySem.W.fnOf "_law_draw" "_law_draw" (defArgs s__law_draw) (defBody s__law_draw) (defScope s__law_draw) .none kV40 dc40 pm40 an40 cd40 ct40, b__law_draw := b40, k__law_draw := k40, F__law_draw := F40, g__law_draw := PySem.W.mg_of X G a40, a__law_pick := f41, d__law_pick := PySem.W.fnOf "_law_pick" "_law_pick" (defArgs s__law_pick) (defBody s__law_pick) (defScope s__law_pick) .none kV41 dc41 pm41 an41 cd41 ct41, b__law_pick := b41, k__law_pick := k41, F__law_pick := F41, g__law_pick := PySem.W.mg_of X G a41, a__law_refusal := f42, d__law_refusal := PySem.W.fnOf "_law_refusal" "_law_refusal" (defArgs s__law_refusal) (defBody s__law_refusal) (defScope s__law_refusal) .none kV42 dc42 pm42 an42 cd42 ct42, b__law_refusal := b42, k__law_refusal := k42, F__law_refusal := F42, g__law_refusal := PySem.W.mg_of X G a42, a__law_refused := f43, d__law_refused := PySem.W.fnOf "_law_refused" "_law_refused" (defArgs s__law_refused) (defBody s__law_refused) (defScope s__law_refused) .none kV43 dc43 pm43 an43 cd43 ct43, b__law_refused := b43, k__law_refused := k43, F__law_refused := F43, g__law_refused := PySem.W.mg_of X G a43, a_law := fa, d_law := PySem.W.fnOf "law" "law" (defArgs s_law) (defBody s_law) (defScope s_law) .none kV44 dc44 pm44 an44 cd44 ct44, b_law := b44, k_law := k44, F_law := F44, g_law := PySem.W.mg_of X G a44, CD := CD, gD := PySem.W.mg_of X G g_CD, clD := ⟨pg_CD, hd_CD, po_CD, sa_CD⟩, mkD := ⟨mk_CD, a3, i3, kc_CD⟩, nD_kept := n_CD_kept, nD_late := n_CD_late, nD_names := n_CD_names, nD_sure := n_CD_sure, nD_changes := n_CD_changes, nD_next := n_CD_next, m_Disk_names := ⟨a4, i4, k4⟩, m_Disk__file := ⟨a5, i5, k5⟩, m_Disk_read := ⟨a6, i6, k6⟩, m_Disk_size := ⟨a7, i7, k7⟩, m_Disk_make := ⟨a8, i8, k8⟩, m_Disk__change := ⟨a9, i9, k9⟩, m_Disk_write := ⟨a10, i10, k10⟩, m_Disk_sync := ⟨a11, i11, k11⟩, m_Disk_sync_names := ⟨a12, i12, k12⟩, m_Disk_remove := ⟨a13, i13, k13⟩, m_Disk_cut := ⟨a14, i14, k14⟩, m_Disk_copy := ⟨a15, i15, k15⟩, CL := CL, gL := PySem.W.mg_of X G g_CL, clL := ⟨pg_CL, hd_CL, po_CL, sa_CL⟩, mkL := ⟨mk_CL, a27, i27, kc_CL⟩, nL_disk := n_CL_disk, nL_most := n_CL_most, nL_parts := n_CL_parts, nL_sure := n_CL_sure, m_Log__begin := ⟨a28, i28, k28⟩, m_Log__found := ⟨a29, i29, k29⟩, m_Log_first := ⟨a30, i30, k30⟩, m_Log_next := ⟨a31, i31, k31⟩, m_Log_add := ⟨a32, i32, k32⟩, m_Log_sync := ⟨a33, i33, k33⟩, m_Log_text := ⟨a34, i34, k34⟩, m_Log_texts := ⟨a35, i35, k35⟩, m_Log_parts := ⟨a36, i36, k36⟩, CE := CE, CP := CP, XP := X_CP, YP := Y_CP, CN := CN, XN := X_CN, YN := Y_CN, notNP := p_notNP, notPN := p_notPN, cGREAT := ⟨_, PySem.W.mg_of X G n_GREAT⟩, cSTEP := ⟨_, PySem.W.mg_of X G n_STEP⟩, cMF := ⟨_, PySem.W.mg_of X G n_MOST_frames⟩, cML := ⟨_, PySem.W.mg_of X G n_MOST_logs⟩, cFEW := ⟨_, PySem.W.mg_of X G n_FEWEST⟩, cSP := ⟨_, PySem.W.mg_of X G n_SPOILT⟩ }
  exact ⟨M.d_law, fun s v => .of_eq rfl, fun base _ _ => ok_law M⟩
theorem walk {l : PySem.W.OpenLaw} {q : Program} {loose : List Str} {XP : (Str → Option Value) → Heap → Prop} {YP : World → Heap → Prop} {d : DefRec} {K : Params → PySem.W.Frag} (hn : l.most = some 63) (hdf : d.params.defaults = [])
    (hY : ∀ (w : World) (h : Heap), YP w h → (K w.params).In h)
    (F : ∀ (w : World) (mg : Str → Option Value) (fa : Addr) (h : Heap), (K w.params).In h → h.Ns mainGlobals mg → mg d.name = some (.ref fa) →
      ∃ fd : FuncData, (∀ (s : Shared) (u : Value), BindsTo s fd ⟨[u], []⟩ [("script", u)]) ∧ ∀ base : Heap, (K w.params).In base → base.Ns mainGlobals mg → FnOk l.prog w (K w.params) mg base CX0 10 fa fd ["script"] (spLaw (K w.params))) :
    PySem.W.WalkO q loose XP YP l.row.toRowW d [] (fun f vs => PySem.call f vs) :=
  L2.walk_of (n := 63) (k := 10) (x := "script") (CX := fun _ => CX0) (sp := fun w => spLaw (K w.params)) hn (by decide) hdf ⟨rfl, by decide, by decide⟩ hY F (fun _ _ a ns hl _ hS => ⟨a, ns, rfl, hS, hl, fun _ => rfl⟩) fun _ _ _ _ _ z => z
end K53


open PySem PySem.W PyProof.Rows in
set_option maxRecDepth 100000 in
set_option maxHeartbeats 0 in
theorem PySem.Challenge.cw_desksagree_k53_parts_of_logs_holds : PySem.Challenge.rw_desksagree_k53_parts_of_logs.Holds := by
  w_on; o_law; k_head; (case hw => w_witness2)
  k_fill
  refine K53.walk (l := PySem.Challenge.rw_desksagree_k53_parts_of_logs) rfl rfl (fun w h Y => PySem.W.kIn_of Y) ?F
  case F =>
    intro w mg fa h KX G hmg
    refine' K53.all_mk KX G hmg ?a1 ?a2 ?a16 ?a17 ?a18 ?a19 ?a20 ?a21 ?a22 ?a23 ?a24 ?a25 ?a26 ?a37 ?a38 ?a39 ?a40 ?a41 ?a42 ?a43 ?a44 ?g_CD ?g_CL ?aE ?a_CP ?a_CN ?z_len ?z_isinstance ?z_str ?z_int ?z_list ?z_tuple ?z_bool ?z_range ?z_abs ?z_ord ?z_sorted ?z_dict ?z_ValueError ?n_GREAT ?n_STEP ?n_MOST_frames ?n_MOST_logs ?n_FEWEST ?n_SPOILT ?l1 ?c1 ?k1 ?d1 ?l2 ?c2 ?k2 ?d2 ?a3 ?i3 ?l3 ?c3 ?k3 ?a4 ?i4 ?l4 ?c4 ?k4 ?a5 ?i5 ?l5 ?c5 ?k5 ?a6 ?i6 ?l6 ?c6 ?k6 ?a7 ?i7 ?l7 ?c7 ?k7 ?a8 ?i8 ?l8 ?c8 ?k8 ?a9 ?i9 ?l9 ?c9 ?k9 ?a10 ?i10 ?l10 ?c10 ?k10 ?a11 ?i11 ?l11 ?c11 ?k11 ?a12 ?i12 ?l12 ?c12 ?k12 ?a13 ?i13 ?l13 ?c13 ?k13 ?a14 ?i14 ?l14 ?c14 ?k14 ?a15 ?i15 ?l15 ?c15 ?k15 ?l16 ?c16 ?k16 ?l17 ?c17 ?k17 ?l18 ?c18 ?k18 ?l19 ?c19 ?k19 ?l20 ?c20 ?k20 ?l21 ?c21 ?k21 ?l22 ?c22 ?k22 ?l23 ?c23 ?k23 ?l24 ?c24 ?k24 ?l25 ?c25 ?k25 ?l26 ?c26 ?k26 ?a27 ?i27 ?l27 ?c27 ?k27 ?a28 ?i28 ?l28 ?c28 ?k28 ?a29 ?i29 ?l29 ?c29 ?k29 ?a30 ?i30 ?l30 ?c30 ?k30 ?a31 ?i31 ?l31 ?c31 ?k31 ?a32 ?i32 ?l32 ?c32 ?k32 ?a33 ?i33 ?l33 ?c33 ?k33 ?a34 ?i34 ?l34 ?c34 ?k34 ?a35 ?i35 ?l35 ?c35 ?k35 ?a36 ?i36 ?l36 ?c36 ?k36 ?l37 ?c37 ?k37 ?l38 ?c38 ?k38 ?l39 ?c39 ?k39 ?l40 ?c40 ?k40 ?l41 ?c41 ?k41 ?l42 ?c42 ?k42 ?l43 ?c43 ?k43 ?l44 ?c44 ?k44 ?pg_CD ?hd_CD ?po_CD ?sa_CD ?mk_CD ?kc_CD ?n_CD_kept ?n_CD_late ?n_CD_names ?n_CD_sure ?n_CD_changes ?n_CD_next ?pg_CL ?hd_CL ?po_CL ?sa_CL ?mk_CL ?kc_CL ?n_CL_disk ?n_CL_most ?n_CL_parts ?n_CL_sure ?bE ?tE ?hE ?x_CP ?k_CP ?b_CP ?t_CP ?sD_CP ?sV_CP ?eg_CP ?ek_CP ?ed_CP ?ea_CP ?en_CP ?et_CP ?em_CP ?x_CN ?k_CN ?b_CN ?t_CN ?sD_CN ?sV_CN ?eg_CN ?ek_CN ?ed_CN ?ea_CN ?en_CN ?et_CN ?em_CN ?p_notNP ?p_notPN
    (case a1 => k_is)
    (case a2 => k_is)
    (case a16 => k_is)
    (case a17 => k_is)
    (case a18 => k_is)
    (case a19 => k_is)
    (case a20 => k_is)
    (case a21 => k_is)
    (case a22 => k_is)
    (case a23 => k_is)
    (case a24 => k_is)
    (case a25 => k_is)
    (case a26 => k_is)
    (case a37 => k_is)
    (case a38 => k_is)
    (case a39 => k_is)
    (case a40 => k_is)
    (case a41 => k_is)
    (case a42 => k_is)
    (case a43 => k_is)
    (case a44 => k_is)
    (case g_CD => k_is)
    (case g_CL => k_is)
    (case aE => k_is)
    (case a_CP => k_is)
    (case a_CN => k_is)
    (case z_len => k_is)
    (case z_isinstance => k_is)
    (case z_str => k_is)
    (case z_int => k_is)
    (case z_list => k_is)
    (case z_tuple => k_is)
    (case z_bool => k_is)
    (case z_range => k_is)
    (case z_abs => k_is)
    (case z_ord => k_is)
    (case z_sorted => k_is)
    (case z_dict => k_is)
    (case z_ValueError => k_is)
    (case n_GREAT => k_is)
    (case n_STEP => k_is)
    (case n_MOST_frames => k_is)
    (case n_MOST_logs => k_is)
    (case n_FEWEST => k_is)
    (case n_SPOILT => k_is)
    (case l1 => k_is)
    (case c1 => k_is)
    (case k1 => k_is)
    (case d1 => k_is)
    (case l2 => k_is)
    (case c2 => k_is)
    (case k2 => k_is)
    (case d2 => k_is)
    (case a3 => k_is)
    (case i3 => k_is)
    (case l3 => k_is)
    (case c3 => k_is)
    (case k3 => k_is)
    (case a4 => k_is)
    (case i4 => k_is)
    (case l4 => k_is)
    (case c4 => k_is)
    (case k4 => k_is)
    (case a5 => k_is)
    (case i5 => k_is)
    (case l5 => k_is)
    (case c5 => k_is)
    (case k5 => k_is)
    (case a6 => k_is)
    (case i6 => k_is)
    (case l6 => k_is)
    (case c6 => k_is)
    (case k6 => k_is)
    (case a7 => k_is)
    (case i7 => k_is)
    (case l7 => k_is)
    (case c7 => k_is)
    (case k7 => k_is)
    (case a8 => k_is)
    (case i8 => k_is)
    (case l8 => k_is)
    (case c8 => k_is)
    (case k8 => k_is)
    (case a9 => k_is)
    (case i9 => k_is)
    (case l9 => k_is)
    (case c9 => k_is)
    (case k9 => k_is)
    (case a10 => k_is)
    (case i10 => k_is)
    (case l10 => k_is)
    (case c10 => k_is)
    (case k10 => k_is)
    (case a11 => k_is)
    (case i11 => k_is)
    (case l11 => k_is)
    (case c11 => k_is)
    (case k11 => k_is)
    (case a12 => k_is)
    (case i12 => k_is)
    (case l12 => k_is)
    (case c12 => k_is)
    (case k12 => k_is)
    (case a13 => k_is)
    (case i13 => k_is)
    (case l13 => k_is)
    (case c13 => k_is)
    (case k13 => k_is)
    (case a14 => k_is)
    (case i14 => k_is)
    (case l14 => k_is)
    (case c14 => k_is)
    (case k14 => k_is)
    (case a15 => k_is)
    (case i15 => k_is)
    (case l15 => k_is)
    (case c15 => k_is)
    (case k15 => k_is)
    (case l16 => k_is)
    (case c16 => k_is)
    (case k16 => k_is)
    (case l17 => k_is)
    (case c17 => k_is)
    (case k17 => k_is)
    (case l18 => k_is)
    (case c18 => k_is)
    (case k18 => k_is)
    (case l19 => k_is)
    (case c19 => k_is)
    (case k19 => k_is)
    (case l20 => k_is)
    (case c20 => k_is)
    (case k20 => k_is)
    (case l21 => k_is)
    (case c21 => k_is)
    (case k21 => k_is)
    (case l22 => k_is)
    (case c22 => k_is)
    (case k22 => k_is)
    (case l23 => k_is)
    (case c23 => k_is)
    (case k23 => k_is)
    (case l24 => k_is)
    (case c24 => k_is)
    (case k24 => k_is)
    (case l25 => k_is)
    (case c25 => k_is)
    (case k25 => k_is)
    (case l26 => k_is)
    (case c26 => k_is)
    (case k26 => k_is)
    (case a27 => k_is)
    (case i27 => k_is)
    (case l27 => k_is)
    (case c27 => k_is)
    (case k27 => k_is)
    (case a28 => k_is)
    (case i28 => k_is)
    (case l28 => k_is)
    (case c28 => k_is)
    (case k28 => k_is)
    (case a29 => k_is)
    (case i29 => k_is)
    (case l29 => k_is)
    (case c29 => k_is)
    (case k29 => k_is)
    (case a30 => k_is)
    (case i30 => k_is)
    (case l30 => k_is)
    (case c30 => k_is)
    (case k30 => k_is)
    (case a31 => k_is)
    (case i31 => k_is)
    (case l31 => k_is)
    (case c31 => k_is)
    (case k31 => k_is)
    (case a32 => k_is)
    (case i32 => k_is)
    (case l32 => k_is)
    (case c32 => k_is)
    (case k32 => k_is)
    (case a33 => k_is)
    (case i33 => k_is)
    (case l33 => k_is)
    (case c33 => k_is)
    (case k33 => k_is)
    (case a34 => k_is)
    (case i34 => k_is)
    (case l34 => k_is)
    (case c34 => k_is)
    (case k34 => k_is)
    (case a35 => k_is)
    (case i35 => k_is)
    (case l35 => k_is)
    (case c35 => k_is)
    (case k35 => k_is)
    (case a36 => k_is)
    (case i36 => k_is)
    (case l36 => k_is)
    (case c36 => k_is)
    (case k36 => k_is)
    (case l37 => k_is)
    (case c37 => k_is)
    (case k37 => k_is)
    (case l38 => k_is)
    (case c38 => k_is)
    (case k38 => k_is)
    (case l39 => k_is)
    (case c39 => k_is)
    (case k39 => k_is)
    (case l40 => k_is)
    (case c40 => k_is)
    (case k40 => k_is)
    (case l41 => k_is)
    (case c41 => k_is)
    (case k41 => k_is)
    (case l42 => k_is)
    (case c42 => k_is)
    (case k42 => k_is)
    (case l43 => k_is)
    (case c43 => k_is)
    (case k43 => k_is)
    (case l44 => k_is)
    (case c44 => k_is)
    (case k44 => k_is)
    (case pg_CD => k_is)
    (case hd_CD => k_is)
    (case po_CD => k_is)
    (case sa_CD => k_is)
    (case mk_CD => k_is)
    (case kc_CD => k_is)
    (case n_CD_kept => k_is)
    (case n_CD_late => k_is)
    (case n_CD_names => k_is)
    (case n_CD_sure => k_is)
    (case n_CD_changes => k_is)
    (case n_CD_next => k_is)
    (case pg_CL => k_is)
    (case hd_CL => k_is)
    (case po_CL => k_is)
    (case sa_CL => k_is)
    (case mk_CL => k_is)
    (case kc_CL => k_is)
    (case n_CL_disk => k_is)
    (case n_CL_most => k_is)
    (case n_CL_parts => k_is)
    (case n_CL_sure => k_is)
    (case bE => k_is)
    (case tE => k_is)
    (case hE => k_is)
    (case x_CP => k_exc)
    (case k_CP => k_is)
    (case b_CP => k_is)
    (case t_CP => k_is)
    (case sD_CP => first | rfl | k_is)
    (case sV_CP => k_is)
    (case eg_CP => k_is)
    (case ek_CP => k_is)
    (case ed_CP => k_is)
    (case ea_CP => k_is)
    (case en_CP => k_is)
    (case et_CP => k_is)
    (case em_CP => k_is)
    (case x_CN => k_exc)
    (case k_CN => k_is)
    (case b_CN => k_is)
    (case t_CN => k_is)
    (case sD_CN => first | rfl | k_is)
    (case sV_CN => k_is)
    (case eg_CN => k_is)
    (case ek_CN => k_is)
    (case ed_CN => k_is)
    (case ea_CN => k_is)
    (case en_CN => k_is)
    (case et_CN => k_is)
    (case em_CN => k_is)
    (case p_notNP => kit_is)
    (case p_notPN => kit_is)

