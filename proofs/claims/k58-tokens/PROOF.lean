import PyProof.Rows.All
import Wide.All
import OpenK.AllK
import Wide.FinOn
import HandS.ForMost
import HandS.Exc
import HandS.TryOnly
import HandS.ExcOwn
import HandS.WordsExc
import HandS.ExcIs
import HandS.IsInst
import HandS.StrMore
import HandS.Wide
import HandS.TupAny
import HandS.Flow
import PySem.Challenge.RW_desksagree_k58_tokens_of_questions
set_option Elab.async false
set_option maxRecDepth 100000
set_option maxHeartbeats 8000000
namespace K58
open PySem PySem.Spec PyProof.Rows L2
def top (i : Nat) : Stmt := PySem.Challenge.pw_desksagree_k58_tokens_of_questions.main.body.getD i (.Pass ⟨0, 0, 0, 0⟩)
abbrev sTokens : Stmt := top 10
abbrev sSize : Stmt := top 11
abbrev sOne : Stmt := top 12
abbrev sRun : Stmt := top 13
abbrev sMarked : Stmt := top 14
abbrev sJoined : Stmt := top 15
abbrev sSame : Stmt := top 17
abbrev sPool : Stmt := top 18
abbrev sDraw : Stmt := top 19
abbrev sPick : Stmt := top 20
abbrev sLTok : Stmt := top 21
abbrev sTold : Stmt := top 22
abbrev sLaw : Stmt := top 23
/-- the codes of a text -/
abbrev tl (x : Str) : List Nat := x.cps.toList
/-- a text of codes -/
abbrev mkS (l : List Nat) : Str := ⟨l.toArray⟩
theorem mkS_tl (x : Str) : mkS (tl x) = x := by cases x; rfl
theorem tl_mkS (l : List Nat) : tl (mkS l) = l := rfl
theorem len_tl (x : Str) : x.length = (tl x).length := by simp [Str.length, tl]
/-- the built-ins that the text calls are those of the interpreter -/
structure Blt (mg : Str → Option Value) : Prop where
  b_len : mg "len" = none
  b_isinstance : mg "isinstance" = none
  b_str : mg "str" = none
  b_int : mg "int" = none
  b_list : mg "list" = none
  b_tuple : mg "tuple" = none
  b_bool : mg "bool" = none
  b_range : mg "range" = none
  b_abs : mg "abs" = none
  b_ord : mg "ord" = none
theorem scRun : FnScope ["text", "at", "signs", "end"] ["text", "at", "signs"] (defScope sRun) := ⟨rfl, rfl, rfl, by decide +kernel, rfl, by decide +kernel, by decide +kernel⟩
theorem scSize : FnScope ["row"] ["row"] (defScope sSize) := ⟨rfl, rfl, rfl, by decide +kernel, rfl, by decide +kernel, by decide +kernel⟩
/-- the signs of S from the front of l -/
def frontOf (S l : List Nat) : List Nat := l.takeWhile fun c => decide (c ∈ S)
theorem cut_nat (x : Str) (a b : Nat) (h : b ≤ (tl x).length) : cutS x (some (a : Int)) (some (b : Int)) = mkS (((tl x).drop a).take (b - a)) := by
  have hn : x.length = (tl x).length := len_tl x
  have e1 : HT.sIx x.length 0 (some (a : Int)) = min a x.length := by
    show (if ((a : Int)) < 0 then ((a : Int) + (x.length : Int)).toNat else min ((a : Int)).toNat x.length) = _
    rw [if_neg (by omega)]; rfl
  have e2 : HT.sIx x.length x.length (some (b : Int)) = b := by
    show (if ((b : Int)) < 0 then ((b : Int) + (x.length : Int)).toNat else min ((b : Int)).toNat x.length) = _
    rw [if_neg (by omega)]
    show min b x.length = b
    omega
  show (⟨((x.cps.toList.drop (HT.sIx x.length 0 (some (a : Int)))).take (HT.sIx x.length x.length (some (b : Int)) - HT.sIx x.length 0 (some (a : Int)))).toArray⟩ : Str) = _
  rw [e1, e2]
  by_cases ha : a ≤ x.length
  · rw [Nat.min_eq_left ha]
  · have z : (tl x).length ≤ a := by omega
    have e3 : ((tl x).drop a).take (b - a) = [] := by rw [List.drop_eq_nil_of_le z, List.take_nil]
    have e4 : (x.cps.toList.drop (min a x.length)).take (b - min a x.length) = [] := by
      rw [List.drop_eq_nil_of_le (by show (tl x).length ≤ _; omega), List.take_nil]
    rw [e3, e4]
/-- _run(text, at, signs) -/
def spRun : Sp := fun vs H Q _ => ∃ (x : Str) (a : Nat) (sg : Str), vs = [.str x, .int (a : Int), .str sg] ∧ x.length ≤ sizeLine ∧ a ≤ (tl x).length ∧ Q (.str (mkS (frontOf (tl sg) ((tl x).drop a)))) H
section
variable {P : Program} {w : World} {K : PySem.W.Frag} {mg : Str → Option Value} {base : Heap}
theorem frontOf_step {S l : List Nat} {n : Nat} {c : Nat} (h : l[n]? = some c) (hc : c ∈ S) (hp : n ≤ (frontOf S l).length) : n + 1 ≤ (frontOf S l).length := by
  induction l generalizing n with
  | nil => simp at h
  | cons d r ih =>
    cases n with
    | zero =>
      have e : d = c := by simpa using h
      subst e
      unfold frontOf
      rw [List.takeWhile_cons, if_pos (by simpa using hc)]
      simp
    | succ n =>
      unfold frontOf at hp ⊢
      rw [List.takeWhile_cons] at hp ⊢
      by_cases hd : decide (d ∈ S) = true
      · rw [if_pos hd] at hp ⊢
        have := ih (n := n) (by simpa using h) (by unfold frontOf; simpa using hp)
        unfold frontOf at this
        simpa using this
      · rw [if_neg hd] at hp
        simp at hp
theorem frontOf_stop {S l : List Nat} {n : Nat} (hp : n ≤ (frontOf S l).length) (h : ∀ c, l[n]? = some c → c ∉ S) : n = (frontOf S l).length := by
  induction l generalizing n with
  | nil => simp [frontOf] at hp ⊢; exact hp
  | cons d r ih =>
    unfold frontOf at hp ⊢
    rw [List.takeWhile_cons] at hp ⊢
    by_cases hd : decide (d ∈ S) = true
    · rw [if_pos hd] at hp ⊢
      cases n with
      | zero => exact absurd (by simpa using hd) (h d rfl)
      | succ n =>
        have := ih (n := n) (by unfold frontOf; simpa using hp) (fun c hc => h c (by simpa using hc))
        unfold frontOf at this
        simpa using this
    · rw [if_neg hd] at hp ⊢
      simpa using hp
theorem frontOf_take (S l : List Nat) : l.take (frontOf S l).length = frontOf S l := by
  induction l with
  | nil => rfl
  | cons d r ih =>
    unfold frontOf
    rw [List.takeWhile_cons]
    by_cases hd : decide (d ∈ S) = true
    · rw [if_pos hd]
      simp only [List.length_cons, List.take_succ_cons]
      unfold frontOf at ih
      rw [ih]
    · rw [if_neg hd]; rfl
theorem frontOf_le (S l : List Nat) : (frontOf S l).length ≤ l.length := by
  have := congrArg List.length (frontOf_take S l)
  rw [List.length_take] at this
  omega
theorem ok_run {f : Addr} {fd : FuncData} (F : Fun K "_run" "_run" sRun f fd) (T : Blt mg) : FnOk P w K mg base CX0 1 f fd ["text", "at", "signs"] spRun := by
  refine F.ok scRun (fun vs H Q E h => ?_) (fun cdv A outer s H vs Q E hr h => ?_)
  · obtain ⟨x, a, sg, rfl, _⟩ := h
    rfl
  · obtain ⟨x, a, sg, rfl, hx, ha, k⟩ := h
    refine ⟨_, (pss_cons (ps_set (i := 3) scRun.nd rfl (Or.inl rfl) (pv 1))
    (pss_cons (ps_while PassesOwn.never (PW.pt (pw_and (pt_cmpR op_lt (pv 3) (pe_callB call_len (by rfl) T.b_len (by decide +kernel) (pa_cons (pv 0) pa_nil)) (nomark _)) (pw_and1 (pt_cmpR op_in_sign (pe_ix ix_str (pv 0) (pv 3) (fun _ _ => rfl)) (pv 2) rfl)))) (pss_one (ps_set (i := 3) scRun.nd rfl (Or.inl rfl) (pe_op op_add (pv 3) pe_int))))
    (pss_one (ps_ret (pe_slice sl_str (pv 0) (po_some (pv 1)) (po_some (pv 3))))))), ?_⟩
    have hl : x.length = (tl x).length := len_tl x
    have hfl := frontOf_le (tl sg) ((tl x).drop a)
    rw [List.length_drop] at hfl
    refine ⟨_, rfl, ?_⟩
    refine ⟨fun m σ H' => ∃ n : Nat, m = (tl x).length - (a + n) ∧ σ = [some (.str x), some (.int (a : Int)), some (.str sg), some (.int ((a + n : Nat) : Int))] ∧ H' = H ∧ n ≤ (frontOf (tl sg) ((tl x).drop a)).length, ⟨_, 0, rfl, rfl, rfl, Nat.zero_le _⟩, ?_⟩
    rintro m σ H' ⟨n, rfl, rfl, rfl, hn⟩
    have done : (∀ c, ((tl x).drop a)[n]? = some c → c ∉ tl sg) → tRet (tSl rSlS (tVar 0) (tPart (tVar 1)) (tPart (tVar 3))) { nx := fun _ H' => Q .non H', rt := Q } [some (.str x), some (.int (a : Int)), some (.str sg), some (.int ((a + n : Nat) : Int))] H' := by
      intro hs
      have e := frontOf_stop hn hs
      refine ⟨_, rfl, _, rfl, _, rfl, _, rfl, _, rfl, _, rfl, hx, ?_⟩
      rw [cut_nat x a (a + n) (by omega), show a + n - a = n by omega, e, frontOf_take]
      exact k
    refine ⟨_, rfl, _, rfl, _, _, rfl, ⟨hx, rfl⟩, _, _, rfl, rfl, _, rfl, ?_⟩
    refine ite2 (fun hlt => ?_) (fun hlt => ?_)
    · have hlt' : a + n < (tl x).length := by have := of_decide_eq_true hlt; omega
      have hc : (tl x)[a + n]? = some (tl x)[a + n] := by simp [hlt']
      have hc' : ((tl x).drop a)[n]? = some (tl x)[a + n] := by rw [List.getElem?_drop]; exact hc
      refine ⟨_, rfl, _, rfl, _, _, _, rfl, rfl, hx, atI_nat hc, _, rfl, _, _, rfl, rfl, _, rfl, ?_⟩
      refine ite2 (fun hin => ?_) (fun hin => ?_)
      · have hin' := of_decide_eq_true hin
        refine ⟨fun σ' H'' => ∃ m', m' < (tl x).length - (a + n) ∧ _, fun _ _ z => z, ?_⟩
        refine ⟨_, rfl, _, _, rfl, rfl, ?_⟩
        exact ⟨(tl x).length - (a + (n + 1)), by omega, n + 1, rfl, rfl, rfl, frontOf_step hc' hin' hn⟩
      · exact done fun c e => by
          rw [hc'] at e
          cases e
          exact fun z => hin (decide_eq_true z)
    · refine iteF ?_
      exact done fun c e => by
        have : a + n < (tl x).length := by
          rw [List.getElem?_drop] at e
          exact (List.getElem?_eq_some_iff.mp e).1
        exact absurd (decide_eq_true (by omega)) hlt
end
end K58

namespace K58
open PySem PySem.Spec PyProof.Rows L2
/-! ### the first sign c from a place on -/
def upto (c : Nat) (l : List Nat) : List Nat := l.takeWhile fun d => decide (d ≠ c)
theorem upto_le (c : Nat) (l : List Nat) : (upto c l).length ≤ l.length := by
  induction l with
  | nil => exact Nat.le_refl _
  | cons d r ih =>
    unfold upto at ih ⊢
    rw [List.takeWhile_cons]
    split
    · simpa using ih
    · simp
theorem upto_take (c : Nat) (l : List Nat) : l.take (upto c l).length = upto c l := by
  induction l with
  | nil => rfl
  | cons d r ih =>
    unfold upto at ih ⊢
    rw [List.takeWhile_cons]
    split
    · simp only [List.length_cons, List.take_succ_cons]; rw [ih]
    · rfl
theorem occ_full (s sub : Str) (hi : Nat) : ∀ (l : List Nat) (st : Array Nat × Nat), 1 ≤ st.fst.size → (forIn l st (StrLaws.occBody s sub hi 1)).run = st
  | [], st, h => rfl
  | a :: l, st, h => by
    rw [List.forIn_cons]
    unfold StrLaws.occBody
    rw [if_neg (fun z => by have := z.1.1.1; omega)]
    exact occ_full s sub hi l st h
theorem occ_run (x : Str) (c : Nat) : ∀ (n a f : Nat), a + n = x.length + 1 → f ≤ a →
    (forIn (List.range' a n) ((#[] : Array Nat), f) (StrLaws.occBody x ⟨#[c]⟩ x.length 1)).run.fst.toList =
      if (upto c ((tl x).drop a)).length < ((tl x).drop a).length then [a + (upto c ((tl x).drop a)).length] else []
  | 0, a, f, h, hf => by
    have hx : x.length = (tl x).length := len_tl x
    have e : (tl x).drop a = [] := List.drop_eq_nil_of_le (by omega)
    rw [e]
    rfl
  | n + 1, a, f, h, hf => by
    have hx : x.length = (tl x).length := len_tl x
    rw [List.range'_succ, List.forIn_cons]
    have key := StrLaws.subAt_one x c a
    by_cases hc : (tl x)[a]? = some c
    · have z := key.mpr hc
      have hlt : a < (tl x).length := (List.getElem?_eq_some_iff.mp hc).1
      unfold StrLaws.occBody
      rw [if_pos ⟨⟨⟨by simp, hf⟩, z.1⟩, z.2⟩]
      show ((forIn (List.range' (a + 1) n) ((#[] : Array Nat).push a, a + (⟨#[c]⟩ : Str).length) (StrLaws.occBody x ⟨#[c]⟩ x.length 1)).run).fst.toList = _
      rw [occ_full _ _ _ _ _ (by simp)]
      have e : (tl x).drop a = c :: (tl x).drop (a + 1) := by
        rw [List.drop_eq_getElem_cons hlt]
        rw [(List.getElem?_eq_some_iff.mp hc).2]
      rw [e]
      unfold upto
      rw [List.takeWhile_cons, if_neg (show ¬ decide (c ≠ c) = true by simp)]
      simp
    · have hn : ¬ ((((((#[] : Array Nat), f) : Array Nat × Nat).fst.size < 1 ∧ (((#[] : Array Nat), f) : Array Nat × Nat).snd ≤ a) ∧ a + (⟨#[c]⟩ : Str).length ≤ x.length) ∧ Builtin.Str.subAt x ⟨#[c]⟩ a = true) := fun z => hc (key.mp ⟨z.1.2, z.2⟩)
      have e1 : StrLaws.occBody x ⟨#[c]⟩ x.length 1 a ((#[] : Array Nat), f) = pure (ForInStep.yield ((#[] : Array Nat), f)) := by
        unfold StrLaws.occBody
        rw [if_neg hn]
      rw [e1]
      show ((forIn (List.range' (a + 1) n) ((#[] : Array Nat), f) (StrLaws.occBody x ⟨#[c]⟩ x.length 1)).run).fst.toList = _
      rw [occ_run x c n (a + 1) f (by omega) (by omega)]
      by_cases hlt : a < (tl x).length
      · have e : (tl x).drop a = (tl x)[a] :: (tl x).drop (a + 1) := List.drop_eq_getElem_cons hlt
        have hd : (tl x)[a] ≠ c := fun z => hc (by rw [List.getElem?_eq_getElem hlt, z])
        have e2 : upto c ((tl x).drop a) = (tl x)[a] :: upto c ((tl x).drop (a + 1)) := by
          rw [e]
          unfold upto
          rw [List.takeWhile_cons, if_pos (by simpa using hd)]
        rw [e2, e]
        simp only [List.length_cons, Nat.add_lt_add_iff_right]
        split
        · congr 1; omega
        · rfl
      · have e : (tl x).drop a = [] := List.drop_eq_nil_of_le (by omega)
        have e3 : (tl x).drop (a + 1) = [] := List.drop_eq_nil_of_le (by omega)
        rw [e, e3]
        rfl
theorem find_one (x : Str) (c a : Nat) (ha : a ≤ (tl x).length) : Txt.find3 x ⟨#[c]⟩ (a : Int) = if (upto c ((tl x).drop a)).length < ((tl x).drop a).length then ((a + (upto c ((tl x).drop a)).length : Nat) : Int) else -1 := by
  have hx : x.length = (tl x).length := len_tl x
  have e0 : fromIndex x.length (a : Int) = a := by
    unfold fromIndex
    rw [if_neg (by omega)]
    omega
  unfold Txt.find3
  rw [e0, StrLaws.occ_eq, occ_run x c _ a a (by omega) (Nat.le_refl _)]
  by_cases h : (upto c ((tl x).drop a)).length < ((tl x).drop a).length
  · rw [if_pos h, if_pos h]
  · rw [if_neg h, if_neg h]
/-! ### walks over a text in a comprehension and a loop -/
theorem lc_str {x : Str} {g : TG} {tt : TT} {te : TE} {vs : List Nat} {σ : L2.St} {H1 : Hp} {D : Addr} {Qd : Hp → Prop} (Pv : Nat → Hp → Prop) (h0 : Pv 0 (upd H1 D (.lst [])))
    (hs : ∀ i c H, (tl x)[i]? = some c → Pv i H → g (.str ⟨#[c]⟩) (wipe σ vs) H fun σ2 H2 => wipe σ2 vs = wipe σ vs ∧ tt σ2 H2 fun b H3 =>
      if b = true then te σ2 H3 fun y H4 => ∃ acc, H4 D = some (.lst acc) ∧ acc.length < sizeLine ∧ Pv (i + 1) (upd H4 D (.lst (acc ++ [y]))) else Pv (i + 1) H3) (hd : ∀ H, Pv (tl x).length H → Qd H) :
    ∃ W : Nat → Nat → Hp → Prop, (∃ m, W 0 m (upd H1 D (.lst []))) ∧ ∀ i m H, W i m H →
      ((Its x).stop i H ∧ Qd H) ∨ ((Its x).go i H ∧ ∃ Nx : Hp → Prop, (∀ H', Nx H' → ∃ m', m' < m ∧ W (i + 1) m' H') ∧ ∀ v H', (Its x).yld i H v H' → g v (wipe σ vs) H' fun σ2 H2 => wipe σ2 vs = wipe σ vs ∧ tt σ2 H2 fun b H3 =>
        if b = true then te σ2 H3 fun y H4 => ∃ acc, H4 D = some (.lst acc) ∧ acc.length < sizeLine ∧ Nx (upd H4 D (.lst (acc ++ [y]))) else Nx H3) := by
  have hx : x.cps.size = (tl x).length := by simp [tl]
  refine ⟨fun i m H => m = (tl x).length - i ∧ i ≤ (tl x).length ∧ Pv i H, ⟨(tl x).length, by simp, Nat.zero_le _, h0⟩, ?_⟩
  rintro i m H ⟨rfl, hi, p⟩
  by_cases hlt : i < (tl x).length
  · refine .inr ⟨(by show i < x.cps.size; omega), Pv (i + 1), fun H' p' => ⟨(tl x).length - (i + 1), by omega, rfl, hlt, p'⟩, fun v H' y => ?_⟩
    obtain ⟨e, c, hc, ev⟩ := y
    subst e
    subst ev
    exact hs i c _ (by rw [Array.getElem?_toList]; exact hc) p
  · have e : i = (tl x).length := by omega
    subst e
    exact .inl ⟨(by show x.cps.size ≤ _; omega), hd H p⟩
/-! ### _size -/
def sizeT (k w : Str) : Nat := w.length + (if k = Str.ofString "text" then 2 else 0)
def spSize (K : PySem.W.Frag) : Sp := fun vs H Q _ => ∃ (p : Addr) (k wd : Str) (n : Int), vs = [.ref p] ∧ SqT K H p [.str k, .str wd, .int n] ∧ wd.length ≤ sizeLine ∧ Q (.int ((sizeT k wd : Nat) : Int)) H
section
variable {P : Program} {w : World} {K : PySem.W.Frag} {mg : Str → Option Value} {base : Heap}
theorem ok_size {f : Addr} {fd : FuncData} (F : Fun K "_size" "_size" sSize f fd) (T : Blt mg) : FnOk P w K mg base CX0 1 f fd ["row"] (spSize K) := by
  refine F.ok scSize (fun vs H Q E h => ?_) (fun cdv A outer s H vs Q E hr h => ?_)
  · obtain ⟨p, k, wd, n, rfl, _⟩ := h
    rfl
  · obtain ⟨p, k, wd, n, rfl, hp, hw, q⟩ := h
    refine ⟨_, (pss_one (ps_ret (pe_op op_add (pe_callB call_len (by rfl) T.b_len (by decide +kernel) (pa_cons (pe_ix ix_tup (pv 0) pe_int (fun _ _ => rfl)) pa_nil)) (pe_ifExp (pt_cmpR op_eq (pe_ix ix_tup (pv 0) pe_int (fun _ _ => rfl)) pe_str (nomark _)) pe_int pe_int)))), ?_⟩
    refine ⟨_, rfl, p, _, _, _, rfl, rfl, hp, atI_nat (j := 1) rfl, _, _, rfl, ⟨hw, rfl⟩, ?_⟩
    refine ⟨_, rfl, p, _, _, _, rfl, rfl, hp, atI_nat (j := 0) rfl, rfl, _, rfl, ?_⟩
    refine ite2 (fun h => ?_) (fun h => ?_)
    · refine ⟨_, _, rfl, rfl, ?_⟩
      have e := of_decide_eq_true h
      have e' : k = Str.ofString "text" := V.str.inj e
      have z : ((sizeT k wd : Nat) : Int) = (wd.length : Int) + 2 := by simp [sizeT, e']
      rw [z] at q
      exact q
    · refine ⟨_, _, rfl, rfl, ?_⟩
      have e' : ¬ k = Str.ofString "text" := fun e => h (decide_eq_true (by rw [e]))
      have z : ((sizeT k wd : Nat) : Int) = (wd.length : Int) + 0 := by simp [sizeT, e']
      rw [z] at q
      exact q
end
end K58

namespace K58
open PySem PySem.Spec PyProof.Rows L2
/-- what the class InvalidPaper, at C, is -/
structure ErrT (K : PySem.W.Frag) (mg : Str → Option Value) (C : Addr) : Prop where
  gP : mg "InvalidPaper" = some (.ref C)
  xP : PySem.W.excIn K C [.type "ValueError", .type "Exception", .type "BaseException", .type "object"] "ValueError.__new__" = true
  kP : PySem.W.keepIn K (.ref C) = true
  bP : PySem.W.subIn K (.ref C) (.type "BaseException") = some true
  tP : PySem.W.typeIn K (.ref C) = some (.type "type")
def goodSign (c : Nat) : Bool := !(decide (c = 63) || !(decide (32 ≤ c) && decide (c ≤ 126)))
/-- the text between the marks, r what stands behind the first mark -/
def marked (r : List Nat) : Option (List Nat) := if (upto 39 r).length < r.length ∧ (upto 39 r).all goodSign = true ∧ (upto 39 r).length ≤ 60 then some (upto 39 r) else none
theorem scMarked : FnScope ["text", "at", "end", "told", "sign"] ["text", "at"] (defScope sMarked) := ⟨rfl, rfl, rfl, by decide +kernel, rfl, by decide +kernel, by decide +kernel⟩
def spMarked (C : Addr) : Sp := fun vs H Q E => ∃ (x : Str) (a : Nat), vs = [.str x, .int (a : Int)] ∧ x.length ≤ sizeLine ∧ a < (tl x).length ∧
  (∀ u, marked ((tl x).drop (a + 1)) = some u → ∀ H', Same H H' → Q (.str (mkS u)) H') ∧ (marked ((tl x).drop (a + 1)) = none → ∀ H', Same H H' → E (.ref C) none H')
theorem le1 (a b : Nat) : (!decide (([a] : List Nat) < [b])) = decide (b ≤ a) := by
  by_cases h : a < b
  · have e1 : ([a] : List Nat) < [b] := List.Lex.rel h
    rw [decide_eq_true e1, decide_eq_false (by omega)]; rfl
  · have e1 : ¬ ([a] : List Nat) < [b] := by
      intro z
      cases z with
      | cons z => cases z
      | rel z => exact h z
    rw [decide_eq_false e1, decide_eq_true (by omega)]; rfl
theorem take_snoc {α : Type} : ∀ {l : List α} {i : Nat} {x : α}, l[i]? = some x → l.take (i + 1) = l.take i ++ [x]
  | [], i, x, h => by simp at h
  | a :: l, 0, x, h => by
    have e : a = x := Option.some.inj h
    subst e
    rfl
  | a :: l, i + 1, x, h => by
    have ih := take_snoc (l := l) (i := i) (x := x) h
    show a :: l.take (i + 1) = a :: l.take i ++ [x]
    rw [ih]
    rfl
theorem one_eq (c d : Nat) : decide (V.str ⟨#[c]⟩ = V.str ⟨#[d]⟩) = decide (c = d) := by
  by_cases h : c = d
  · subst h; simp
  · rw [decide_eq_false h, decide_eq_false]
    intro e
    have := V.str.inj e
    simp at this
    exact h this
theorem sz1 {n : Nat} (h : n ≤ sizeLine) (m : Nat) (hm : m < n) : m < sizeLine := Nat.lt_of_lt_of_le hm h
section
variable {P : Program} {w : World} {K : PySem.W.Frag} {mg : Str → Option Value} {base : Heap}
theorem ok_marked {f C : Addr} {fd : FuncData} (F : Fun K "_marked" "_marked" sMarked f fd) (T : Blt mg) (X : ErrT K mg C) : FnOk P w K mg base (L2.CX P w) 1 f fd ["text", "at"] (spMarked C) := by
  refine F.okX scMarked (fun vs H Q E h => ?_) (fun cdv A outer s H vs Q E hr h => ?_)
  · obtain ⟨x, a, rfl, _⟩ := h
    rfl
  · obtain ⟨x, a, rfl, hx, ha, kS, kN⟩ := h
    refine ⟨_, (pss_cons (ps_set (i := 2) scMarked.nd rfl (Or.inl rfl) (pe_bm PySem.F.plainAttrs_str PySem.F.slot_str_find PySem.F.type_str_find mt_find3 (pv 0) (pa_cons pe_str (pa_cons (pe_op op_add (pv 1) pe_int) pa_nil))))
    (pss_cons (ps_if (pt_cmpR op_lt (pv 2) pe_int (nomark _)) (pss_one (ps_raise rfl (takes_of rfl rfl rfl rfl) (pmk_own PySem.F.excBase_ValueError X.xP X.gP X.kP (raises_own X.bP X.tP) rfl))) pss_nil)
    (pss_cons (ps_set (i := 3) scMarked.nd rfl (Or.inl rfl) (pe_slice sl_str (pv 0) (po_some (pe_op op_add (pv 1) pe_int)) (po_some (pv 2))))
    (pss_cons (ps_if (PW.pt (pw_or (pt_truth (pe_lc (own := [("sign", 4)]) rfl scMarked.nd (pi_str (pv 3)) (blkOk_by (N := ["text", "at", "end", "told", "sign"]) (sc := defScope sMarked) (own := [("sign", 4)]) (by decide +kernel)) (fun _ _ _ _ _ => (pg_name (i := 4) scMarked.nd rfl (Or.inl rfl))) (fun _ _ _ _ _ => pts_one (PW.pt (pw_or (pt_cmpR op_eq (pv 4) pe_str (nomark _)) (pw_or1 (pt_not (pt_chain op_le_str op_le_str pe_str (pv 4) pe_str)))))) (fun _ _ _ _ _ => (pv 4))) (by intro _; rfl)) (pw_or1 (pt_cmpR op_gt (pe_callB call_len (by rfl) T.b_len (by decide +kernel) (pa_cons (pv 3) pa_nil)) pe_int (nomark _))))) (pss_one (ps_raise rfl (takes_of rfl rfl rfl rfl) (pmk_own PySem.F.excBase_ValueError X.xP X.gP X.kP (raises_own X.bP X.tP) rfl))) pss_nil)
    (pss_one (ps_ret (pv 3))))))), ?_⟩
    have hl : x.length = (tl x).length := len_tl x
    have hu := upto_le 39 ((tl x).drop (a + 1))
    have ef : Txt.find3 x (Str.ofString "'") ((a : Int) + 1) = if (upto 39 ((tl x).drop (a + 1))).length < ((tl x).drop (a + 1)).length then ((a + 1 + (upto 39 ((tl x).drop (a + 1))).length : Nat) : Int) else -1 :=
      find_one x 39 (a + 1) (by omega)
    refine ⟨_, rfl, rfl, _, rfl, _, _, rfl, rfl, _, _, _, rfl, rfl, ?_⟩
    rw [ef]
    generalize hU : upto 39 ((tl x).drop (a + 1)) = U at *
    have hr1 : ((tl x).drop (a + 1)).length = (tl x).length - (a + 1) := List.length_drop
    refine ⟨_, rfl, _, _, rfl, rfl, _, rfl, ?_⟩
    by_cases hlt : U.length < ((tl x).drop (a + 1)).length
    · have eM : marked ((tl x).drop (a + 1)) = if U.all goodSign = true ∧ U.length ≤ 60 then some U else none := by
        unfold marked
        rw [hU]
        by_cases hg : U.all goodSign = true ∧ U.length ≤ 60
        · rw [if_pos ⟨hlt, hg⟩, if_pos hg]
        · rw [if_neg (fun z => hg z.2), if_neg hg]
      rw [if_pos hlt, decide_eq_false (by omega)]
      refine iteF ?_
      refine ⟨_, rfl, _, rfl, _, _, rfl, rfl, _, rfl, _, rfl, _, rfl, _, rfl, hx, ?_⟩
      have ecut : cutS x (some ((a : Int) + 1)) (some ((a + 1 + U.length : Nat) : Int)) = mkS U := by
        have := cut_nat x (a + 1) (a + 1 + U.length) (by omega)
        rw [show a + 1 + U.length - (a + 1) = U.length by omega] at this
        rw [show ((a : Int) + 1) = ((a + 1 : Nat) : Int) by omega, this, ← hU, upto_take]
      rw [ecut]
      have tlU : tl (mkS U) = U := rfl
      have lenU : (mkS U).length = U.length := by rw [len_tl]
      have hU1 : U.length ≤ sizeLine := by omega
      refine ⟨_, rfl, _, rfl, fun D hD => lc_str (x := mkS U) (fun i H' => H' D = some (.lst (((U.take i).filter fun c => !goodSign c).map fun c => V.str ⟨#[c]⟩)) ∧ ∀ b, b ≠ D → H' b = H b) ⟨upd_same, fun b hb => upd_ne hb⟩ ?_ ?_⟩
      · rintro i c H' hc ⟨h1, h2⟩
        have hiU : i < U.length := (List.getElem?_eq_some_iff.mp hc).1
        have et : U.take (i + 1) = U.take i ++ [c] := take_snoc hc
        have small : (((U.take i).filter fun c => !goodSign c).map fun c => V.str ⟨#[c]⟩).length < sizeLine := by
          have := List.length_filter_le (fun c => !goodSign c) (U.take i)
          rw [List.length_map]
          rw [List.length_take] at this
          omega
        have keepG : goodSign c = true → ∀ (A B : Prop), B = B → True := fun _ _ _ _ => trivial
        refine ⟨rfl, ?_⟩
        refine ⟨_, rfl, rfl, _, rfl, ?_⟩
        rw [show decide (V.str ⟨#[c]⟩ = V.str (Str.ofString "?")) = decide (c = 63) from one_eq c 63]
        have add : goodSign c = false → (∀ b, b ≠ D → H' b = H b) → upd H' D (.lst ((((U.take i).filter fun c => !goodSign c).map fun c => V.str ⟨#[c]⟩) ++ [V.str ⟨#[c]⟩])) D = some (.lst (((U.take (i + 1)).filter fun c => !goodSign c).map fun c => V.str ⟨#[c]⟩)) ∧ ∀ b, b ≠ D → upd H' D (.lst ((((U.take i).filter fun c => !goodSign c).map fun c => V.str ⟨#[c]⟩) ++ [V.str ⟨#[c]⟩])) b = H b := by
          intro hg h2
          refine ⟨?_, fun b hb => by rw [upd_ne hb]; exact h2 b hb⟩
          rw [upd_same, et, List.filter_append, List.map_append]
          simp [hg]
        refine ite2 (fun hq => ?_) (fun hq => ?_)
        · refine iteT ?_
          refine ⟨_, rfl, _, h1, small, ?_⟩
          refine add ?_ h2
          unfold goodSign
          rw [hq]; rfl
        · refine ⟨_, rfl, _, _, rfl, rfl, _, rfl, ?_⟩
          rw [show (!decide (tl (⟨#[c]⟩ : Str) < tl (Str.ofString " "))) = decide (32 ≤ c) from le1 c 32]
          have hq0 : decide (c = 63) = false := by simpa using hq
          refine ite2 (fun h32 => ?_) (fun h32 => ?_)
          · refine ⟨_, _, rfl, rfl, _, rfl, ?_⟩
            rw [show (!decide (tl (Str.ofString "~") < tl (⟨#[c]⟩ : Str))) = decide (c ≤ 126) from le1 126 c]
            refine ite2 (fun h126 => ?_) (fun h126 => ?_)
            · refine ⟨_, rfl, _, h1, small, ?_⟩
              refine add ?_ h2
              unfold goodSign
              rw [hq0, h32]
              simpa using h126
            · have hg : goodSign c = true := by
                unfold goodSign
                rw [hq0, h32]
                simpa using h126
              refine ⟨?_, h2⟩
              rw [h1, et, List.filter_append, List.map_append]
              simp [hg]
          · refine ⟨_, rfl, ?_⟩
            refine iteT ?_
            refine ⟨_, rfl, _, h1, small, ?_⟩
            refine add ?_ h2
            unfold goodSign
            rw [hq0]
            have : decide (32 ≤ c) = false := by simpa using h32
            rw [this]; rfl
      · rintro H' ⟨h1, h2⟩
        rw [tlU, List.take_length] at h1
        have same : Same H H' := fun b o e => by
          have : b ≠ D := fun z => by rw [z, hD] at e; cases e
          rw [h2 b this]; exact e
        refine ⟨_, .inl ⟨_, SqL.of h1, rfl⟩, ?_⟩
        by_cases hall : U.all goodSign = true
        · have ef : (U.filter fun c => !goodSign c) = [] := by
            rw [List.filter_eq_nil_iff]
            intro c hc
            have := List.all_eq_true.mp hall c hc
            simp [this]
          rw [ef]
          refine iteF ?_
          refine ⟨_, rfl, _, _, rfl, ⟨by rw [lenU]; exact hU1, rfl⟩, _, _, rfl, rfl, _, rfl, ?_⟩
          rw [lenU]
          refine ite2 (fun h60 => ?_) (fun h60 => ?_)
          · have h60' := of_decide_eq_true h60
            exact kN (by rw [eM, if_neg (fun z => by omega)]) _ same
          · have h60' : ¬ (60 : Int) < (U.length : Int) := fun z => h60 (decide_eq_true z)
            refine ⟨_, rfl, ?_⟩
            exact kS U (by rw [eM, if_pos ⟨hall, by omega⟩]) _ same
        · have en : ((U.filter fun c => !goodSign c).map fun c => V.str ⟨#[c]⟩).isEmpty = false := by
            rw [List.isEmpty_eq_false_iff]
            intro z
            rw [List.map_eq_nil_iff, List.filter_eq_nil_iff] at z
            refine hall (List.all_eq_true.mpr fun c hc => ?_)
            have := z c hc
            simpa using this
          rw [en]
          refine iteT ?_
          exact kN (by rw [eM, if_neg (fun z => hall z.1)]) _ same
    · have eM : marked ((tl x).drop (a + 1)) = none := by
        unfold marked
        rw [hU, if_neg (fun z => hlt z.1)]
      rw [if_neg hlt, decide_eq_true (by omega)]
      refine iteT ?_
      exact kN eM _ (Same.refl _)
end
end K58

namespace K58
open PySem PySem.Spec PyProof.Rows L2
def sLett : Str := Str.ofString "abcdefghijklmnopqrstuvwxyz"
def sFig : Str := Str.ofString "0123456789"
def wordsL : List Str := [Str.ofString "from", Str.ofString "join", Str.ofString "on", Str.ofString "where", Str.ofString "group", Str.ofString "show", Str.ofString "as", Str.ofString "order", Str.ofString "down", Str.ofString "first", Str.ofString "and", Str.ofString "or", Str.ofString "not"]
def signsL : List Str := [Str.ofString "<=", Str.ofString ">=", Str.ofString "<>", Str.ofString "=", Str.ofString "<", Str.ofString ">", Str.ofString "+", Str.ofString "-", Str.ofString "*", Str.ofString "(", Str.ofString ")", Str.ofString ",", Str.ofString "."]
/-- the constants of the text -/
structure Con58 (K : PySem.W.Frag) (mg : Str → Option Value) (pW pS : Addr) : Prop where
  gL : ∃ t, mg "LETTERS" = some (.str sLett t)
  gF : ∃ t, mg "FIGURES" = some (.str sFig t)
  gW : mg "WORDS" = some (.ref pW)
  hW : ∀ H, SqT K H pW (wordsL.map V.str)
  gS : mg "SIGNS" = some (.ref pS)
  hS : ∀ H, SqT K H pS (signsL.map V.str)
  gLo : ∃ t, mg "LONGEST" = some (.int 2000 t)
  gMo : ∃ t, mg "MOST" = some (.int 200 t)
def startsL (s : Str) (r : List Nat) : Bool := r.take (tl s).length == tl s
/-- the token at the front of r -/
def oneTok (r : List Nat) : Option (Str × List Nat) :=
  match r with
  | [] => none
  | c :: t =>
    if c ∈ tl sLett then (if 12 < (frontOf (tl sLett) (c :: t)).length then none else some (if (wordsL.any fun y => y == mkS (frontOf (tl sLett) (c :: t))) = true then Str.ofString "word" else Str.ofString "name", frontOf (tl sLett) (c :: t)))
    else if c ∈ tl sFig then (if 9 < (frontOf (tl sFig) (c :: t)).length ∨ (1 < (frontOf (tl sFig) (c :: t)).length ∧ c = 48) then none else some (Str.ofString "number", frontOf (tl sFig) (c :: t)))
    else if c = 39 then (marked t).map fun u => (Str.ofString "text", u)
    else (signsL.find? fun s => startsL s (c :: t)).map fun s => (Str.ofString "sign", tl s)
theorem same_upd {H H1 : Hp} {p : Addr} {o : HO} (s : Same H H1) (hp : H1 p = none) : Same H (upd H1 p o) := fun b u e => by
  rw [upd_ne (ne_of_none (s b u e) hp)]
  exact s b u e
theorem inV_strs (s : Str) (L : List Str) : inV (V.str s) (L.map V.str) = L.any fun y => y == s := by
  unfold inV
  rw [List.any_map]
  rfl
theorem flat_strs (L : List Str) : (L.map V.str).all flatV = true := by
  rw [List.all_map]
  exact List.all_eq_true.mpr fun _ _ => rfl
theorem starts_eq (x y : Str) (a : Nat) (ha : a ≤ (tl x).length) : Txt.startswith3 x y (a : Int) = startsL y ((tl x).drop a) := by
  have hx : x.length = (tl x).length := len_tl x
  have hy : y.length = (tl y).length := len_tl y
  have e0 : fromIndex x.length (a : Int) = a := by
    unfold fromIndex
    rw [if_neg (by omega)]
    omega
  unfold Txt.startswith3 startsL
  rw [e0, StrLaws.subAt_eq]
  show (decide (a + y.length ≤ x.length) && (((tl x).drop a).take y.length == tl y)) = (((tl x).drop a).take (tl y).length == tl y)
  rw [hy]
  by_cases h : (((tl x).drop a).take (tl y).length == tl y) = true
  · have h2 := congrArg List.length (beq_iff_eq.mp h)
    rw [List.length_take, List.length_drop] at h2
    rw [h, decide_eq_true (by omega)]; rfl
  · rw [Bool.eq_false_iff.mpr h, Bool.and_false]
theorem find_first {α : Type} {p : α → Bool} : ∀ {L : List α} {i : Nat} {s : α}, L[i]? = some s → p s = true → (∀ j, j < i → ∀ t, L[j]? = some t → p t = false) → L.find? p = some s
  | [], i, s, h, _, _ => by simp at h
  | a :: L, 0, s, h, hp, _ => by
    have e : a = s := Option.some.inj h
    subst e
    rw [List.find?_cons, hp]
  | a :: L, i + 1, s, h, hp, hn => by
    rw [List.find?_cons, hn 0 (Nat.succ_pos _) a rfl]
    exact find_first (L := L) (i := i) (s := s) (by simpa using h) hp fun j hj t ht => hn (j + 1) (Nat.succ_lt_succ hj) t (by simpa using ht)
theorem find_no {α : Type} {p : α → Bool} : ∀ {L : List α}, (∀ j, j < L.length → ∀ t, L[j]? = some t → p t = false) → L.find? p = none
  | [], _ => rfl
  | a :: L, hn => by
    rw [List.find?_cons, hn 0 (by simp) a rfl]
    exact find_no (L := L) fun j hj t ht => hn (j + 1) (by simpa using hj) t (by simpa using ht)
theorem strs_at {L : List Str} {i : Nat} {y : V} (h : (L.map V.str)[i]? = some y) : ∃ s, L[i]? = some s ∧ y = V.str s := by
  rw [List.getElem?_map] at h
  cases e : L[i]? with
  | none => rw [e] at h; cases h
  | some s => rw [e] at h; exact ⟨s, rfl, (Option.some.inj h).symm⟩
theorem scOne : FnScope ["text", "at", "told", "sign"] ["text", "at"] (defScope sOne) := ⟨rfl, rfl, rfl, by decide +kernel, rfl, by decide +kernel, by decide +kernel⟩
def spOne (C : Addr) : Sp := fun vs H Q E => ∃ (x : Str) (a : Nat), vs = [.str x, .int (a : Int)] ∧ x.length ≤ sizeLine ∧ a < (tl x).length ∧
  (∀ k u, oneTok ((tl x).drop a) = some (k, u) → ∀ H' p, Same H H' → H p = none → H' p = some (.tup [.str k, .str (mkS u), .int (a : Int)]) → Q (.ref p) H') ∧ (oneTok ((tl x).drop a) = none → ∀ H', Same H H' → E (.ref C) none H')
section
variable {P : Program} {w : World} {K : PySem.W.Frag} {mg : Str → Option Value} {base : Heap}
theorem ok_one {f C fR fM pW pS : Addr} {fd fdR fdM : FuncData} (F : Fun K "_one" "_one" sOne f fd) (T : Blt mg) (X : ErrT K mg C) (G : Con58 K mg pW pS)
    (FR : FnOk P w K mg base CX0 1 fR fdR ["text", "at", "signs"] spRun) (mgR : mg "_run" = some (.ref fR)) (kR : PySem.W.keepIn K (.ref fR) = true) (bR : Binds K fdR ["text", "at", "signs"] [])
    (FM : FnOk P w K mg base (L2.CX P w) 1 fM fdM ["text", "at"] (spMarked C)) (mgM : mg "_marked" = some (.ref fM)) (kM : PySem.W.keepIn K (.ref fM) = true) (bM : Binds K fdM ["text", "at"] []) :
    FnOk P w K mg base (L2.CX P w) 2 f fd ["text", "at"] (spOne C) := by
  obtain ⟨tL, GL⟩ := G.gL
  obtain ⟨tF, GF⟩ := G.gF
  refine F.okX scOne (fun vs H Q E h => ?_) (fun cdv A outer s H vs Q E hr h => ?_)
  · obtain ⟨x, a, rfl, _⟩ := h
    rfl
  · obtain ⟨x, a, rfl, hx, ha, kS, kN⟩ := h
    refine ⟨_, (pss_cons (ps_if (pt_cmpR op_in_sign (pe_ix ix_str (pv 0) (pv 1) (fun _ _ => rfl)) (pe_glob (v := .str sLett) rfl GL ⟨_, rfl⟩) rfl) (pss_cons (ps_set (i := 2) scOne.nd rfl (Or.inl rfl) (pe_call FR hr rfl mgR kR bR .nil pass0 (pa_cons (pv 0) (pa_cons (pv 1) (pa_cons (pe_glob (v := .str sLett) rfl GL ⟨_, rfl⟩) pa_nil)))))
    (pss_cons (ps_if (pt_cmpR op_gt (pe_callB call_len (by rfl) T.b_len (by decide +kernel) (pa_cons (pv 2) pa_nil)) pe_int (nomark _)) (pss_one (ps_raise rfl (takes_of rfl rfl rfl rfl) (pmk_own PySem.F.excBase_ValueError X.xP X.gP X.kP (raises_own X.bP X.tP) rfl))) pss_nil)
    (pss_one (ps_ret (pe_tup (pa_cons (pe_ifExp (pt_cmpR op_in_seq (pv 2) (pe_glob (v := .ref pW) rfl G.gW rfl) rfl) pe_str pe_str) (pa_cons (pv 2) (pa_cons (pv 1) pa_nil)))))))) pss_nil)
    (pss_cons (ps_if (pt_cmpR op_in_sign (pe_ix ix_str (pv 0) (pv 1) (fun _ _ => rfl)) (pe_glob (v := .str sFig) rfl GF ⟨_, rfl⟩) rfl) (pss_cons (ps_set (i := 2) scOne.nd rfl (Or.inl rfl) (pe_call FR hr rfl mgR kR bR .nil pass0 (pa_cons (pv 0) (pa_cons (pv 1) (pa_cons (pe_glob (v := .str sFig) rfl GF ⟨_, rfl⟩) pa_nil)))))
    (pss_cons (ps_if (PW.pt (pw_or (pt_cmpR op_gt (pe_callB call_len (by rfl) T.b_len (by decide +kernel) (pa_cons (pv 2) pa_nil)) pe_int (nomark _)) (pw_or1 (PW.pt (pw_and (pt_cmpR op_gt (pe_callB call_len (by rfl) T.b_len (by decide +kernel) (pa_cons (pv 2) pa_nil)) pe_int (nomark _)) (pw_and1 (pt_cmpR op_eq (pe_ix ix_str (pv 2) pe_int (fun _ _ => rfl)) pe_str (nomark _)))))))) (pss_one (ps_raise rfl (takes_of rfl rfl rfl rfl) (pmk_own PySem.F.excBase_ValueError X.xP X.gP X.kP (raises_own X.bP X.tP) rfl))) pss_nil)
    (pss_one (ps_ret (pe_tup (pa_cons pe_str (pa_cons (pv 2) (pa_cons (pv 1) pa_nil)))))))) pss_nil)
    (pss_cons (ps_if (pt_cmpR op_eq (pe_ix ix_str (pv 0) (pv 1) (fun _ _ => rfl)) pe_str (nomark _)) (pss_one (ps_ret (pe_tup (pa_cons pe_str (pa_cons (pe_callS FM hr rfl mgM kM bM (fun σ => passAt (takes_of rfl rfl rfl rfl) σ) (pa_cons (pv 0) (pa_cons (pv 1) pa_nil))) (pa_cons (pv 1) pa_nil)))))) pss_nil)
    (pss_cons (ps_for (passes_of rfl) rfl (pi_tup (pe_glob (v := .ref pS) rfl G.gS rfl)) (pg_name (i := 3) scOne.nd rfl (Or.inl rfl)) (pss_one (ps_if (pt_val (pe_bm PySem.F.plainAttrs_str PySem.F.slot_str_startswith PySem.F.type_str_startswith mt_startswith3 (pv 0) (pa_cons (pv 3) (pa_cons (pv 1) pa_nil)))) (pss_one (ps_ret (pe_tup (pa_cons pe_str (pa_cons (pv 3) (pa_cons (pv 1) pa_nil)))))) pss_nil)))
    (pss_one (ps_raise rfl (takes_of rfl rfl rfl rfl) (pmk_own PySem.F.excBase_ValueError X.xP X.gP X.kP (raises_own X.bP X.tP) rfl))))))), ?_⟩
    have hl : x.length = (tl x).length := len_tl x
    obtain ⟨c, hc⟩ : ∃ c, (tl x)[a]? = some c := ⟨(tl x)[a], by simp [ha]⟩
    have ed : (tl x).drop a = c :: (tl x).drop (a + 1) := by
      rw [List.drop_eq_getElem_cons ha, (List.getElem?_eq_some_iff.mp hc).2]
    have hfl := frontOf_le (tl sLett) ((tl x).drop a)
    have hff := frontOf_le (tl sFig) ((tl x).drop a)
    rw [List.length_drop] at hfl hff
    have lenM : ∀ l : List Nat, (mkS l).length = l.length := fun l => by rw [len_tl]
    rw [ed] at kS kN hfl hff
    refine ⟨_, rfl, _, rfl, _, _, _, rfl, rfl, hx, atI_nat hc, _, _, rfl, rfl, _, rfl, ?_⟩
    refine ite2 (fun h1 => ?_) (fun h1 => ?_)
    · -- a word or a name
      have h1' : c ∈ tl sLett := of_decide_eq_true h1
      refine ⟨_, rfl, _, rfl, x, a, sLett, rfl, hx, by omega, ?_⟩
      rw [ed]
      generalize hU : frontOf (tl sLett) (c :: (tl x).drop (a + 1)) = U at *
      refine ⟨_, rfl, _, _, rfl, ⟨by rw [lenM]; omega, rfl⟩, _, _, rfl, rfl, _, rfl, ?_⟩
      rw [lenM]
      have eO : oneTok (c :: (tl x).drop (a + 1)) = (if 12 < U.length then none else some (if (wordsL.any fun y => y == mkS U) = true then Str.ofString "word" else Str.ofString "name", U)) := by
        unfold oneTok
        simp only [hU]
        rw [if_pos h1']
      rw [eO] at kS kN
      refine ite2 (fun h12 => ?_) (fun h12 => ?_)
      · exact kN (by rw [if_pos (by have := of_decide_eq_true h12; omega)]) _ (Same.refl _)
      · rw [if_neg (fun z => h12 (decide_eq_true (by omega)))] at kS
        refine ⟨_, rfl, pW, _, rfl, .inr (G.hW _), rfl, flat_strs _, _, rfl, ?_⟩
        rw [if_neg Bool.false_ne_true, inV_strs]
        refine ite2 (fun hw => ?_) (fun hw => ?_)
        · rw [if_pos hw] at kS
          refine ⟨_, rfl, _, rfl, (by show 3 ≤ sizeLine; decide), fun p hp => ?_⟩
          exact kS _ _ rfl _ p (same_upd (Same.refl _) hp) hp upd_same
        · rw [if_neg hw] at kS
          refine ⟨_, rfl, _, rfl, (by show 3 ≤ sizeLine; decide), fun p hp => ?_⟩
          exact kS _ _ rfl _ p (same_upd (Same.refl _) hp) hp upd_same
    · have h1' : ¬ c ∈ tl sLett := fun z => h1 (decide_eq_true z)
      refine ⟨_, rfl, _, rfl, _, _, _, rfl, rfl, hx, atI_nat hc, _, _, rfl, rfl, _, rfl, ?_⟩
      refine ite2 (fun h2 => ?_) (fun h2 => ?_)
      · -- a number
        have h2' : c ∈ tl sFig := of_decide_eq_true h2
        refine ⟨_, rfl, _, rfl, x, a, sFig, rfl, hx, by omega, ?_⟩
        rw [ed]
        have e0 : (frontOf (tl sFig) (c :: (tl x).drop (a + 1)))[0]? = some c := by
          unfold frontOf
          rw [List.takeWhile_cons, if_pos (by simpa using h2')]
          rfl
        generalize hU : frontOf (tl sFig) (c :: (tl x).drop (a + 1)) = U at *
        have eO : oneTok (c :: (tl x).drop (a + 1)) = (if 9 < U.length ∨ (1 < U.length ∧ c = 48) then none else some (Str.ofString "number", U)) := by
          unfold oneTok
          simp only [hU]
          rw [if_neg h1', if_pos h2']
        rw [eO] at kS kN
        have hUs : (mkS U).length ≤ sizeLine := by rw [lenM]; omega
        have fin : ¬ (9 < U.length ∨ (1 < U.length ∧ c = 48)) → ∀ p, H p = none → Q (.ref p) (upd H p (.tup [.str (Str.ofString "number"), .str (mkS U), .int (a : Int)])) := fun hn p hp =>
          kS _ _ (by rw [if_neg hn]) _ p (same_upd (Same.refl _) hp) hp upd_same
        refine ⟨_, rfl, _, _, rfl, ⟨hUs, rfl⟩, _, _, rfl, rfl, _, rfl, ?_⟩
        rw [lenM]
        refine ite2 (fun h9 => ?_) (fun h9 => ?_)
        · refine iteT ?_
          exact kN (by rw [if_pos (.inl (by have := of_decide_eq_true h9; omega))]) _ (Same.refl _)
        · have h9' : ¬ 9 < U.length := fun z => h9 (decide_eq_true (by omega))
          refine ⟨_, rfl, _, _, rfl, ⟨hUs, rfl⟩, _, _, rfl, rfl, _, rfl, ?_⟩
          rw [lenM]
          refine ite2 (fun h11 => ?_) (fun h11 => ?_)
          · have h11' : 1 < U.length := by have := of_decide_eq_true h11; omega
            refine ⟨_, rfl, _, _, _, rfl, rfl, hUs, atI_nat (j := 0) e0, rfl, _, rfl, ?_⟩
            rw [show decide (V.str ⟨#[c]⟩ = V.str (Str.ofString "0")) = decide (c = 48) from one_eq c 48]
            refine ite2 (fun h0 => ?_) (fun h0 => ?_)
            · exact kN (by rw [if_pos (.inr ⟨h11', of_decide_eq_true h0⟩)]) _ (Same.refl _)
            · refine ⟨_, rfl, _, rfl, (by show 3 ≤ sizeLine; decide), fun p hp => ?_⟩
              exact fin (fun z => z.elim h9' fun z => h0 (decide_eq_true z.2)) p hp
          · refine iteF ?_
            refine ⟨_, rfl, _, rfl, (by show 3 ≤ sizeLine; decide), fun p hp => ?_⟩
            exact fin (fun z => z.elim h9' fun z => h11 (decide_eq_true (by omega))) p hp
      · have h2' : ¬ c ∈ tl sFig := fun z => h2 (decide_eq_true z)
        refine ⟨_, rfl, _, rfl, _, _, _, rfl, rfl, hx, atI_nat hc, rfl, _, rfl, ?_⟩
        rw [show decide (V.str ⟨#[c]⟩ = V.str (Str.ofString "'")) = decide (c = 39) from one_eq c 39]
        refine ite2 (fun h3 => ?_) (fun h3 => ?_)
        · -- a text
          have h3' : c = 39 := of_decide_eq_true h3
          have eO : oneTok (c :: (tl x).drop (a + 1)) = (marked ((tl x).drop (a + 1))).map fun u => (Str.ofString "text", u) := by
            unfold oneTok
            dsimp only
            rw [if_neg h1', if_neg h2', if_pos h3']
          rw [eO] at kS kN
          refine ⟨_, rfl, _, rfl, x, a, rfl, hx, ha, fun u hu H1 s1 => ?_, fun hn H1 s1 => ?_⟩
          · refine ⟨_, rfl, (by show 3 ≤ sizeLine; decide), fun p hp => ?_⟩
            exact kS _ u (by rw [hu]; rfl) _ p (same_upd s1 hp) (s1.free hp) upd_same
          · exact kN (by rw [hn]; rfl) _ s1
        · -- a sign
          have h3' : ¬ c = 39 := fun z => h3 (decide_eq_true z)
          have eO : oneTok (c :: (tl x).drop (a + 1)) = (signsL.find? fun s => startsL s (c :: (tl x).drop (a + 1))).map fun s => (Str.ofString "sign", tl s) := by
            unfold oneTok
            dsimp only
            rw [if_neg h1', if_neg h2', if_neg h3']
          rw [eO] at kS kN
          refine ⟨pS, rfl, ⟨_, G.hS _⟩, for_tup (K := K) (a := pS) (xs := signsL.map V.str) (fun i σ H' => ∃ v, σ = [some (.str x), some (.int (a : Int)), none, v] ∧ H' = H ∧ ∀ j, j < i → ∀ t, signsL[j]? = some t → startsL t (c :: (tl x).drop (a + 1)) = false)
            ⟨none, rfl, rfl, fun j hj => absurd hj (Nat.not_lt_zero j)⟩ (fun _ _ _ _ _ => G.hS _) ?_ ?_⟩
          · rintro i y σ H' hi ⟨v, rfl, rfl, hno⟩
            obtain ⟨t, ht, rfl⟩ := strs_at hi
            refine ⟨_, rfl, rfl, _, rfl, _, rfl, x, t, _, rfl, rfl, _, rfl, ?_⟩
            rw [starts_eq x t a (by omega), ed]
            refine ite2 (fun hs => ?_) (fun hs => ?_)
            · refine ⟨_, rfl, _, rfl, (by show 3 ≤ sizeLine; decide), fun p hp => ?_⟩
              refine kS (Str.ofString "sign") (tl t) (by rw [find_first (p := fun s => startsL s (c :: (tl x).drop (a + 1))) ht hs hno]; rfl) _ p (same_upd (Same.refl _) hp) hp ?_
              rw [mkS_tl]
              exact upd_same
            · refine ⟨_, rfl, rfl, fun j hj u hu => ?_⟩
              by_cases hji : j < i
              · exact hno j hji u hu
              · have : j = i := by omega
                subst this
                rw [ht] at hu
                cases hu
                simpa using hs
          · rintro σ H' ⟨v, rfl, rfl, hno⟩
            refine kN ?_ _ (Same.refl _)
            rw [find_no (p := fun s => startsL s (c :: (tl x).drop (a + 1))) (fun j hj t ht => hno j (by rw [List.length_map]; exact hj) t ht)]
            rfl
end
end K58

namespace K58
open PySem PySem.Spec PyProof.Rows L2
abbrev Tk : Type := Str × List Nat × Nat
def szL (k : Str) (u : List Nat) : Nat := u.length + (if k = Str.ofString "text" then 2 else 0)
theorem sizeT_mk (k : Str) (u : List Nat) : sizeT k (mkS u) = szL k u := by
  unfold sizeT szL
  rw [len_tl]
def sBl : Str := Str.ofString " \n"
def toks : Nat → List Nat → Option (List Tk)
  | _, [] => some []
  | a, c :: r => if c ∈ tl sBl then toks (a + 1) r else match oneTok (c :: r) with
    | none => none
    | some (k, u) => (toks (a + szL k u) (r.drop (szL k u - 1))).map fun ts => (k, u, a) :: ts
termination_by _ l => l.length
decreasing_by
  · simp
  · simp; omega
def tokR (l : List Nat) : Option (List Tk) := if 2000 < l.length then none else match toks 0 l with
  | none => none
  | some ts => if 200 < ts.length then none else some ts
theorem toks_nil (a : Nat) : toks a [] = some [] := by rw [toks]
theorem toks_bl {a c : Nat} {r : List Nat} (h : c ∈ tl sBl) : toks a (c :: r) = toks (a + 1) r := by rw [toks, if_pos h]
theorem toks_no {a c : Nat} {r : List Nat} (h : ¬ c ∈ tl sBl) (e : oneTok (c :: r) = none) : toks a (c :: r) = none := by rw [toks, if_neg h, e]
theorem toks_one {a c : Nat} {r : List Nat} {k : Str} {u : List Nat} (h : ¬ c ∈ tl sBl) (e : oneTok (c :: r) = some (k, u)) : toks a (c :: r) = (toks (a + szL k u) (r.drop (szL k u - 1))).map fun ts => (k, u, a) :: ts := by rw [toks, if_neg h, e]
theorem front_pos {S r : List Nat} {c : Nat} (h : c ∈ S) : 1 ≤ (frontOf S (c :: r)).length := by
  unfold frontOf
  rw [List.takeWhile_cons, if_pos (by simpa using h)]
  simp
theorem signs_pos : ∀ s ∈ signsL, 1 ≤ (tl s).length := by decide +kernel
theorem oneTok_pos {r : List Nat} {k : Str} {u : List Nat} (h : oneTok r = some (k, u)) : 1 ≤ szL k u := by
  unfold oneTok at h
  split at h
  · cases h
  · rename_i c t
    unfold szL
    split at h
    · rename_i hc
      split at h
      · cases h
      · cases h
        have := front_pos (r := t) hc
        omega
    · split at h
      · rename_i hc
        split at h
        · cases h
        · cases h
          have := front_pos (r := t) hc
          omega
      · split at h
        · cases e : marked t with
          | none => rw [e] at h; cases h
          | some v => rw [e] at h; cases h; simp
        · cases e : signsL.find? (fun s => startsL s (c :: t)) with
          | none => rw [e] at h; cases h
          | some v =>
            rw [e] at h
            cases h
            have := signs_pos v (List.mem_of_find?_eq_some e)
            omega
theorem oneTok_le {r : List Nat} {k : Str} {u : List Nat} (h : oneTok r = some (k, u)) : u.length ≤ r.length := by
  unfold oneTok at h
  split at h
  · cases h
  · rename_i c t
    split at h
    · split at h
      · cases h
      · cases h
        exact frontOf_le _ _
    · split at h
      · split at h
        · cases h
        · cases h
          exact frontOf_le _ _
      · split at h
        · cases e : marked t with
          | none => rw [e] at h; cases h
          | some v =>
            rw [e] at h; cases h
            unfold marked at e
            split at e
            · cases e
              have := upto_le 39 t
              simp only [List.length_cons]
              omega
            · cases e
        · cases e : signsL.find? (fun s => startsL s (c :: t)) with
          | none => rw [e] at h; cases h
          | some v =>
            rw [e] at h
            cases h
            have q := List.find?_some e
            have q2 := congrArg List.length (beq_iff_eq.mp (show ((c :: t).take (tl v).length == tl v) = true from q))
            rw [List.length_take] at q2
            omega
/-- a token as the heap has it -/
def TokV (H : Hp) (v : V) (t : Tk) : Prop := ∃ p, v = .ref p ∧ H p = some (.tup [.str t.1, .str (mkS t.2.1), .int (t.2.2 : Int)])
def ToksAt (H : Hp) (p : Addr) (ts : List Tk) : Prop := ∃ vs, H p = some (.lst vs) ∧ Paired (TokV H) vs ts
theorem paired_imp {α β : Type} {R S : α → β → Prop} (h : ∀ a b, R a b → S a b) : ∀ {xs : List α} {ys : List β}, Paired R xs ys → Paired S xs ys
  | _, _, .nil => .nil
  | _, _, .cons r t => .cons (h _ _ r) (paired_imp h t)
theorem paired_snoc {α β : Type} {R : α → β → Prop} {a : α} {b : β} (h : R a b) : ∀ {xs : List α} {ys : List β}, Paired R xs ys → Paired R (xs ++ [a]) (ys ++ [b])
  | _, _, .nil => .cons h .nil
  | _, _, .cons r t => .cons r (paired_snoc h t)
theorem scTokens : FnScope ["text", "found", "at", "row"] ["text"] (defScope sTokens) := ⟨rfl, rfl, rfl, by decide +kernel, rfl, by decide +kernel, by decide +kernel⟩
def spTokens (C : Addr) : Sp := fun vs H Q E =>
  (∃ x : Str, vs = [.str x] ∧ x.length ≤ sizeLine ∧ (∀ ts, tokR (tl x) = some ts → ∀ H' p, Same H H' → H p = none → ToksAt H' p ts → Q (.ref p) H') ∧ (tokR (tl x) = none → ∀ H', Same H H' → E (.ref C) none H')) ∨
  (∃ i : Int, vs = [.int i] ∧ ∀ H', Same H H' → E (.ref C) none H')
section
variable {P : Program} {w : World} {K : PySem.W.Frag} {mg : Str → Option Value} {base : Heap}
theorem ok_tokens {f C fO fZ pW pS : Addr} {fd fdO fdZ : FuncData} (F : Fun K "tokens" "tokens" sTokens f fd) (T : Blt mg) (X : ErrT K mg C) (G : Con58 K mg pW pS)
    (FO : FnOk P w K mg base (L2.CX P w) 2 fO fdO ["text", "at"] (spOne C)) (mgO : mg "_one" = some (.ref fO)) (kO : PySem.W.keepIn K (.ref fO) = true) (bO : Binds K fdO ["text", "at"] [])
    (FZ : FnOk P w K mg base CX0 1 fZ fdZ ["row"] (spSize K)) (mgZ : mg "_size" = some (.ref fZ)) (kZ : PySem.W.keepIn K (.ref fZ) = true) (bZ : Binds K fdZ ["row"] []) :
    FnOk P w K mg base (L2.CX P w) 3 f fd ["text"] (spTokens C) := by
  obtain ⟨tLo, GLo⟩ := G.gLo
  obtain ⟨tMo, GMo⟩ := G.gMo
  refine F.okX scTokens (fun vs H Q E h => ?_) (fun cdv A outer s H vs Q E hr h => ?_)
  · rcases h with ⟨x, rfl, _⟩ | ⟨i, rfl, _⟩ <;> rfl
  · have hr1 : Room 1 _ := hr.mono (by decide)
    refine ⟨_, (pss_cons (ps_if (PW.pt (pw_or (pt_not (pt_val (pe_callB call_isi (by rfl) T.b_isinstance (by decide +kernel) (pa_cons (pv 0) (pa_cons (pe_bltn (v := .ty "str") (u := .type "str") (by rfl) T.b_str (by decide +kernel) rfl) pa_nil))))) (pw_or1 (pt_cmpR op_gt (pe_callB call_len (by rfl) T.b_len (by decide +kernel) (pa_cons (pv 0) pa_nil)) (pe_glob (v := .int 2000) rfl GLo ⟨_, rfl⟩) (nomark _))))) (pss_one (ps_raise rfl (takes_of rfl rfl rfl rfl) (pmk_own PySem.F.excBase_ValueError X.xP X.gP X.kP (raises_own X.bP X.tP) rfl))) pss_nil)
    (pss_cons (ps_set (i := 1) scTokens.nd rfl (Or.inl rfl) (pe_lst pa_nil))
    (pss_cons (ps_set (i := 2) scTokens.nd rfl (Or.inl rfl) pe_int)
    (pss_cons (ps_while (passes_of rfl) (pt_cmpR op_lt (pv 2) (pe_callB call_len (by rfl) T.b_len (by decide +kernel) (pa_cons (pv 0) pa_nil)) (nomark _)) (pss_one (ps_if (pt_cmpR op_in_sign (pe_ix ix_str (pv 0) (pv 2) (fun _ _ => rfl)) pe_str rfl) (pss_one (ps_set (i := 2) scTokens.nd rfl (Or.inl rfl) (pe_op op_add (pv 2) pe_int))) (pss_cons (ps_set (i := 3) scTokens.nd rfl (Or.inl rfl) (pe_callS FO hr rfl mgO kO bO (fun σ => passAt (takes_of rfl rfl rfl rfl) σ) (pa_cons (pv 0) (pa_cons (pv 2) pa_nil))))
    (pss_cons (ps_expr (pe_bm PySem.F.plainAttrs_list PySem.F.slot_list_append PySem.F.type_list_append mt_append (pv 1) (pa_cons (pv 3) pa_nil)))
    (pss_one (ps_set (i := 2) scTokens.nd rfl (Or.inl rfl) (pe_op op_add (pv 2) (pe_call FZ hr1 rfl mgZ kZ bZ .nil pass0 (pa_cons (pv 3) pa_nil))))))))))
    (pss_cons (ps_if (pt_cmpR op_gt (pe_callB call_len (by rfl) T.b_len (by decide +kernel) (pa_cons (pv 1) pa_nil)) (pe_glob (v := .int 200) rfl GMo ⟨_, rfl⟩) (nomark _)) (pss_one (ps_raise rfl (takes_of rfl rfl rfl rfl) (pmk_own PySem.F.excBase_ValueError X.xP X.gP X.kP (raises_own X.bP X.tP) rfl))) pss_nil)
    (pss_one (ps_ret (pv 1)))))))), ?_⟩
    rcases h with ⟨x, rfl, hx, kS, kN⟩ | ⟨i, rfl, kN⟩
    case inr =>
      refine ⟨_, rfl, _, _, .type "int", _, false, rfl, .ty "str", .base (.int _), kit_ty (by decide +kernel), false, rfl, ?_⟩
      refine iteT ?_
      exact kN _ (Same.refl _)
    have hl : x.length = (tl x).length := len_tl x
    refine ⟨_, rfl, _, _, .type "str", _, true, rfl, .ty "str", .base (.str _), kit_ty (by decide +kernel), true, rfl, ?_⟩
    refine iteF ?_
    refine ⟨_, rfl, _, _, rfl, ⟨hx, rfl⟩, _, _, rfl, rfl, _, rfl, ?_⟩
    refine ite2 (fun h2000 => ?_) (fun h2000 => ?_)
    · exact kN (by unfold tokR; rw [if_pos (by have := of_decide_eq_true h2000; omega)]) _ (Same.refl _)
    have h2 : ¬ 2000 < (tl x).length := fun z => h2000 (decide_eq_true (by omega))
    refine ⟨by show 0 ≤ sizeLine; decide, fun fa hfa => ?_⟩
    refine ⟨fun m σ H' => ∃ (a : Nat) (acc : List Tk) (vs : List V) (rv : Option V), m = (tl x).length - a ∧ σ = [some (.str x), some (.ref fa), some (.int (a : Int)), rv] ∧ Same H H' ∧ H' fa = some (.lst vs) ∧ Paired (TokV H') vs acc ∧ acc.length ≤ a ∧ vs.length = acc.length ∧
      toks 0 (tl x) = (toks a ((tl x).drop a)).map fun ts => acc ++ ts, ⟨_, 0, [], [], none, rfl, rfl, same_upd (Same.refl _) hfa, upd_same, .nil, Nat.le_refl _, rfl, by rw [List.drop_zero]; simp⟩, ?_⟩
    rintro m σ H' ⟨a, acc, vs, rv, rfl, rfl, sH, hF, hP, hA, hV, hR⟩
    refine ⟨_, rfl, _, rfl, _, _, rfl, ⟨hx, rfl⟩, _, _, rfl, rfl, _, rfl, ?_⟩
    refine ite2 (fun hlt => ?_) (fun hlt => ?_)
    · have ha : a < (tl x).length := by have := of_decide_eq_true hlt; omega
      obtain ⟨c, hc⟩ : ∃ c, (tl x)[a]? = some c := ⟨(tl x)[a], by simp [ha]⟩
      have ed : (tl x).drop a = c :: (tl x).drop (a + 1) := by
        rw [List.drop_eq_getElem_cons ha, (List.getElem?_eq_some_iff.mp hc).2]
      rw [ed] at hR
      refine ⟨_, fun _ _ z => z, ?_⟩
      refine ⟨_, rfl, _, rfl, _, _, _, rfl, rfl, hx, atI_nat hc, c, sBl, rfl, rfl, _, rfl, ?_⟩
      refine ite2 (fun hb => ?_) (fun hb => ?_)
      · refine ⟨_, rfl, _, _, rfl, rfl, ?_⟩
        rw [toks_bl (of_decide_eq_true hb)] at hR
        exact ⟨(tl x).length - (a + 1), by omega, a + 1, acc, vs, rv, rfl, rfl, sH, hF, hP, by omega, hV, hR⟩
      · have hb' : ¬ c ∈ tl sBl := fun z => hb (decide_eq_true z)
        refine ⟨_, rfl, _, rfl, x, a, rfl, hx, ha, fun k u hku H1 p s1 hp1 hrow => ?_, fun hn H1 s1 => ?_⟩
        · rw [ed] at hku
          have hF1 : H1 fa = some (.lst vs) := s1 _ _ hF
          have nfp : p ≠ fa := ne_of hrow hF1 (by intro q; cases q)
          have hul := oneTok_le hku
          have hpos := oneTok_pos hku
          rw [List.length_cons, List.length_drop] at hul
          refine ⟨_, rfl, .inl ⟨rfl, _, SqL.of hF1⟩, _, rfl, fa, vs, _, rfl, rfl, hF1, (by rw [sizeLine_eq]; omega), ?_⟩
          have hrow2 : upd H1 fa (.lst (vs ++ [V.ref p])) p = some (.tup [.str k, .str (mkS u), .int (a : Int)]) := by rw [upd_ne nfp]; exact hrow
          refine ⟨_, rfl, _, rfl, p, k, mkS u, (a : Int), rfl, SqT.of hrow2, (by rw [len_tl]; show u.length ≤ sizeLine; omega), _, _, rfl, rfl, ?_⟩
          rw [sizeT_mk]
          rw [toks_one hb' hku] at hR
          refine ⟨(tl x).length - (a + szL k u), by omega, a + szL k u, acc ++ [(k, u, a)], vs ++ [V.ref p], _, rfl, rfl, ?_, upd_same, ?_, ?_, ?_, ?_⟩
          · intro b o e
            have nb : b ≠ fa := fun z => by rw [z, hfa] at e; cases e
            rw [upd_ne nb]
            exact s1 _ _ (sH _ _ e)
          · refine paired_snoc ⟨p, rfl, hrow2⟩ (paired_imp (fun v t ⟨q, e1, e2⟩ => ⟨q, e1, ?_⟩) hP)
            have nq : q ≠ fa := ne_of e2 hF (by intro z; cases z)
            rw [upd_ne nq]
            exact s1 _ _ e2
          · rw [List.length_append, List.length_singleton]; omega
          · rw [List.length_append, List.length_append, List.length_singleton, List.length_singleton, hV]
          · rw [hR, List.drop_drop, Option.map_map]
            rw [show a + 1 + (szL k u - 1) = a + szL k u by omega]
            congr 1
            funext ts
            simp
        · rw [ed] at hn
          rw [toks_no hb' hn] at hR
          exact kN (by unfold tokR; rw [if_neg h2, hR]; rfl) _ (fun b o e => s1 _ _ (sH _ _ e))
    · have ha : (tl x).length ≤ a := by
        have : ¬ ((a : Int) < (x.length : Int)) := fun z => hlt (decide_eq_true z)
        omega
      have ed : (tl x).drop a = [] := List.drop_eq_nil_of_le ha
      rw [ed, toks_nil] at hR
      have hR' : toks 0 (tl x) = some acc := by rw [hR]; simp
      refine ⟨_, rfl, _, _, rfl, .inl ⟨_, SqL.of hF, rfl⟩, _, _, rfl, rfl, _, rfl, ?_⟩
      refine ite2 (fun h200 => ?_) (fun h200 => ?_)
      · have := of_decide_eq_true h200
        exact kN (by unfold tokR; rw [if_neg h2, hR']; dsimp only; rw [if_pos (by omega)]) _ sH
      · have h200' : ¬ 200 < acc.length := fun z => h200 (decide_eq_true (by omega))
        refine ⟨_, rfl, ?_⟩
        exact kS acc (by unfold tokR; rw [if_neg h2, hR']; dsimp only; rw [if_neg h200']) _ _ sH hfa ⟨vs, hF, hP⟩
end
end K58

namespace K58
open PySem PySem.Spec PyProof.Rows L2
/-! ### _law_pool, _law_draw, _law_pick -/
theorem scPool : FnScope ["script"] ["script"] (defScope sPool) := ⟨rfl, rfl, rfl, by decide +kernel, rfl, by decide +kernel, by decide +kernel⟩
theorem scDraw : FnScope ["pool", "many", "found", "cell", "mixed"] ["pool", "many"] (defScope sDraw) := ⟨rfl, rfl, rfl, by decide +kernel, rfl, by decide +kernel, by decide +kernel⟩
theorem scPick : FnScope ["pool", "rows"] ["pool", "rows"] (defScope sPick) := ⟨rfl, rfl, rfl, by decide +kernel, rfl, by decide +kernel, by decide +kernel⟩
theorem scJoined : FnScope ["rows", "kind", "told", "place"] ["rows"] (defScope sJoined) := ⟨rfl, rfl, rfl, by decide +kernel, rfl, by decide +kernel, by decide +kernel⟩
theorem scSame : FnScope ["actual", "due", "k"] ["actual", "due"] (defScope sSame) := ⟨rfl, rfl, rfl, by decide +kernel, rfl, by decide +kernel, by decide +kernel⟩
/-- a pool at p: its cells at l, how many are taken, what is left of the last great one, the last small one, how many were drawn of it -/
def PoolOk (H : Hp) (p : Addr) : Prop := ∃ (l : Addr) (ns : List Int) (a b c d : Int), H p = some (.lst [.ref l, .int a, .int b, .int c, .int d]) ∧ H l = some (.lst (ns.map V.int)) ∧ ns.length ≤ 63 ∧ 0 ≤ a ∧ 0 ≤ b ∧ l ≠ p
/-- all but p is as it was -/
def SameBut (p : Addr) (H H' : Hp) : Prop := ∀ b o, b ≠ p → H b = some o → H' b = some o
theorem SameBut.refl (p : Addr) (H : Hp) : SameBut p H H := fun _ _ _ e => e
theorem SameBut.trans {p : Addr} {H H1 H2 : Hp} (a : SameBut p H H1) (b : SameBut p H1 H2) : SameBut p H H2 := fun c o n e => b c o n (a c o n e)
theorem SameBut.upd {p : Addr} {H H1 : Hp} {o : HO} (a : SameBut p H H1) : SameBut p H (upd H1 p o) := fun b u n e => by rw [upd_ne n]; exact a b u n e
theorem SameBut.of {p : Addr} {H H1 : Hp} (a : Same H H1) : SameBut p H H1 := fun b u _ e => a b u e
theorem SameBut.new {p q : Addr} {H H1 : Hp} {o : HO} (a : SameBut p H H1) (hq : H1 q = none) : SameBut p H (L2.upd H1 q o) := fun b u n e => by
  rw [upd_ne (ne_of_none (a b u n e) hq)]
  exact a b u n e
def spPool (K : PySem.W.Frag) : Sp := fun vs H Q _ => ∃ (a : Addr) (ns : List Int), vs = [.ref a] ∧ SqL K H a (ns.map V.int) ∧ ns.length ≤ 63 ∧ ∀ H' p, Same H H' → H p = none → PoolOk H' p → Q (.ref p) H'
def spDraw : Sp := fun vs H Q _ => ∃ (p : Addr) (m : Int), vs = [.ref p, .int m] ∧ PoolOk H p ∧ 1 ≤ m ∧ m ≤ 1000000000000000000 ∧ ∀ v H', 0 ≤ v → v < m → PoolOk H' p → SameBut p H H' → Q (.int v) H'
def spPick : Sp := fun vs H Q _ => ∃ (p r : Addr) (xs : List V), vs = [.ref p, .ref r] ∧ PoolOk H p ∧ H r = some (.lst xs) ∧ r ≠ p ∧ 1 ≤ xs.length ∧ xs.length ≤ sizeLine ∧ ∀ v H', v ∈ xs → PoolOk H' p → SameBut p H H' → Q v H'
section
variable {P : Program} {w : World} {K : PySem.W.Frag} {mg : Str → Option Value} {base : Heap}
theorem ok_pool {f : Addr} {fd : FuncData} (F : Fun K "_law_pool" "_law_pool" sPool f fd) (T : Blt mg) : FnOk P w K mg base CX0 1 f fd ["script"] (spPool K) := by
  refine F.ok scPool (fun vs H Q E h => ?_) (fun cdv A outer s H vs Q E hr h => ?_)
  · obtain ⟨a, ns, rfl, _⟩ := h
    rfl
  · obtain ⟨a, ns, rfl, hS, hn, k⟩ := h
    refine ⟨_, (pss_one (ps_ret (pe_lst (pa_cons (pe_callTy call_list_of (by rfl) T.b_list (by decide +kernel) (pa_cons (pv 0) pa_nil)) (pa_cons pe_int (pa_cons pe_int (pa_cons pe_int (pa_cons pe_int pa_nil)))))))), ?_⟩
    refine ⟨_, rfl, a, _, rfl, .inl hS, fun l hl => ⟨(by show 5 ≤ sizeLine; decide), fun p hp => ?_⟩⟩
    have nlp : l ≠ p := ne_of_none upd_same hp
    have hp0 : H p = Option.none := by rw [upd_ne (Ne.symm nlp)] at hp; exact hp
    exact k _ p (same_upd (same_upd (Same.refl _) hl) hp) hp0 ⟨l, ns, 0, 0, 0, 0, upd_same, by rw [upd_ne nlp, upd_same], hn, by omega, by omega, nlp⟩
theorem ok_draw {f : Addr} {fd : FuncData} (F : Fun K "_law_draw" "_law_draw" sDraw f fd) (T : Blt mg) : FnOk P w K mg base CX0 1 f fd ["pool", "many"] spDraw := by
  refine F.ok scDraw (fun vs H Q E h => ?_) (fun cdv A outer s H vs Q E hr h => ?_)
  · obtain ⟨p, m, rfl, _⟩ := h
    rfl
  · obtain ⟨p, m, rfl, ⟨l, ns, a, b, c, d, hp, hl, hn, ha, hb, nlp⟩, h1, h2, k⟩ := h
    refine ⟨_, (pss_cons (ps_if (pt_cmpR op_gt (pe_ix ix_list (pv 0) pe_int (fun _ _ => rfl)) pe_int (nomark _)) (pss_cons (ps_set (i := 2) scDraw.nd rfl (Or.inl rfl) (pe_op op_modN (pe_callTy call_int1 (by rfl) T.b_int (by decide +kernel) (pa_cons (pe_ix ix_list (pv 0) pe_int (fun _ _ => rfl)) pa_nil)) (pv 1)))
    (pss_cons (ps_asg (pe_op op_fdivW (pe_ix ix_list (pv 0) pe_int (fun _ _ => rfl)) (pv 1)) (pg_sub (pv 0) pe_int set_list))
    (pss_one (ps_ret (pv 2))))) pss_nil)
    (pss_cons (ps_if (PW.pt (pw_and (pt_cmpR op_eq (pe_op op_modN (pe_callTy call_int1 (by rfl) T.b_int (by decide +kernel) (pa_cons (pe_ix ix_list (pv 0) pe_int (fun _ _ => rfl)) pa_nil)) pe_int) pe_int (nomark _)) (pw_and1 (pt_cmpR op_lt (pe_ix ix_list (pv 0) pe_int (fun _ _ => rfl)) (pe_callB call_len (by rfl) T.b_len (by decide +kernel) (pa_cons (pe_ix ix_list (pv 0) pe_int (fun _ _ => rfl)) pa_nil)) (nomark _))))) (pss_cons (ps_set (i := 3) scDraw.nd rfl (Or.inl rfl) (pe_callB call_abs (by rfl) T.b_abs (by decide +kernel) (pa_cons (pe_ix ix_list (pe_ix ix_list (pv 0) pe_int (fun _ _ => rfl)) (pe_ix ix_list (pv 0) pe_int (fun _ _ => rfl)) (fun _ _ => rfl)) pa_nil)))
    (pss_cons (ps_asg (pe_op op_add (pe_ix ix_list (pv 0) pe_int (fun _ _ => rfl)) pe_int) (pg_sub (pv 0) pe_int set_list))
    (pss_cons (ps_if (pt_cmpR op_ge (pv 3) (pe_op op_pow pe_int pe_int) (nomark _)) (pss_cons (ps_asg (pe_op op_fdivW (pv 3) (pv 1)) (pg_sub (pv 0) pe_int set_list))
    (pss_one (ps_ret (pe_op op_modN (pe_callTy call_int1 (by rfl) T.b_int (by decide +kernel) (pa_cons (pv 3) pa_nil)) (pv 1))))) pss_nil)
    (pss_one (ps_asg (pv 3) (pg_sub (pv 0) pe_int set_list)))))) pss_nil)
    (pss_cons (ps_asg (pe_op op_add (pe_ix ix_list (pv 0) pe_int (fun _ _ => rfl)) pe_int) (pg_sub (pv 0) pe_int set_list))
    (pss_cons (ps_set (i := 4) scDraw.nd rfl (Or.inl rfl) (pe_op op_modN (pe_callTy call_int1 (by rfl) T.b_int (by decide +kernel) (pa_cons (pe_op op_add (pe_op op_add (pe_op op_mul (pe_ix ix_list (pv 0) pe_int (fun _ _ => rfl)) pe_int) (pe_op op_mul (pe_ix ix_list (pv 0) pe_int (fun _ _ => rfl)) pe_int)) pe_int) pa_nil)) pe_int))
    (pss_cons (ps_set (i := 4) scDraw.nd rfl (Or.inl rfl) (pe_op op_modN (pe_callTy call_int1 (by rfl) T.b_int (by decide +kernel) (pa_cons (pe_op op_add (pe_op op_mul (pv 4) (pv 4)) (pe_op op_mul (pe_ix ix_list (pv 0) pe_int (fun _ _ => rfl)) pe_int)) pa_nil)) pe_int))
    (pss_one (ps_ret (pe_op op_modN (pe_callTy call_int1 (by rfl) T.b_int (by decide +kernel) (pa_cons (pv 4) pa_nil)) (pv 1))))))))), ?_⟩
    have m0 : (0 : Int) < m := by omega
    have mne : m ≠ 0 := by omega
    have hw : CDivW 0 m := by
      have z := wide_div (i := 0) (j := m) (b := 63) m0 (by omega) (by omega) (by omega)
      exact z
    have hw' : ∀ i : Int, CDivW i m := fun i => hw
    -- the end: pool[4] = pool[4] + 1 .. return
    have fin : ∀ (a b c d : Int) (x y : Option V) (H' : Hp), H' p = some (.lst [.ref l, .int a, .int b, .int c, .int d]) → H' l = some (.lst (ns.map V.int)) → 0 ≤ a → 0 ≤ b → SameBut p H H' →
        tSeq (tAsg (tOp (rI0 fun i j => .int (i + j)) (tOp (rIxL K) (tVar 0) (tC (.int 4))) (tC (.int 1))) (gSub (tVar 0) (tC (.int 4)) rSetL))
          (tSeq (tAsg (tOp (rI (fun i j => j ≠ 0) fun i j => .int (i.fmod j)) (tCB (fun xs H Q => (∃ i, xs = [.int i] ∧ Q (.int i) H) ∨ ∃ k, xs = [.bl k] ∧ Q (.int (if k then 1 else 0)) H)
            (tCons (tOp (rI0 fun i j => .int (i + j)) (tOp (rI0 fun i j => .int (i + j)) (tOp (rI CMul fun i j => .int (i * j)) (tOp (rIxL K) (tVar 0) (tC (.int 3))) (tC (.int 48271))) (tOp (rI CMul fun i j => .int (i * j)) (tOp (rIxL K) (tVar 0) (tC (.int 4))) (tC (.int 69621)))) (tC (.int 7919))) tNil)) (tC (.int 2147483647))) (gName 4))
          (tSeq (tAsg (tOp (rI (fun i j => j ≠ 0) fun i j => .int (i.fmod j)) (tCB (fun xs H Q => (∃ i, xs = [.int i] ∧ Q (.int i) H) ∨ ∃ k, xs = [.bl k] ∧ Q (.int (if k then 1 else 0)) H)
            (tCons (tOp (rI0 fun i j => .int (i + j)) (tOp (rI CMul fun i j => .int (i * j)) (tVar 4) (tVar 4)) (tOp (rI CMul fun i j => .int (i * j)) (tOp (rIxL K) (tVar 0) (tC (.int 4))) (tC (.int 40692)))) tNil)) (tC (.int 2147483399))) (gName 4))
          (tRet (tOp (rI (fun i j => j ≠ 0) fun i j => .int (i.fmod j)) (tCB (fun xs H Q => (∃ i, xs = [.int i] ∧ Q (.int i) H) ∨ ∃ k, xs = [.bl k] ∧ Q (.int (if k then 1 else 0)) H) (tCons (tVar 4) tNil)) (tVar 1)))))
          { nx := fun _ H' => Q .non H', rt := Q } [some (.ref p), some (.int m), x, y, none] H' := by
      intro a b c d x y H' hp hl ha hb sb
      refine ⟨_, rfl, p, _, _, _, rfl, rfl, SqL.of hp, atI_nat (j := 4) rfl, _, _, rfl, rfl, _, rfl, p, _, _, 4, rfl, rfl, hp, rfl, ?_⟩
      have hl' : upd H' p (.lst [.ref l, .int a, .int b, .int c, .int (d + 1)]) l = some (.lst (ns.map V.int)) := by rw [upd_ne nlp]; exact hl
      show tSeq _ _ _ _ (upd H' p (.lst [.ref l, .int a, .int b, .int c, .int (d + 1)]))
      have hp2 : upd H' p (.lst [V.ref l, V.int a, V.int b, V.int c, V.int (d + 1)]) p = some (.lst [V.ref l, V.int a, V.int b, V.int c, V.int (d + 1)]) := upd_same
      have sb2 : SameBut p H (upd H' p (.lst [V.ref l, V.int a, V.int b, V.int c, V.int (d + 1)])) := sb.upd
      generalize upd H' p (.lst [V.ref l, V.int a, V.int b, V.int c, V.int (d + 1)]) = H2 at *
      refine ⟨_, rfl, p, _, _, _, rfl, rfl, SqL.of hp2, atI_nat (j := 3) rfl, _, _, rfl, rfl, .inr ⟨by decide, by decide⟩, ?_⟩
      refine ⟨_, rfl, p, _, _, _, rfl, rfl, SqL.of hp2, atI_nat (j := 4) rfl, _, _, rfl, rfl, .inr ⟨by decide, by decide⟩, ?_⟩
      refine ⟨_, _, rfl, rfl, _, _, rfl, rfl, .inl ⟨_, rfl, _, _, rfl, rfl, (show (2147483647 : Int) ≠ 0 by decide), ?_⟩⟩
      have q0 := Int.fmod_nonneg_of_pos (c * 48271 + (d + 1) * 69621 + 7919) (show (0 : Int) < 2147483647 by decide)
      have q1 := Int.fmod_lt_of_pos (c * 48271 + (d + 1) * 69621 + 7919) (show (0 : Int) < 2147483647 by decide)
      refine ⟨_, rfl, _, rfl, _, _, rfl, rfl, .inl ⟨by omega, by omega⟩, ?_⟩
      refine ⟨_, rfl, p, _, _, _, rfl, rfl, SqL.of hp2, atI_nat (j := 4) rfl, _, _, rfl, rfl, .inr ⟨by decide, by decide⟩, ?_⟩
      refine ⟨_, _, rfl, rfl, .inl ⟨_, rfl, _, _, rfl, rfl, (show (2147483399 : Int) ≠ 0 by decide), ?_⟩⟩
      refine ⟨_, rfl, .inl ⟨_, rfl, _, rfl, _, _, rfl, rfl, mne, ?_⟩⟩
      exact k _ _ (Int.fmod_nonneg_of_pos _ m0) (Int.fmod_lt_of_pos _ m0) ⟨l, ns, a, b, c, d + 1, hp2, hl', hn, ha, hb, nlp⟩ sb2
    refine ⟨_, rfl, p, _, _, _, rfl, rfl, SqL.of hp, atI_nat (j := 2) rfl, _, _, rfl, rfl, _, rfl, ?_⟩
    refine ite2 (fun hb0 => ?_) (fun hb0 => ?_)
    · -- what is left of a great cell
      refine ⟨_, rfl, p, _, _, _, rfl, rfl, SqL.of hp, atI_nat (j := 2) rfl, .inl ⟨_, rfl, _, rfl, _, _, rfl, rfl, mne, ?_⟩⟩
      refine ⟨_, rfl, p, _, _, _, rfl, rfl, SqL.of hp, atI_nat (j := 2) rfl, _, rfl, _, _, rfl, rfl, hw' _, _, rfl, p, _, _, 2, rfl, rfl, hp, rfl, ?_⟩
      refine ⟨_, rfl, ?_⟩
      exact k _ _ (Int.fmod_nonneg_of_pos _ m0) (Int.fmod_lt_of_pos _ m0) ⟨l, ns, a, b / m, c, d, upd_same, by rw [upd_ne nlp]; exact hl, hn, ha, Int.ediv_nonneg hb (by omega), nlp⟩ (SameBut.refl p H).upd
    · refine ⟨_, rfl, p, _, _, _, rfl, rfl, SqL.of hp, atI_nat (j := 4) rfl, .inl ⟨_, rfl, _, _, rfl, rfl, (show (8 : Int) ≠ 0 by decide), rfl, _, rfl, ?_⟩⟩
      refine ite2 (fun h8 => ?_) (fun h8 => ?_)
      · refine ⟨_, rfl, p, _, _, _, rfl, rfl, SqL.of hp, atI_nat (j := 1) rfl, _, rfl, p, _, _, _, rfl, rfl, SqL.of hp, atI_nat (j := 0) rfl, _, _, rfl, .inl ⟨_, SqL.of hl, rfl⟩, _, _, rfl, rfl, _, rfl, ?_⟩
        refine ite2 (fun hlt => ?_) (fun hlt => ?_)
        · have hlt' := of_decide_eq_true hlt
          rw [List.length_map] at hlt'
          obtain ⟨n, rfl⟩ := Int.eq_ofNat_of_zero_le ha
          have hn' : n < ns.length := by omega
          refine ⟨_, rfl, p, _, _, _, rfl, rfl, SqL.of hp, atI_nat (j := 0) rfl, _, rfl, p, _, _, _, rfl, rfl, SqL.of hp, atI_nat (j := 1) rfl, l, _, _, _, rfl, rfl, SqL.of hl, atI_nat (v := V.int ns[n]) (by simp [hn']), _, rfl, ?_⟩
          have hcell : 0 ≤ (if ns[n] < 0 then -ns[n] else ns[n]) := by split <;> omega
          generalize (if ns[n] < 0 then -ns[n] else ns[n]) = cell at *
          refine ⟨_, rfl, p, _, _, _, rfl, rfl, SqL.of hp, atI_nat (j := 1) rfl, _, _, rfl, rfl, _, rfl, p, _, _, 1, rfl, rfl, hp, rfl, ?_⟩
          have hp2 : upd H p (.lst [V.ref l, V.int ((n : Int) + 1), V.int b, V.int c, V.int d]) p = some (.lst [V.ref l, V.int ((n : Int) + 1), V.int b, V.int c, V.int d]) := upd_same
          have hl2 : upd H p (.lst [V.ref l, V.int ((n : Int) + 1), V.int b, V.int c, V.int d]) l = some (.lst (ns.map V.int)) := by rw [upd_ne nlp]; exact hl
          have sb2 : SameBut p H (upd H p (.lst [V.ref l, V.int ((n : Int) + 1), V.int b, V.int c, V.int d])) := (SameBut.refl p H).upd
          show tSeq _ _ _ _ (upd H p (.lst [V.ref l, V.int ((n : Int) + 1), V.int b, V.int c, V.int d]))
          generalize upd H p (.lst [V.ref l, V.int ((n : Int) + 1), V.int b, V.int c, V.int d]) = H2 at *
          refine ⟨_, rfl, _, _, rfl, rfl, ⟨by decide, by decide, by decide⟩, _, _, rfl, rfl, _, rfl, ?_⟩
          refine ite2 (fun hg => ?_) (fun hg => ?_)
          · refine ⟨_, rfl, _, rfl, _, _, rfl, rfl, hw' _, _, rfl, p, _, _, 2, rfl, rfl, hp2, rfl, ?_⟩
            refine ⟨_, rfl, .inl ⟨_, rfl, _, rfl, _, _, rfl, rfl, mne, ?_⟩⟩
            exact k _ _ (Int.fmod_nonneg_of_pos _ m0) (Int.fmod_lt_of_pos _ m0) ⟨l, ns, (n : Int) + 1, cell / m, c, d, upd_same, by rw [upd_ne nlp]; exact hl2, hn, by omega, Int.ediv_nonneg hcell (by omega), nlp⟩ sb2.upd
          · refine ⟨_, rfl, _, rfl, p, _, _, 3, rfl, rfl, hp2, rfl, ?_⟩
            exact fin ((n : Int) + 1) b cell d none (some (.int cell)) _ upd_same (by rw [upd_ne nlp]; exact hl2) (by omega) hb sb2.upd
        · exact fin a b c d none none H hp hl ha hb (SameBut.refl p H)
      · refine iteF ?_
        exact fin a b c d none none H hp hl ha hb (SameBut.refl p H)
theorem ok_pick {f fD : Addr} {fd fdD : FuncData} (F : Fun K "_law_pick" "_law_pick" sPick f fd) (T : Blt mg)
    (FD : FnOk P w K mg base CX0 1 fD fdD ["pool", "many"] spDraw) (mgD : mg "_law_draw" = some (.ref fD)) (kD : PySem.W.keepIn K (.ref fD) = true) (bD : Binds K fdD ["pool", "many"] []) : FnOk P w K mg base CX0 2 f fd ["pool", "rows"] spPick := by
  refine F.ok scPick (fun vs H Q E h => ?_) (fun cdv A outer s H vs Q E hr h => ?_)
  · obtain ⟨p, r, xs, rfl, _⟩ := h
    rfl
  · obtain ⟨p, r, xs, rfl, hP, hr1, nrp, hx, hz, k⟩ := h
    refine ⟨_, (pss_one (ps_ret (pe_ix ix_list (pv 1) (pe_call FD hr rfl mgD kD bD .nil pass0 (pa_cons (pv 0) (pa_cons (pe_callB call_len (by rfl) T.b_len (by decide +kernel) (pa_cons (pv 1) pa_nil)) pa_nil))) (fun _ _ => rfl)))), ?_⟩
    refine ⟨_, rfl, _, rfl, _, rfl, _, _, rfl, .inl ⟨_, SqL.of hr1, rfl⟩, p, (xs.length : Int), rfl, hP, by omega, ?_, fun v H' h0 hv hP' sb => ?_⟩
    · rw [sizeLine_eq] at hz; omega
    · obtain ⟨n, rfl⟩ := Int.eq_ofNat_of_zero_le h0
      have hn : n < xs.length := by omega
      refine ⟨r, xs, _, xs[n], rfl, rfl, SqL.of (sb _ _ nrp hr1), atI_nat (by simp [hn]), ?_⟩
      exact k _ _ (List.getElem_mem hn) hP' sb
end
end K58

namespace K58
open PySem PySem.Spec PyProof.Rows L2
/-! ### _law_same: of the same data it says True -/
/-- data without dicts, so deep at most -/
def okD : Nat → PyData → Prop
  | 0, _ => False
  | n + 1, d => match d with
    | .dict _ => False
    | .list ds => ds.length ≤ 1000000 ∧ ∀ e ∈ ds, okD n e
    | .tuple ds => ds.length ≤ 1000000 ∧ ∀ e ∈ ds, okD n e
    | _ => True
theorem seqT {K : PySem.W.Frag} {H H' : Hp} {a : Addr} {xs : List V} (s : Same H H') (h : SqT K H a xs) : SqT K H' a xs := by
  rcases h with (h | ⟨o, h⟩) | h
  · exact .inl (.inl (s _ _ h))
  · exact .inl (.inr ⟨o, s _ _ h⟩)
  · exact .inr h
mutual
theorem dp_keep {K : PySem.W.Frag} {H H' : Hp} (s : Same H H') : ∀ {d : PyData} {v : V}, Dp K H v d → Dp K H' v d
  | _, _, .non => .non
  | _, _, .bl b => .bl b
  | _, _, .int i => .int i
  | _, _, .str x => .str x
  | _, _, .lst h t => .lst (s.seq h) (dpAll_keep s t)
  | _, _, .tup h t => .tup (by
      rcases h with (h | ⟨o, h⟩) | h
      · exact .inl (.inl (s _ _ h))
      · exact .inl (.inr ⟨o, s _ _ h⟩)
      · exact .inr h) (dpAll_keep s t)
theorem dpAll_keep {K : PySem.W.Frag} {H H' : Hp} (s : Same H H') : ∀ {ds : List PyData} {vs : List V}, DpAll K H vs ds → DpAll K H' vs ds
  | _, _, .nil => .nil
  | _, _, .cons h t => .cons (dp_keep s h) (dpAll_keep s t)
end
theorem dpAll_at {K : PySem.W.Frag} {H : Hp} : ∀ {ds : List PyData} {vs : List V} {i : Nat} {d : PyData}, DpAll K H vs ds → ds[i]? = some d → ∃ v, vs[i]? = some v ∧ Dp K H v d
  | _, _, _, _, .nil, e => by simp at e
  | _, _, 0, _, .cons h _, e => by
    have := Option.some.inj e
    subst this
    exact ⟨_, rfl, h⟩
  | _, _, i + 1, _, .cons _ t, e => by
    obtain ⟨x, e1, e2⟩ := dpAll_at (i := i) t (by simpa using e)
    exact ⟨x, by simpa using e1, e2⟩
theorem dpAll_len {K : PySem.W.Frag} {H : Hp} : ∀ {ds : List PyData} {vs : List V}, DpAll K H vs ds → vs.length = ds.length
  | _, _, .nil => rfl
  | _, _, .cons _ t => by rw [List.length_cons, List.length_cons, dpAll_len t]
/-- the type of a list, a tuple as the heap tells it -/
theorem tyL {K : PySem.W.Frag} {H : Hp} {a : Addr} {xs : List V} (h : SqL K H a xs) : TyX K H (.ref a) (.type "list") := by
  rcases h with (h | ⟨o, h⟩) | ⟨o, its, n, h, c, _⟩
  · exact .base (.lst h)
  · exact .base (.frz h)
  · exact .kList h c
theorem tyT {K : PySem.W.Frag} {H : Hp} {a : Addr} {xs : List V} (h : SqT K H a xs) : TyX K H (.ref a) (.type "tuple") := by
  rcases h with (h | ⟨o, h⟩) | ⟨o, its, n, h, c, _⟩
  · exact .base (.tup h)
  · exact .fTuple h
  · exact .kTuple h c
theorem any_no {K : PySem.W.Frag} {t : String} (h1 : kitB t "tuple" = some false) (h2 : kitB t "list" = some false) : PySem.W.kitAny K (.type t) [.type "tuple", .type "list"] = some false :=
  kitAny_cons (kit_ty h1) (fun _ => kitAny_cons (kit_ty h2) (fun _ => kitAny_nil) (fun z => by cases z)) (fun z => by cases z)
theorem any_list {K : PySem.W.Frag} : PySem.W.kitAny K (.type "list") [.type "tuple", .type "list"] = some true :=
  kitAny_cons (b := false) (kit_ty (by decide +kernel)) (fun _ => kitAny_cons (b := true) (kit_ty (by decide +kernel)) (fun z => by cases z) (fun _ => rfl)) (fun z => by cases z)
theorem any_tuple {K : PySem.W.Frag} : PySem.W.kitAny K (.type "tuple") [.type "tuple", .type "list"] = some true :=
  kitAny_cons (b := true) (kit_ty (by decide +kernel)) (fun z => by cases z) (fun _ => rfl)
def spSame (K : PySem.W.Frag) (n : Nat) : Sp := fun vs H Q _ => ∃ (v1 v2 : V) (d : PyData), vs = [v1, v2] ∧ Dp K H v1 d ∧ Dp K H v2 d ∧ okD n d ∧ ∀ H', Same H H' → Q (.bl true) H'
section
variable {P : Program} {w : World} {K : PySem.W.Frag} {mg : Str → Option Value} {base : Heap}
theorem ok_same {f : Addr} {fd : FuncData} (F : Fun K "_law_same" "_law_same" sSame f fd) (T : Blt mg) (mgS : mg "_law_same" = some (.ref f)) (kS : PySem.W.keepIn K (.ref f) = true) (bS : Binds K fd ["actual", "due"] []) :
    ∀ n : Nat, FnOk P w K mg base CX0 (n + 1) f fd ["actual", "due"] (spSame K n)
  | 0 => by
    refine F.ok scSame (fun vs H Q E h => ?_) (fun cdv A outer s H vs Q E hr h => ?_)
    · obtain ⟨v1, v2, d, rfl, _⟩ := h
      rfl
    · obtain ⟨v1, v2, d, rfl, _, _, z, _⟩ := h
      exact z.elim
  | n + 1 => by
    have FS := ok_same F T mgS kS bS n
    refine F.ok scSame (fun vs H Q E h => ?_) (fun cdv A outer s H vs Q E hr h => ?_)
    · obtain ⟨v1, v2, d, rfl, _⟩ := h
      rfl
    · obtain ⟨v1, v2, d, rfl, h1, h2, hd, k⟩ := h
      refine ⟨_, (pss_cons (ps_if (pt_cmpR op_isN (pv 1) pe_non (nomark _)) (pss_one (ps_ret (pe_cmpR op_isN (pv 0) pe_non (nomark _)))) pss_nil)
    (pss_cons (ps_if (pt_val (pe_callB call_isiT (by rfl) T.b_isinstance (by decide +kernel) (pa_cons (pv 1) (pa_cons (pe_tup (pa_cons (pe_bltn (v := .ty "tuple") (u := .type "tuple") (by rfl) T.b_tuple (by decide +kernel) rfl) (pa_cons (pe_bltn (v := .ty "list") (u := .type "list") (by rfl) T.b_list (by decide +kernel) rfl) pa_nil))) pa_nil)))) (pss_cons (ps_if (PW.pt (pw_or (pt_cmpR op_ne (pe_callB call_isi (by rfl) T.b_isinstance (by decide +kernel) (pa_cons (pv 1) (pa_cons (pe_bltn (v := .ty "tuple") (u := .type "tuple") (by rfl) T.b_tuple (by decide +kernel) rfl) pa_nil))) (pe_callB call_isi (by rfl) T.b_isinstance (by decide +kernel) (pa_cons (pv 0) (pa_cons (pe_bltn (v := .ty "tuple") (u := .type "tuple") (by rfl) T.b_tuple (by decide +kernel) rfl) pa_nil))) (nomark _)) (pw_or1 (pt_cmpR op_ne (pe_callB call_isi (by rfl) T.b_isinstance (by decide +kernel) (pa_cons (pv 1) (pa_cons (pe_bltn (v := .ty "list") (u := .type "list") (by rfl) T.b_list (by decide +kernel) rfl) pa_nil))) (pe_callB call_isi (by rfl) T.b_isinstance (by decide +kernel) (pa_cons (pv 0) (pa_cons (pe_bltn (v := .ty "list") (u := .type "list") (by rfl) T.b_list (by decide +kernel) rfl) pa_nil))) (nomark _))))) (pss_one (ps_ret pe_bl)) pss_nil)
    (pss_cons (ps_if (pt_cmpR op_ne (pe_callB call_len (by rfl) T.b_len (by decide +kernel) (pa_cons (pv 0) pa_nil)) (pe_callB call_len (by rfl) T.b_len (by decide +kernel) (pa_cons (pv 1) pa_nil)) (nomark _)) (pss_one (ps_ret pe_bl)) pss_nil)
    (pss_cons (ps_for PassesOwn.never rfl (pi_range1 (by rfl) T.b_range (pa_cons (pe_callB call_len (by rfl) T.b_len (by decide +kernel) (pa_cons (pv 1) pa_nil)) pa_nil)) (pg_name (i := 2) scSame.nd rfl (Or.inl rfl)) (pss_one (ps_if (pt_not (pt_val (pe_call FS hr rfl mgS kS bS .nil pass0 (pa_cons (pe_ix ix_seq (pv 0) (pv 2) (fun _ _ => rfl)) (pa_cons (pe_ix ix_seq (pv 1) (pv 2) (fun _ _ => rfl)) pa_nil))))) (pss_one (ps_ret pe_bl)) pss_nil)))
    (pss_one (ps_ret pe_bl))))) pss_nil)
    (pss_cons (ps_if (pt_val (pe_callB call_isi (by rfl) T.b_isinstance (by decide +kernel) (pa_cons (pv 1) (pa_cons (pe_bltn (v := .ty "bool") (u := .type "bool") (by rfl) T.b_bool (by decide +kernel) rfl) pa_nil)))) (pss_one (ps_ret (pe_and (pe_callB call_isi (by rfl) T.b_isinstance (by decide +kernel) (pa_cons (pv 0) (pa_cons (pe_bltn (v := .ty "bool") (u := .type "bool") (by rfl) T.b_bool (by decide +kernel) rfl) pa_nil))) (pe_one (pe_cmpR op_eq (pv 0) (pv 1) (nomark _)))))) pss_nil)
    (pss_cons (ps_if (pt_val (pe_callB call_isi (by rfl) T.b_isinstance (by decide +kernel) (pa_cons (pv 1) (pa_cons (pe_bltn (v := .ty "int") (u := .type "int") (by rfl) T.b_int (by decide +kernel) rfl) pa_nil)))) (pss_one (ps_ret (pe_and (pe_callB call_isi (by rfl) T.b_isinstance (by decide +kernel) (pa_cons (pv 0) (pa_cons (pe_bltn (v := .ty "int") (u := .type "int") (by rfl) T.b_int (by decide +kernel) rfl) pa_nil))) (pe_and (pe_not (pe_callB call_isi (by rfl) T.b_isinstance (by decide +kernel) (pa_cons (pv 0) (pa_cons (pe_bltn (v := .ty "bool") (u := .type "bool") (by rfl) T.b_bool (by decide +kernel) rfl) pa_nil)))) (pe_one (pe_cmpR op_eq (pv 0) (pv 1) (nomark _))))))) pss_nil)
    (pss_one (ps_ret (pe_and (pe_callB call_isi (by rfl) T.b_isinstance (by decide +kernel) (pa_cons (pv 0) (pa_cons (pe_bltn (v := .ty "str") (u := .type "str") (by rfl) T.b_str (by decide +kernel) rfl) pa_nil))) (pe_one (pe_cmpR op_eq (pv 0) (pv 1) (nomark _)))))))))), ?_⟩
      cases d with
      | dict _ => exact hd.elim
      | none =>
        cases h1; cases h2
        refine ⟨_, rfl, rfl, _, rfl, ?_⟩
        refine iteT ?_
        refine ⟨_, rfl, rfl, ?_⟩
        exact k _ (Same.refl _)
      | bool b =>
        cases h1; cases h2
        refine ⟨_, rfl, rfl, _, rfl, ?_⟩
        refine iteF ?_
        refine ⟨_, rfl, (by show 2 ≤ sizeLine; decide), fun p hp => ?_⟩
        refine ⟨_, p, _, .type "bool", _, false, rfl, upd_same, .cons (.ty "tuple") (.cons (.ty "list") .nil), .base (.bl _), any_no (by decide +kernel) (by decide +kernel), false, rfl, ?_⟩
        refine iteF ?_
        refine ⟨_, rfl, _, _, .type "bool", _, true, rfl, .ty "bool", .base (.bl _), kit_ty (by decide +kernel), true, rfl, ?_⟩
        refine iteT ?_
        refine ⟨_, rfl, _, _, .type "bool", _, true, rfl, .ty "bool", .base (.bl _), kit_ty (by decide +kernel), true, rfl, ?_⟩
        refine iteT ?_
        refine ⟨_, rfl, _, rfl, rfl, ?_⟩
        rw [decide_eq_true rfl]
        exact k _ (same_upd (Same.refl _) hp)
      | int i =>
        cases h1; cases h2
        refine ⟨_, rfl, rfl, _, rfl, ?_⟩
        refine iteF ?_
        refine ⟨_, rfl, (by show 2 ≤ sizeLine; decide), fun p hp => ?_⟩
        refine ⟨_, p, _, .type "int", _, false, rfl, upd_same, .cons (.ty "tuple") (.cons (.ty "list") .nil), .base (.int _), any_no (by decide +kernel) (by decide +kernel), false, rfl, ?_⟩
        refine iteF ?_
        refine ⟨_, rfl, _, _, .type "int", _, false, rfl, .ty "bool", .base (.int _), kit_ty (by decide +kernel), false, rfl, ?_⟩
        refine iteF ?_
        refine ⟨_, rfl, _, _, .type "int", _, true, rfl, .ty "int", .base (.int _), kit_ty (by decide +kernel), true, rfl, ?_⟩
        refine iteT ?_
        refine ⟨_, rfl, _, _, .type "int", _, true, rfl, .ty "int", .base (.int _), kit_ty (by decide +kernel), true, rfl, ?_⟩
        refine iteT ?_
        refine ⟨_, rfl, _, _, .type "int", _, false, rfl, .ty "bool", .base (.int _), kit_ty (by decide +kernel), false, rfl, true, rfl, ?_⟩
        refine iteT ?_
        refine ⟨_, rfl, _, rfl, rfl, ?_⟩
        rw [decide_eq_true rfl]
        exact k _ (same_upd (Same.refl _) hp)
      | str x =>
        cases h1; cases h2
        refine ⟨_, rfl, rfl, _, rfl, ?_⟩
        refine iteF ?_
        refine ⟨_, rfl, (by show 2 ≤ sizeLine; decide), fun p hp => ?_⟩
        refine ⟨_, p, _, .type "str", _, false, rfl, upd_same, .cons (.ty "tuple") (.cons (.ty "list") .nil), .base (.str _), any_no (by decide +kernel) (by decide +kernel), false, rfl, ?_⟩
        refine iteF ?_
        refine ⟨_, rfl, _, _, .type "str", _, false, rfl, .ty "bool", .base (.str _), kit_ty (by decide +kernel), false, rfl, ?_⟩
        refine iteF ?_
        refine ⟨_, rfl, _, _, .type "str", _, false, rfl, .ty "int", .base (.str _), kit_ty (by decide +kernel), false, rfl, ?_⟩
        refine iteF ?_
        refine ⟨_, rfl, _, _, .type "str", _, true, rfl, .ty "str", .base (.str _), kit_ty (by decide +kernel), true, rfl, ?_⟩
        refine iteT ?_
        refine ⟨_, rfl, _, rfl, rfl, ?_⟩
        rw [decide_eq_true rfl]
        exact k _ (same_upd (Same.refl _) hp)
      | list ds =>
        cases h1 with
        | lst q1 t1 =>
        cases h2 with
        | lst q2 t2 =>
        rename_i a1 xs1 a2 xs2
        have l1 := dpAll_len t1
        have l2 := dpAll_len t2
        refine ⟨_, rfl, rfl, _, rfl, ?_⟩
        refine iteF ?_
        refine ⟨_, rfl, (by show 2 ≤ sizeLine; decide), fun p hp => ?_⟩
        refine ⟨_, p, _, .type "list", _, true, rfl, upd_same, .cons (.ty "tuple") (.cons (.ty "list") .nil), tyL (Same.seq (same_upd (Same.refl _) hp) q2), any_list, true, rfl, ?_⟩
        refine iteT ?_
        have s0 : Same H (upd H p (.tup [.ty "tuple", .ty "list"])) := same_upd (Same.refl _) hp
        show tSeq _ _ _ _ (upd H p (.tup [.ty "tuple", .ty "list"]))
        generalize upd H p (.tup [V.ty "tuple", V.ty "list"]) = H1 at *
        have p1 := Same.seq s0 q1
        have p2 := Same.seq s0 q2
        refine ⟨_, rfl, _, _, .type "list", _, false, rfl, .ty "tuple", tyL p2, kit_ty (by decide +kernel), _, rfl, _, _, .type "list", _, false, rfl, .ty "tuple", tyL p1, kit_ty (by decide +kernel), rfl, _, rfl, ?_⟩
        refine iteF ?_
        refine ⟨_, rfl, _, _, .type "list", _, true, rfl, .ty "list", tyL p2, kit_ty (by decide +kernel), _, rfl, _, _, .type "list", _, true, rfl, .ty "list", tyL p1, kit_ty (by decide +kernel), rfl, _, rfl, ?_⟩
        refine iteF ?_
        refine ⟨_, rfl, _, _, rfl, .inl ⟨_, p1, rfl⟩, _, rfl, _, _, rfl, .inl ⟨_, p2, rfl⟩, rfl, _, rfl, ?_⟩
        rw [l1, l2]
        refine iteNS rfl ?_
        refine ⟨_, rfl, _, _, rfl, .inl ⟨_, p2, rfl⟩, _, rfl, ?_, ?_, ?_⟩
        · rw [l2]; have := hd.1; omega
        · rw [l2]; have := hd.1; omega
        rw [l2]
        refine for_range (lo := 0) (n := ((ds.length : Nat) : Int).toNat) (fun i σ H' => ∃ v, σ = [some (.ref a1), some (.ref a2), v] ∧ Same H1 H') ⟨none, rfl, Same.refl _⟩ ?_ ?_
        · rintro i σ H' hi ⟨v, rfl, sH⟩
          have hi' : i < ds.length := by simpa using hi
          obtain ⟨x1, e1, d1⟩ := dpAll_at t1 (List.getElem?_eq_getElem hi')
          obtain ⟨x2, e2, d2⟩ := dpAll_at t2 (List.getElem?_eq_getElem hi')
          have s3 := s0.trans sH
          have ei : ((0 : Int) + (i : Int)) = (i : Int) := by omega
          refine ⟨_, rfl, _, rfl, .inl ⟨a1, xs1, _, x1, rfl, rfl, Same.seq sH p1, by rw [ei]; exact atI_nat e1, ?_⟩⟩
          refine ⟨_, rfl, _, rfl, .inl ⟨a2, xs2, _, x2, rfl, rfl, Same.seq sH p2, by rw [ei]; exact atI_nat e2, ?_⟩⟩
          refine ⟨x1, x2, ds[i], rfl, dp_keep s3 d1, dp_keep s3 d2, hd.2 _ (List.getElem_mem hi'), fun H2 s2 => ⟨true, rfl, ?_⟩⟩
          refine iteF ?_
          exact ⟨_, rfl, sH.trans s2⟩
        · rintro σ H' ⟨v, rfl, sH⟩
          exact k _ (s0.trans sH)
      | tuple ds =>
        cases h1 with
        | tup q1 t1 =>
        cases h2 with
        | tup q2 t2 =>
        rename_i a1 xs1 a2 xs2
        have l1 := dpAll_len t1
        have l2 := dpAll_len t2
        refine ⟨_, rfl, rfl, _, rfl, ?_⟩
        refine iteF ?_
        refine ⟨_, rfl, (by show 2 ≤ sizeLine; decide), fun p hp => ?_⟩
        refine ⟨_, p, _, .type "tuple", _, true, rfl, upd_same, .cons (.ty "tuple") (.cons (.ty "list") .nil), tyT (seqT (same_upd (Same.refl _) hp) q2), any_tuple, true, rfl, ?_⟩
        refine iteT ?_
        have s0 : Same H (upd H p (.tup [.ty "tuple", .ty "list"])) := same_upd (Same.refl _) hp
        show tSeq _ _ _ _ (upd H p (.tup [.ty "tuple", .ty "list"]))
        generalize upd H p (.tup [V.ty "tuple", V.ty "list"]) = H1 at *
        have p1 := seqT s0 q1
        have p2 := seqT s0 q2
        refine ⟨_, rfl, _, _, .type "tuple", _, true, rfl, .ty "tuple", tyT p2, kit_ty (by decide +kernel), _, rfl, _, _, .type "tuple", _, true, rfl, .ty "tuple", tyT p1, kit_ty (by decide +kernel), rfl, _, rfl, ?_⟩
        refine iteF ?_
        refine ⟨_, rfl, _, _, .type "tuple", _, false, rfl, .ty "list", tyT p2, kit_ty (by decide +kernel), _, rfl, _, _, .type "tuple", _, false, rfl, .ty "list", tyT p1, kit_ty (by decide +kernel), rfl, _, rfl, ?_⟩
        refine iteF ?_
        refine ⟨_, rfl, _, _, rfl, .inr ⟨_, p1, rfl⟩, _, rfl, _, _, rfl, .inr ⟨_, p2, rfl⟩, rfl, _, rfl, ?_⟩
        rw [l1, l2]
        refine iteNS rfl ?_
        refine ⟨_, rfl, _, _, rfl, .inr ⟨_, p2, rfl⟩, _, rfl, ?_, ?_, ?_⟩
        · rw [l2]; have := hd.1; omega
        · rw [l2]; have := hd.1; omega
        rw [l2]
        refine for_range (lo := 0) (n := ((ds.length : Nat) : Int).toNat) (fun i σ H' => ∃ v, σ = [some (.ref a1), some (.ref a2), v] ∧ Same H1 H') ⟨none, rfl, Same.refl _⟩ ?_ ?_
        · rintro i σ H' hi ⟨v, rfl, sH⟩
          have hi' : i < ds.length := by simpa using hi
          obtain ⟨x1, e1, d1⟩ := dpAll_at t1 (List.getElem?_eq_getElem hi')
          obtain ⟨x2, e2, d2⟩ := dpAll_at t2 (List.getElem?_eq_getElem hi')
          have s3 := s0.trans sH
          have ei : ((0 : Int) + (i : Int)) = (i : Int) := by omega
          refine ⟨_, rfl, _, rfl, .inr (.inl ⟨a1, xs1, _, x1, rfl, rfl, seqT sH p1, by rw [ei]; exact atI_nat e1, ?_⟩)⟩
          refine ⟨_, rfl, _, rfl, .inr (.inl ⟨a2, xs2, _, x2, rfl, rfl, seqT sH p2, by rw [ei]; exact atI_nat e2, ?_⟩)⟩
          refine ⟨x1, x2, ds[i], rfl, dp_keep s3 d1, dp_keep s3 d2, hd.2 _ (List.getElem_mem hi'), fun H2 s2 => ⟨true, rfl, ?_⟩⟩
          refine iteF ?_
          exact ⟨_, rfl, sH.trans s2⟩
        · rintro σ H' ⟨v, rfl, sH⟩
          exact k _ (s0.trans sH)
end
end K58

namespace K58
open PySem PySem.Spec PyProof.Rows L2
/-! ### joined -/
def wordOf (t : Tk) : Str := if t.1 = Str.ofString "text" then mkS (39 :: t.2.1 ++ [39]) else mkS t.2.1
def joinT (ts : List Tk) : Str := Txt.join (Str.ofString " ") (ts.map wordOf)
/-- that the words of tokens can be joined -/
def joinOk (ts : List Tk) : Prop := ((ts.map wordOf).map (·.length)).sum + ts.length ≤ 1000000
theorem sum_mem : ∀ {l : List Nat} {n : Nat}, n ∈ l → n ≤ l.sum
  | a :: l, n, h => by
    rw [List.sum_cons]
    rcases List.mem_cons.mp h with rfl | h
    · omega
    · have := sum_mem h
      omega
theorem joinOk_at {ts : List Tk} (h : joinOk ts) {t : Tk} (ht : t ∈ ts) : (wordOf t).length ≤ 1000000 := by
  have := sum_mem (List.mem_map_of_mem (f := fun x : Str => x.length) (List.mem_map_of_mem (f := wordOf) ht))
  unfold joinOk at h
  omega
theorem paired_at {α β : Type} {R : α → β → Prop} : ∀ {xs : List α} {ys : List β} {i : Nat} {x : α}, Paired R xs ys → xs[i]? = some x → ∃ y, ys[i]? = some y ∧ R x y
  | _, _, _, _, .nil, e => by simp at e
  | _, _, 0, _, .cons r _, e => by
    have := Option.some.inj e
    subst this
    exact ⟨_, rfl, r⟩
  | _, _, i + 1, _, .cons _ t, e => by
    obtain ⟨y, e1, e2⟩ := paired_at (i := i) t (by simpa using e)
    exact ⟨y, by simpa using e1, e2⟩
theorem paired_len {α β : Type} {R : α → β → Prop} : ∀ {xs : List α} {ys : List β}, Paired R xs ys → xs.length = ys.length
  | _, _, .nil => rfl
  | _, _, .cons _ t => by rw [List.length_cons, List.length_cons, paired_len t]
theorem quoted (u : List Nat) : (Str.ofString "'" ++ mkS u) ++ Str.ofString "'" = mkS (39 :: u ++ [39]) := by
  refine TL.ext_tl ?_
  rw [TL.tl_append, TL.tl_append]
  rfl
theorem quoted_len (u : List Nat) : (mkS (39 :: u ++ [39])).length = u.length + 2 := by
  rw [len_tl]
  show (39 :: u ++ [39]).length = _
  simp
def spJoined : Sp := fun vs H Q _ => ∃ (p : Addr) (ts : List Tk), vs = [.ref p] ∧ ToksAt H p ts ∧ joinOk ts ∧ ∀ H', Same H H' → Q (.str (joinT ts)) H'
section
variable {P : Program} {w : World} {K : PySem.W.Frag} {mg : Str → Option Value} {base : Heap}
theorem ok_joined {f : Addr} {fd : FuncData} (F : Fun K "joined" "joined" sJoined f fd) (T : Blt mg) : FnOk P w K mg base CX0 1 f fd ["rows"] spJoined := by
  refine F.ok scJoined (fun vs H Q E h => ?_) (fun cdv A outer s H vs Q E hr h => ?_)
  · obtain ⟨p, ts, rfl, _⟩ := h
    rfl
  · obtain ⟨p, ts, rfl, ⟨vs, hv, hP⟩, hz, k⟩ := h
    refine ⟨_, (pss_one (ps_ret (pe_join pe_str (pe_lc (g := gTup K 3 (gCons (gName 1) (gCons (gName 2) (gCons (gName 3) gNil)))) (own := [("kind", 1), ("told", 2), ("place", 3)]) rfl scJoined.nd (pi_list (pv 0)) (blkOk_by (N := ["rows", "kind", "told", "place"]) (sc := defScope sJoined) (own := [("kind", 1), ("told", 2), ("place", 3)]) (by decide +kernel)) (fun _ _ _ _ _ => (pg_tup rfl (pgs_cons (pg_name (i := 1) scJoined.nd rfl (Or.inl rfl)) (pgs_cons (pg_name (i := 2) scJoined.nd rfl (Or.inl rfl)) (pgs_cons (pg_name (i := 3) scJoined.nd rfl (Or.inl rfl)) pgs_nil))))) (fun _ _ _ _ _ => pts_nil) (fun _ _ _ _ _ => (pe_ifExp (pt_cmpR op_eq (pv 1) pe_str (nomark _)) (pe_op op_add_str (pe_op op_add_str pe_str (pv 2)) pe_str) (pv 2))))))), ?_⟩
    have hlen := paired_len hP
    have hts : ts.length ≤ 1000000 := by unfold joinOk at hz; omega
    refine ⟨⟨_, rfl⟩, ?_⟩
    refine ⟨_, rfl, p, rfl, ⟨_, SqL.of hv⟩, fun D hD => lc_list (K := K) (a := p) (xs := vs) (fun i H' => H' D = some (.lst (((ts.take i).map wordOf).map V.str)) ∧ ∀ b, b ≠ D → H' b = H b) ⟨upd_same, fun b hb => upd_ne hb⟩ ?_ ?_ ?_⟩
    · rintro i H' _ ⟨_, h2⟩
      have n : p ≠ D := ne_of_none hv hD
      exact SqL.of (by rw [h2 p n]; exact hv)
    · rintro i y H' hi ⟨h1, h2⟩
      obtain ⟨t, ht, q, rfl, hq⟩ := paired_at hP hi
      have nq : q ≠ D := ne_of_none hq hD
      have hi' : i < ts.length := (List.getElem?_eq_some_iff.mp ht).1
      have et : ts.take (i + 1) = ts.take i ++ [t] := take_snoc ht
      have hw := joinOk_at hz (List.mem_of_getElem? ht)
      have small : (((ts.take i).map wordOf).map V.str).length < sizeLine := by
        rw [List.length_map, List.length_map, List.length_take, sizeLine_eq]
        omega
      refine ⟨q, _, rfl, SqT.of (by rw [h2 q nq]; exact hq), rfl, _, _, rfl, _, _, rfl, _, _, rfl, rfl, rfl, ?_⟩
      unfold tYes
      refine iteT ?_
      refine ⟨_, rfl, rfl, _, rfl, ?_⟩
      have fin : ∀ v : V, v = V.str (wordOf t) → ∃ acc, H' D = some (.lst acc) ∧ acc.length < sizeLine ∧ (upd H' D (.lst (acc ++ [v]))) D = some (.lst (((ts.take (i + 1)).map wordOf).map V.str)) ∧ ∀ b, b ≠ D → upd H' D (.lst (acc ++ [v])) b = H b := by
        intro v e
        refine ⟨_, h1, small, ?_, fun b hb => by rw [upd_ne hb]; exact h2 b hb⟩
        rw [upd_same, et, List.map_append, List.map_append, e]
        rfl
      refine ite2 (fun hk => ?_) (fun hk => ?_)
      · have hk' : t.1 = Str.ofString "text" := V.str.inj (of_decide_eq_true hk)
        have ew : wordOf t = mkS (39 :: t.2.1 ++ [39]) := by unfold wordOf; rw [if_pos hk']
        rw [ew, quoted_len] at hw
        have l1 : (mkS t.2.1).length = t.2.1.length := by rw [len_tl]
        have l2 : (Str.ofString "'" ++ mkS t.2.1).length = t.2.1.length + 1 := by
          rw [len_tl, show tl (Str.ofString "'" ++ mkS t.2.1) = 39 :: t.2.1 from TL.tl_append _ _]
          rfl
        refine ⟨_, rfl, _, _, rfl, rfl, ?_, _, _, rfl, rfl, ?_, ?_⟩
        · rw [l1, sizeLine_eq]; show 1 + _ ≤ _; omega
        · rw [l2, sizeLine_eq]; show _ + 1 ≤ _; omega
        · exact fin _ (by rw [quoted, ew])
      · have hk' : ¬ t.1 = Str.ofString "text" := fun z => hk (decide_eq_true (by rw [z]))
        refine ⟨_, rfl, ?_⟩
        exact fin _ (by unfold wordOf; rw [if_neg hk'])
    · rintro H' ⟨h1, h2⟩
      rw [hlen, List.take_length] at h1
      have same : Same H H' := fun b o e => by
        rw [h2 b (ne_of_none e hD)]; exact e
      refine ⟨_, D, ts.map wordOf, rfl, rfl, .inl (SqL.of h1), ?_, k _ same⟩
      have e1 : (Str.ofString " ").length = 1 := rfl
      rw [e1, List.length_map]
      unfold joinOk at hz
      omega
end
end K58

namespace K58
open PySem PySem.Spec PyProof.Rows L2
/-! ### the law's own reckoning -/
theorem scLT : FnScope ["text", "words", "found", "at", "sign", "end"] ["text"] (defScope sLTok) := ⟨rfl, rfl, rfl, by decide +kernel, rfl, by decide +kernel, by decide +kernel⟩
theorem cut_any (x : Str) (a b : Nat) : cutS x (some (a : Int)) (some (b : Int)) = mkS (((tl x).drop a).take (b - a)) := by
  by_cases h : b ≤ (tl x).length
  · exact cut_nat x a b h
  · have hn : x.length = (tl x).length := len_tl x
    have e1 : HT.sIx x.length 0 (some (a : Int)) = min a x.length := by
      show (if ((a : Int)) < 0 then ((a : Int) + (x.length : Int)).toNat else min ((a : Int)).toNat x.length) = _
      rw [if_neg (by omega)]; rfl
    have e2 : HT.sIx x.length x.length (some (b : Int)) = x.length := by
      show (if ((b : Int)) < 0 then ((b : Int) + (x.length : Int)).toNat else min ((b : Int)).toNat x.length) = _
      rw [if_neg (by omega)]
      show min b x.length = x.length
      omega
    show (⟨((x.cps.toList.drop (HT.sIx x.length 0 (some (a : Int)))).take (HT.sIx x.length x.length (some (b : Int)) - HT.sIx x.length 0 (some (a : Int)))).toArray⟩ : Str) = _
    rw [e1, e2]
    by_cases ha : a ≤ x.length
    · rw [Nat.min_eq_left ha]
      show mkS (((tl x).drop a).take (x.length - a)) = _
      have hd : ((tl x).drop a).length = (tl x).length - a := List.length_drop
      rw [List.take_of_length_le (by omega), List.take_of_length_le (by omega)]
    · have z : (tl x).length ≤ a := by omega
      have e3 : ((tl x).drop a).take (b - a) = [] := by rw [List.drop_eq_nil_of_le z, List.take_nil]
      have e4 : (x.cps.toList.drop (min a x.length)).take (x.length - min a x.length) = [] := by
        rw [List.drop_eq_nil_of_le (by show (tl x).length ≤ _; omega), List.take_nil]
      rw [e3, e4]
def sOnes : Str := Str.ofString "=<>+-*(),."
def twoL : List Str := [Str.ofString "<=", Str.ofString ">=", Str.ofString "<>"]
theorem find_tl (q : List Nat) : ∀ L : List Str, (L.find? fun s => q == tl s) = if (L.any fun y => y == mkS q) = true then some (mkS q) else none
  | [] => rfl
  | s :: L => by
    rw [List.find?_cons, List.any_cons]
    by_cases h : q = tl s
    · have e : s = mkS q := by rw [h, mkS_tl]
      rw [show (q == tl s) = true from beq_iff_eq.mpr h, show (s == mkS q) = true from beq_iff_eq.mpr e]
      simp [e]
    · have e : ¬ s = mkS q := fun z => h (by rw [z])
      rw [show (q == tl s) = false from beq_eq_false_iff_ne.mpr h, show (s == mkS q) = false from beq_eq_false_iff_ne.mpr e, find_tl q L]
      rfl
theorem find_congr {α : Type} {p q : α → Bool} : ∀ {L : List α}, (∀ x ∈ L, p x = q x) → L.find? p = L.find? q
  | [], _ => rfl
  | a :: L, h => by rw [List.find?_cons, List.find?_cons, h a (List.mem_cons_self ..), find_congr fun x hx => h x (List.mem_cons_of_mem _ hx)]
theorem signs_split : signsL = twoL ++ (tl sOnes).map fun c => mkS [c] := by decide +kernel
theorem two_len : ∀ s ∈ twoL, (tl s).length = 2 := by decide +kernel
theorem any_one (c : Nat) : ∀ L : List Nat, ((L.map fun d => mkS [d]).any fun y => y == mkS [c]) = decide (c ∈ L)
  | [] => rfl
  | d :: L => by
    rw [List.map_cons, List.any_cons, any_one c L]
    by_cases h : c = d
    · subst h; simp
    · have e : ¬ mkS [d] = mkS [c] := fun z => h (by have := congrArg tl z; simp [tl] at this; exact this.symm)
      rw [show (mkS [d] == mkS [c]) = false from beq_eq_false_iff_ne.mpr e]
      simp [h]
theorem sign_find (c : Nat) (t : List Nat) : (signsL.find? fun s => startsL s (c :: t)) =
    if (twoL.any fun y => y == mkS ((c :: t).take 2)) = true then some (mkS ((c :: t).take 2)) else if c ∈ tl sOnes then some (mkS [c]) else none := by
  rw [signs_split, List.find?_append]
  have e1 : (twoL.find? fun s => startsL s (c :: t)) = twoL.find? fun s => (c :: t).take 2 == tl s := find_congr fun s hs => by
    unfold startsL
    rw [two_len s hs]
  have e2 : (((tl sOnes).map fun c => mkS [c]).find? fun s => startsL s (c :: t)) = ((tl sOnes).map fun c => mkS [c]).find? fun s => [c] == tl s := find_congr fun s hs => by
    obtain ⟨d, _, rfl⟩ := List.mem_map.mp hs
    rfl
  rw [e1, e2, find_tl, find_tl, any_one]
  by_cases h : (twoL.any fun y => y == mkS ((c :: t).take 2)) = true
  · rw [if_pos h, if_pos h]; rfl
  · rw [if_neg h, if_neg h]
    by_cases h2 : c ∈ tl sOnes
    · rw [if_pos h2, if_pos (decide_eq_true h2)]; rfl
    · rw [if_neg h2, if_neg (by simpa using h2)]; rfl
def spLT : Sp := fun vs H Q _ => ∃ x : Str, vs = [.str x] ∧ x.length ≤ 100000 ∧
  (∀ ts, tokR (tl x) = some ts → ∀ H' p, Same H H' → H p = none → ToksAt H' p ts → Q (.ref p) H') ∧ (tokR (tl x) = none → ∀ H', Same H H' → Q .non H')
section
variable {P : Program} {w : World} {K : PySem.W.Frag} {mg : Str → Option Value} {base : Heap}
/-- while end < len(text) and text[end] in S: end = end + 1 -/
theorem front_while {x : Str} {S : Str} {a : Nat} {H : Hp} {D : Ends} (sg : Int → L2.St) (h0 : ∀ e, (sg e)[0]? = some (some (.str x))) (h5 : ∀ e, (sg e)[5]? = some (some (.int e))) (hs : ∀ e e', (sg e).set 5 (some (.int e')) = sg e')
    (hx : x.length ≤ sizeLine) (ha : a ≤ (tl x).length) (hD : D.nx (sg ((a + (frontOf (tl S) ((tl x).drop a)).length : Nat) : Int)) H) :
    tWhile (tAnd (tTest (tOp (rI0 fun i j => .bl (decide (i < j))) (tVar 5) (tCB (fun xs H Q => ∃ x n, xs = [x] ∧ LenV K x H n ∧ Q (.int n) H) (tCons (tVar 0) tNil))))
      (tTest (tOp (fun x y H Q => ∃ (c : Nat) (z : Str), x = .str ⟨#[c]⟩ ∧ y = .str z ∧ Q (.bl (decide (c ∈ z.cps.toList))) H) (tOp rIxS (tVar 0) (tVar 5)) (tC (.str S)))))
      (tAsg (tOp (rI0 fun i j => .int (i + j)) (tVar 5) (tC (.int 1))) (gName 5)) D (sg (a : Int)) H := by
  have hl : x.length = (tl x).length := len_tl x
  have hfl := frontOf_le (tl S) ((tl x).drop a)
  rw [List.length_drop] at hfl
  refine ⟨fun m σ H' => ∃ n : Nat, m = (tl x).length - (a + n) ∧ σ = sg ((a + n : Nat) : Int) ∧ H' = H ∧ n ≤ (frontOf (tl S) ((tl x).drop a)).length, ⟨_, 0, rfl, rfl, rfl, Nat.zero_le _⟩, ?_⟩
  rintro m σ H' ⟨n, rfl, rfl, rfl, hn⟩
  have done : (∀ c, ((tl x).drop a)[n]? = some c → c ∉ tl S) → D.nx (sg ((a + n : Nat) : Int)) H' := by
    intro hs
    have e := frontOf_stop hn hs
    rw [e]; exact hD
  refine ⟨_, h5 _, _, h0 _, _, _, rfl, ⟨hx, rfl⟩, _, _, rfl, rfl, _, rfl, ?_⟩
  refine ite2 (fun hlt => ?_) (fun hlt => ?_)
  · have hlt' : a + n < (tl x).length := by have := of_decide_eq_true hlt; omega
    have hc : (tl x)[a + n]? = some (tl x)[a + n] := by simp [hlt']
    have hc' : ((tl x).drop a)[n]? = some (tl x)[a + n] := by rw [List.getElem?_drop]; exact hc
    refine ⟨_, h0 _, _, h5 _, _, _, _, rfl, rfl, hx, atI_nat hc, _, _, rfl, rfl, _, rfl, ?_⟩
    refine ite2 (fun hin => ?_) (fun hin => ?_)
    · have hin' := of_decide_eq_true hin
      refine ⟨_, fun _ _ z => z, ?_⟩
      refine ⟨_, h5 _, _, _, rfl, rfl, ?_⟩
      refine ⟨(tl x).length - (a + (n + 1)), by omega, n + 1, rfl, ?_, rfl, frontOf_step hc' hin' hn⟩
      exact hs _ _
    · exact done fun c e => by
        rw [hc'] at e
        cases e
        exact fun z => hin (decide_eq_true z)
  · refine iteF ?_
    exact done fun c e => by
      have : a + n < (tl x).length := by
        rw [List.getElem?_drop] at e
        exact (List.getElem?_eq_some_iff.mp e).1
      exact absurd (decide_eq_true (by omega)) hlt
theorem upto_step {c : Nat} {l : List Nat} {n d : Nat} (h : l[n]? = some d) (hd : d ≠ c) (hp : n ≤ (upto c l).length) : n + 1 ≤ (upto c l).length := by
  induction l generalizing n with
  | nil => simp at h
  | cons e r ih =>
    unfold upto at ih hp ⊢
    rw [List.takeWhile_cons] at hp ⊢
    cases n with
    | zero =>
      have : e = d := by simpa using h
      subst this
      rw [if_pos (by simpa using hd)]
      simp
    | succ n =>
      by_cases he : decide (e ≠ c) = true
      · rw [if_pos he] at hp ⊢
        have := ih (n := n) (by simpa using h) (by simpa using hp)
        simpa using this
      · rw [if_neg he] at hp
        simp at hp
theorem upto_stop {c : Nat} {l : List Nat} {n : Nat} (hp : n ≤ (upto c l).length) (h : ∀ d, l[n]? = some d → d = c) : n = (upto c l).length := by
  induction l generalizing n with
  | nil => simp [upto] at hp ⊢; exact hp
  | cons e r ih =>
    unfold upto at ih hp ⊢
    rw [List.takeWhile_cons] at hp ⊢
    by_cases he : decide (e ≠ c) = true
    · rw [if_pos he] at hp ⊢
      cases n with
      | zero => exact absurd (h e rfl) (by simpa using he)
      | succ n =>
        have := ih (n := n) (by simpa using hp) (fun d hd => h d (by simpa using hd))
        simpa using this
    · rw [if_neg he] at hp ⊢
      simpa using hp
theorem upto_get {c : Nat} : ∀ {l : List Nat} {n d : Nat}, l[n]? = some d → n < (upto c l).length → (upto c l)[n]? = some d
  | [], n, d, h, _ => by simp at h
  | e :: r, n, d, h, hn => by
    unfold upto at hn ⊢
    rw [List.takeWhile_cons] at hn ⊢
    by_cases he : decide (e ≠ c) = true
    · rw [if_pos he] at hn ⊢
      cases n with
      | zero => exact h
      | succ n =>
        have := upto_get (c := c) (l := r) (n := n) (d := d) (by simpa using h) (by unfold upto; simpa using hn)
        unfold upto at this
        simpa using this
    · rw [if_neg he] at hn
      simp at hn
/-- where the law's loop stands -/
structure LI (x : Str) (H : Hp) (pw fa : Addr) (a : Nat) (acc : List Tk) (vs : List V) (H' : Hp) : Prop where
  same : Same H H'
  words : H' pw = some (.lst (wordsL.map V.str))
  found : H' fa = some (.lst vs)
  all : Paired (TokV H') vs acc
  less : acc.length ≤ a
  len : vs.length = acc.length
  rest : toks 0 (tl x) = (toks a ((tl x).drop a)).map fun ts => acc ++ ts
theorem LI.keep {x : Str} {H : Hp} {pw fa : Addr} {a : Nat} {acc : List Tk} {vs : List V} {H' H1 : Hp} (I : LI x H pw fa a acc vs H') (s : Same H' H1) : LI x H pw fa a acc vs H1 :=
  ⟨I.same.trans s, s _ _ I.words, s _ _ I.found, paired_imp (fun _ _ ⟨q, e1, e2⟩ => ⟨q, e1, s _ _ e2⟩) I.all, I.less, I.len, I.rest⟩
theorem LI.no {x : Str} {H : Hp} {pw fa : Addr} {a : Nat} {acc : List Tk} {vs : List V} {H' : Hp} (I : LI x H pw fa a acc vs H') {c : Nat} {r : List Nat} (e : (tl x).drop a = c :: r) (hb : ¬ c ∈ tl sBl) (h : oneTok (c :: r) = none) : tokR (tl x) = none := by
  unfold tokR
  split
  · rfl
  · rw [I.rest, e, toks_no hb h]; rfl
theorem LI.push {x : Str} {H : Hp} {pw fa : Addr} {a : Nat} {acc : List Tk} {vs : List V} {H' : Hp} (I : LI x H pw fa a acc vs H') {c : Nat} {r : List Nat} {k : Str} {u : List Nat} {p : Addr}
    (e : (tl x).drop a = c :: r) (hb : ¬ c ∈ tl sBl) (h : oneTok (c :: r) = some (k, u)) (hfa : H fa = none) (hwf : pw ≠ fa) (hp : H' p = none) {b : Nat} (hbn : b = a + szL k u) :
    LI x H pw fa b (acc ++ [(k, u, a)]) (vs ++ [V.ref p]) (upd (upd H' p (.tup [.str k, .str (mkS u), .int (a : Int)])) fa (.lst (vs ++ [V.ref p]))) := by
  subst hbn
  have hpos := oneTok_pos h
  have npf : p ≠ fa := fun z => by rw [z, I.found] at hp; cases hp
  have npw : p ≠ pw := fun z => by rw [z, I.words] at hp; cases hp
  refine ⟨fun b o eb => ?_, ?_, upd_same, ?_, ?_, ?_, ?_⟩
  · have nb : b ≠ fa := fun z => by rw [z, hfa] at eb; cases eb
    rw [upd_ne nb, upd_ne (ne_of_none (I.same _ _ eb) hp)]
    exact I.same _ _ eb
  · rw [upd_ne hwf, upd_ne (Ne.symm npw)]; exact I.words
  · refine paired_snoc ⟨p, rfl, by rw [upd_ne npf, upd_same]⟩ (paired_imp (fun v t ⟨q, e1, e2⟩ => ⟨q, e1, ?_⟩) I.all)
    have nq : q ≠ fa := ne_of e2 I.found (by intro z; cases z)
    rw [upd_ne nq, upd_ne (ne_of_none e2 hp)]
    exact e2
  · rw [List.length_append, List.length_singleton]; have := I.less; omega
  · rw [List.length_append, List.length_append, List.length_singleton, List.length_singleton, I.len]
  · rw [I.rest, e, toks_one hb h]
    have ed : r = (tl x).drop (a + 1) := by
      rw [← List.drop_drop, e]; rfl
    rw [ed, List.drop_drop, Option.map_map, show a + 1 + (szL k u - 1) = a + szL k u by omega]
    congr 1
    funext ts
    simp
theorem ok_lt {f : Addr} {fd : FuncData} (F : Fun K "_law_tokens" "_law_tokens" sLTok f fd) (T : Blt mg) : FnOk P w K mg base CX0 1 f fd ["text"] spLT := by
  refine F.ok scLT (fun vs H Q E h => ?_) (fun cdv A outer s H vs Q E hr h => ?_)
  · obtain ⟨x, rfl, _⟩ := h
    rfl
  · obtain ⟨x, rfl, hx0, kS, kN⟩ := h
    refine ⟨_, (pss_cons (ps_set (i := 1) scLT.nd rfl (Or.inl rfl) (pe_lst (pa_cons pe_str (pa_cons pe_str (pa_cons pe_str (pa_cons pe_str (pa_cons pe_str (pa_cons pe_str (pa_cons pe_str (pa_cons pe_str (pa_cons pe_str (pa_cons pe_str (pa_cons pe_str (pa_cons pe_str (pa_cons pe_str pa_nil)))))))))))))))
    (pss_cons (ps_set (i := 2) scLT.nd rfl (Or.inl rfl) (pe_lst pa_nil))
    (pss_cons (ps_set (i := 3) scLT.nd rfl (Or.inl rfl) pe_int)
    (pss_cons (ps_while PassesOwn.never (pt_cmpR op_lt (pv 3) (pe_callB call_len (by rfl) T.b_len (by decide +kernel) (pa_cons (pv 0) pa_nil)) (nomark _)) (pss_cons (ps_set (i := 4) scLT.nd rfl (Or.inl rfl) (pe_ix ix_str (pv 0) (pv 3) (fun _ _ => rfl)))
    (pss_cons (ps_set (i := 5) scLT.nd rfl (Or.inl rfl) (pv 3))
    (pss_one (ps_if (pt_cmpR op_in_sign (pv 4) (pe_op op_add_str pe_str pe_str) rfl) (pss_one (ps_set (i := 3) scLT.nd rfl (Or.inl rfl) (pe_op op_add (pv 3) pe_int))) (pss_one (ps_if (pt_cmpR op_in_sign (pv 4) pe_str rfl) (pss_cons (ps_while PassesOwn.never (PW.pt (pw_and (pt_cmpR op_lt (pv 5) (pe_callB call_len (by rfl) T.b_len (by decide +kernel) (pa_cons (pv 0) pa_nil)) (nomark _)) (pw_and1 (pt_cmpR op_in_sign (pe_ix ix_str (pv 0) (pv 5) (fun _ _ => rfl)) pe_str rfl)))) (pss_one (ps_set (i := 5) scLT.nd rfl (Or.inl rfl) (pe_op op_add (pv 5) pe_int))))
    (pss_cons (ps_if (pt_cmpR op_gt (pe_op op_sub (pv 5) (pv 3)) pe_int (nomark _)) (pss_one (ps_ret pe_non)) pss_nil)
    (pss_cons (ps_expr (pe_bm PySem.F.plainAttrs_list PySem.F.slot_list_append PySem.F.type_list_append mt_append (pv 2) (pa_cons (pe_tup (pa_cons (pe_ifExp (pt_cmpR op_in_seq (pe_slice sl_str (pv 0) (po_some (pv 3)) (po_some (pv 5))) (pv 1) rfl) pe_str pe_str) (pa_cons (pe_slice sl_str (pv 0) (po_some (pv 3)) (po_some (pv 5))) (pa_cons (pv 3) pa_nil)))) pa_nil)))
    (pss_one (ps_set (i := 3) scLT.nd rfl (Or.inl rfl) (pv 5)))))) (pss_one (ps_if (pt_cmpR op_in_sign (pv 4) pe_str rfl) (pss_cons (ps_while PassesOwn.never (PW.pt (pw_and (pt_cmpR op_lt (pv 5) (pe_callB call_len (by rfl) T.b_len (by decide +kernel) (pa_cons (pv 0) pa_nil)) (nomark _)) (pw_and1 (pt_cmpR op_in_sign (pe_ix ix_str (pv 0) (pv 5) (fun _ _ => rfl)) pe_str rfl)))) (pss_one (ps_set (i := 5) scLT.nd rfl (Or.inl rfl) (pe_op op_add (pv 5) pe_int))))
    (pss_cons (ps_if (PW.pt (pw_or (pt_cmpR op_gt (pe_op op_sub (pv 5) (pv 3)) pe_int (nomark _)) (pw_or1 (PW.pt (pw_and (pt_cmpR op_gt (pe_op op_sub (pv 5) (pv 3)) pe_int (nomark _)) (pw_and1 (pt_cmpR op_eq (pv 4) pe_str (nomark _)))))))) (pss_one (ps_ret pe_non)) pss_nil)
    (pss_cons (ps_expr (pe_bm PySem.F.plainAttrs_list PySem.F.slot_list_append PySem.F.type_list_append mt_append (pv 2) (pa_cons (pe_tup (pa_cons pe_str (pa_cons (pe_slice sl_str (pv 0) (po_some (pv 3)) (po_some (pv 5))) (pa_cons (pv 3) pa_nil)))) pa_nil)))
    (pss_one (ps_set (i := 3) scLT.nd rfl (Or.inl rfl) (pv 5)))))) (pss_one (ps_if (pt_cmpR op_eq (pv 4) pe_str (nomark _)) (pss_cons (ps_set (i := 5) scLT.nd rfl (Or.inl rfl) (pe_op op_add (pv 3) pe_int))
    (pss_cons (ps_while PassesOwn.never (PW.pt (pw_and (pt_cmpR op_lt (pv 5) (pe_callB call_len (by rfl) T.b_len (by decide +kernel) (pa_cons (pv 0) pa_nil)) (nomark _)) (pw_and1 (pt_cmpR op_ne (pe_ix ix_str (pv 0) (pv 5) (fun _ _ => rfl)) pe_str (nomark _))))) (pss_cons (ps_if (PW.pt (pw_or (pt_cmpR op_eq (pe_ix ix_str (pv 0) (pv 5) (fun _ _ => rfl)) pe_str (nomark _)) (pw_or1 (pt_not (pt_chain op_le op_lt pe_int (pe_callB call_ord (by rfl) T.b_ord (by decide +kernel) (pa_cons (pe_ix ix_str (pv 0) (pv 5) (fun _ _ => rfl)) pa_nil)) pe_int))))) (pss_one (ps_ret pe_non)) pss_nil)
    (pss_one (ps_set (i := 5) scLT.nd rfl (Or.inl rfl) (pe_op op_add (pv 5) pe_int)))))
    (pss_cons (ps_if (PW.pt (pw_or (pt_cmpR op_eq (pv 5) (pe_callB call_len (by rfl) T.b_len (by decide +kernel) (pa_cons (pv 0) pa_nil)) (nomark _)) (pw_or1 (pt_cmpR op_gt (pe_op op_sub (pv 5) (pv 3)) pe_int (nomark _))))) (pss_one (ps_ret pe_non)) pss_nil)
    (pss_cons (ps_expr (pe_bm PySem.F.plainAttrs_list PySem.F.slot_list_append PySem.F.type_list_append mt_append (pv 2) (pa_cons (pe_tup (pa_cons pe_str (pa_cons (pe_slice sl_str (pv 0) (po_some (pe_op op_add (pv 3) pe_int)) (po_some (pv 5))) (pa_cons (pv 3) pa_nil)))) pa_nil)))
    (pss_one (ps_set (i := 3) scLT.nd rfl (Or.inl rfl) (pe_op op_add (pv 5) pe_int))))))) (pss_cons (ps_if (pt_cmpR op_in_seq (pe_slice sl_str (pv 0) (po_some (pv 3)) (po_some (pe_op op_add (pv 3) pe_int))) (pe_tup (pa_cons pe_str (pa_cons pe_str (pa_cons pe_str pa_nil)))) rfl) (pss_one (ps_set (i := 5) scLT.nd rfl (Or.inl rfl) (pe_op op_add (pv 3) pe_int))) (pss_one (ps_if (pt_cmpR op_in_sign (pv 4) pe_str rfl) (pss_one (ps_set (i := 5) scLT.nd rfl (Or.inl rfl) (pe_op op_add (pv 3) pe_int))) (pss_one (ps_ret pe_non)))))
    (pss_cons (ps_expr (pe_bm PySem.F.plainAttrs_list PySem.F.slot_list_append PySem.F.type_list_append mt_append (pv 2) (pa_cons (pe_tup (pa_cons pe_str (pa_cons (pe_slice sl_str (pv 0) (po_some (pv 3)) (po_some (pv 5))) (pa_cons (pv 3) pa_nil)))) pa_nil)))
    (pss_one (ps_set (i := 3) scLT.nd rfl (Or.inl rfl) (pv 5))))))))))))))))
    (pss_one (ps_ret (pe_ifExp (PW.pt (pw_and (pt_cmpR op_le (pe_callB call_len (by rfl) T.b_len (by decide +kernel) (pa_cons (pv 2) pa_nil)) pe_int (nomark _)) (pw_and1 (pt_cmpR op_le (pe_callB call_len (by rfl) T.b_len (by decide +kernel) (pa_cons (pv 0) pa_nil)) pe_int (nomark _))))) (pv 2) pe_non))))))), ?_⟩
    have hl : x.length = (tl x).length := len_tl x
    have hx : x.length ≤ sizeLine := by rw [sizeLine_eq]; omega
    refine ⟨by show 13 ≤ sizeLine; decide, fun pw hpw => ?_⟩
    refine ⟨by show 0 ≤ sizeLine; decide, fun fa hfa => ?_⟩
    have nwf : pw ≠ fa := ne_of_none upd_same hfa
    have hfa0 : H fa = none := by rw [upd_ne (Ne.symm nwf)] at hfa; exact hfa
    refine ⟨fun m σ H' => ∃ (a : Nat) (acc : List Tk) (vs : List V) (sv ev : Option V), m = (tl x).length - a ∧ σ = [some (.str x), some (.ref pw), some (.ref fa), some (.int (a : Int)), sv, ev] ∧ LI x H pw fa a acc vs H',
      ⟨_, 0, [], [], none, none, rfl, rfl, ⟨same_upd (same_upd (Same.refl _) hpw) hfa, (by rw [upd_ne nwf, upd_same]; rfl), upd_same, .nil, Nat.le_refl _, rfl, by rw [List.drop_zero]; simp⟩⟩, ?_⟩
    rintro m σ H' ⟨a, acc, vs, sv, ev, rfl, rfl, I⟩
    refine ⟨_, rfl, _, rfl, _, _, rfl, ⟨hx, rfl⟩, _, _, rfl, rfl, _, rfl, ?_⟩
    refine ite2 (fun hlt => ?_) (fun hlt => ?_)
    · have ha : a < (tl x).length := by have := of_decide_eq_true hlt; omega
      obtain ⟨c, hc⟩ : ∃ c, (tl x)[a]? = some c := ⟨(tl x)[a], by simp [ha]⟩
      have ed : (tl x).drop a = c :: (tl x).drop (a + 1) := by
        rw [List.drop_eq_getElem_cons ha, (List.getElem?_eq_some_iff.mp hc).2]
      have lenM : ∀ l : List Nat, (mkS l).length = l.length := fun l => by rw [len_tl]
      have hfl := frontOf_le (tl sLett) ((tl x).drop a)
      have hff := frontOf_le (tl sFig) ((tl x).drop a)
      have hV : vs.length < sizeLine := by have h1 := I.less; have h2 := I.len; rw [sizeLine_eq]; omega
      rw [List.length_drop] at hfl hff
      refine ⟨_, fun _ _ z => z, ?_⟩
      refine ⟨_, rfl, _, rfl, _, _, _, rfl, rfl, hx, atI_nat hc, _, rfl, ?_⟩
      refine ⟨_, rfl, _, _, rfl, rfl, (by rw [sizeLine_eq]; decide), c, _, rfl, rfl, _, rfl, ?_⟩
      rw [show (Str.ofString " " ++ Str.ofString "\n") = sBl by decide +kernel]
      refine ite2 (fun hb => ?_) (fun hb => ?_)
      · refine ⟨_, rfl, _, _, rfl, rfl, ?_⟩
        refine ⟨(tl x).length - (a + 1), by omega, a + 1, acc, vs, _, _, rfl, rfl, ⟨I.same, I.words, I.found, I.all, by have := I.less; omega, I.len, ?_⟩⟩
        rw [I.rest, ed, toks_bl (of_decide_eq_true hb)]
      have hb' : ¬ c ∈ tl sBl := fun z => hb (decide_eq_true z)
      refine ⟨_, rfl, c, sLett, rfl, rfl, _, rfl, ?_⟩
      refine ite2 (fun h1 => ?_) (fun h1 => ?_)
      · -- a word or a name
        have h1' : c ∈ tl sLett := of_decide_eq_true h1
        refine front_while (S := sLett) (a := a) (fun e => [some (.str x), some (.ref pw), some (.ref fa), some (.int (a : Int)), some (.str ⟨#[c]⟩), some (.int e)]) (fun _ => rfl) (fun _ => rfl) (fun _ _ => rfl) hx (by omega) ?_
        have hpos := front_pos (r := (tl x).drop (a + 1)) h1'
        rw [← ed] at hpos
        have eO : oneTok (c :: (tl x).drop (a + 1)) = (if 12 < (frontOf (tl sLett) ((tl x).drop a)).length then none else some (if (wordsL.any fun y => y == mkS (frontOf (tl sLett) ((tl x).drop a))) = true then Str.ofString "word" else Str.ofString "name", frontOf (tl sLett) ((tl x).drop a))) := by
          unfold oneTok
          dsimp only
          rw [if_pos h1', ← ed]
        have ecut : cutS x (some (a : Int)) (some ((a + (frontOf (tl sLett) ((tl x).drop a)).length : Nat) : Int)) = mkS (frontOf (tl sLett) ((tl x).drop a)) := by
          rw [cut_any, show a + (frontOf (tl sLett) ((tl x).drop a)).length - a = (frontOf (tl sLett) ((tl x).drop a)).length by omega, frontOf_take]
        generalize hU : frontOf (tl sLett) ((tl x).drop a) = U at *
        refine ⟨_, rfl, _, rfl, _, _, rfl, rfl, _, _, rfl, rfl, _, rfl, ?_⟩
        refine ite2 (fun h12 => ?_) (fun h12 => ?_)
        · have := of_decide_eq_true h12
          exact kN (I.no ed hb' (by rw [eO, if_pos (by omega)])) _ I.same
        · have h12' : ¬ 12 < U.length := fun z => h12 (decide_eq_true (by omega))
          rw [if_neg h12'] at eO
          refine ⟨_, rfl, .inl ⟨rfl, _, SqL.of I.found⟩, ?_⟩
          refine ⟨_, rfl, _, rfl, _, rfl, _, rfl, _, rfl, _, rfl, hx, ?_⟩
          rw [ecut]
          refine ⟨_, rfl, pw, _, rfl, .inl (SqL.of I.words), rfl, flat_strs _, _, rfl, ?_⟩
          rw [if_neg Bool.false_ne_true, inV_strs]
          refine ite2 (fun hw => ?_) (fun hw => ?_)
          · rw [if_pos hw] at eO
            refine ⟨_, rfl, _, rfl, _, rfl, _, rfl, _, rfl, _, rfl, hx, ?_⟩
            rw [ecut]
            refine ⟨_, rfl, (by show 3 ≤ sizeLine; decide), fun p hp => ?_⟩
            have npf : fa ≠ p := fun z => by rw [← z, I.found] at hp; cases hp
            refine ⟨fa, vs, _, rfl, rfl, (by rw [upd_ne npf]; exact I.found), hV, ?_⟩
            refine ⟨_, rfl, ?_⟩
            exact ⟨(tl x).length - (a + U.length), by omega, a + U.length, _, _, _, _, rfl, rfl, I.push ed hb' eO hfa0 nwf hp rfl⟩
          · rw [if_neg hw] at eO
            refine ⟨_, rfl, _, rfl, _, rfl, _, rfl, _, rfl, _, rfl, hx, ?_⟩
            rw [ecut]
            refine ⟨_, rfl, (by show 3 ≤ sizeLine; decide), fun p hp => ?_⟩
            have npf : fa ≠ p := fun z => by rw [← z, I.found] at hp; cases hp
            refine ⟨fa, vs, _, rfl, rfl, (by rw [upd_ne npf]; exact I.found), hV, ?_⟩
            refine ⟨_, rfl, ?_⟩
            exact ⟨(tl x).length - (a + U.length), by omega, a + U.length, _, _, _, _, rfl, rfl, I.push ed hb' eO hfa0 nwf hp rfl⟩
      have h1' : ¬ c ∈ tl sLett := fun z => h1 (decide_eq_true z)
      refine ⟨_, rfl, c, sFig, rfl, rfl, _, rfl, ?_⟩
      refine ite2 (fun h2 => ?_) (fun h2 => ?_)
      · -- a number
        have h2' : c ∈ tl sFig := of_decide_eq_true h2
        refine front_while (S := sFig) (a := a) (fun e => [some (.str x), some (.ref pw), some (.ref fa), some (.int (a : Int)), some (.str ⟨#[c]⟩), some (.int e)]) (fun _ => rfl) (fun _ => rfl) (fun _ _ => rfl) hx (by omega) ?_
        have hpos := front_pos (r := (tl x).drop (a + 1)) h2'
        rw [← ed] at hpos
        have eO : oneTok (c :: (tl x).drop (a + 1)) = (if 9 < (frontOf (tl sFig) ((tl x).drop a)).length ∨ (1 < (frontOf (tl sFig) ((tl x).drop a)).length ∧ c = 48) then none else some (Str.ofString "number", frontOf (tl sFig) ((tl x).drop a))) := by
          unfold oneTok
          dsimp only
          rw [if_neg h1', if_pos h2', ← ed]
        have ecut : cutS x (some (a : Int)) (some ((a + (frontOf (tl sFig) ((tl x).drop a)).length : Nat) : Int)) = mkS (frontOf (tl sFig) ((tl x).drop a)) := by
          rw [cut_any, show a + (frontOf (tl sFig) ((tl x).drop a)).length - a = (frontOf (tl sFig) ((tl x).drop a)).length by omega, frontOf_take]
        generalize hU : frontOf (tl sFig) ((tl x).drop a) = U at *
        have fin : ¬ (9 < U.length ∨ (1 < U.length ∧ c = 48)) → tSeq (tDrop (tBM K "list" rAppend (tVar 2) (tCons (tTup (tCons (tC (.str (Str.ofString "number"))) (tCons (tSl rSlS (tVar 0) (tPart (tVar 3)) (tPart (tVar 5))) (tCons (tVar 3) tNil)))) tNil))) (tAsg (tVar 5) (gName 3))
            { nx := fun σ' H' => ∃ m', m' < (tl x).length - a ∧ ∃ (a : Nat) (acc : List Tk) (vs : List V) (sv ev : Option V), m' = (tl x).length - a ∧ σ' = [some (.str x), some (.ref pw), some (.ref fa), some (.int (a : Int)), sv, ev] ∧ LI x H pw fa a acc vs H', rt := Q }
            [some (.str x), some (.ref pw), some (.ref fa), some (.int (a : Int)), some (.str ⟨#[c]⟩), some (.int ((a + U.length : Nat) : Int))] H' := by
          intro hn
          rw [if_neg hn] at eO
          refine ⟨_, rfl, .inl ⟨rfl, _, SqL.of I.found⟩, ?_⟩
          refine ⟨_, rfl, _, rfl, _, rfl, _, rfl, _, rfl, _, rfl, hx, ?_⟩
          rw [ecut]
          refine ⟨_, rfl, (by show 3 ≤ sizeLine; decide), fun p hp => ?_⟩
          have npf : fa ≠ p := fun z => by rw [← z, I.found] at hp; cases hp
          refine ⟨fa, vs, _, rfl, rfl, (by rw [upd_ne npf]; exact I.found), hV, ?_⟩
          refine ⟨_, rfl, ?_⟩
          exact ⟨(tl x).length - (a + U.length), by omega, a + U.length, _, _, _, _, rfl, rfl, I.push ed hb' eO hfa0 nwf hp rfl⟩
        refine ⟨_, rfl, _, rfl, _, _, rfl, rfl, _, _, rfl, rfl, _, rfl, ?_⟩
        refine ite2 (fun h9 => ?_) (fun h9 => ?_)
        · have := of_decide_eq_true h9
          refine iteT ?_
          exact kN (I.no ed hb' (by rw [eO, if_pos (.inl (by omega))])) _ I.same
        · have h9' : ¬ 9 < U.length := fun z => h9 (decide_eq_true (by omega))
          refine ⟨_, rfl, _, rfl, _, _, rfl, rfl, _, _, rfl, rfl, _, rfl, ?_⟩
          refine ite2 (fun h11 => ?_) (fun h11 => ?_)
          · have h11' := of_decide_eq_true h11
            refine ⟨_, rfl, rfl, _, rfl, ?_⟩
            rw [show decide (V.str ⟨#[c]⟩ = V.str (Str.ofString "0")) = decide (c = 48) from one_eq c 48]
            refine ite2 (fun h0 => ?_) (fun h0 => ?_)
            · exact kN (I.no ed hb' (by rw [eO, if_pos (.inr ⟨by omega, of_decide_eq_true h0⟩)])) _ I.same
            · exact fin (fun z => z.elim h9' fun z => h0 (decide_eq_true z.2))
          · refine iteF ?_
            exact fin (fun z => z.elim h9' fun z => h11 (decide_eq_true (by omega)))
      have h2' : ¬ c ∈ tl sFig := fun z => h2 (decide_eq_true z)
      refine ⟨_, rfl, rfl, _, rfl, ?_⟩
      rw [show decide (V.str ⟨#[c]⟩ = V.str (Str.ofString "'")) = decide (c = 39) from one_eq c 39]
      refine ite2 (fun h3 => ?_) (fun h3 => ?_)
      · -- a text
        have h3' : c = 39 := of_decide_eq_true h3
        have eO : oneTok (c :: (tl x).drop (a + 1)) = (marked ((tl x).drop (a + 1))).map fun u => (Str.ofString "text", u) := by
          unfold oneTok
          dsimp only
          rw [if_neg h1', if_neg h2', if_pos h3']
        have hu := upto_le 39 ((tl x).drop (a + 1))
        have hr1 : ((tl x).drop (a + 1)).length = (tl x).length - (a + 1) := List.length_drop
        have eM : marked ((tl x).drop (a + 1)) = if (upto 39 ((tl x).drop (a + 1))).length < ((tl x).drop (a + 1)).length ∧ (upto 39 ((tl x).drop (a + 1))).all goodSign = true ∧ (upto 39 ((tl x).drop (a + 1))).length ≤ 60 then some (upto 39 ((tl x).drop (a + 1))) else none := rfl
        refine ⟨_, rfl, _, _, rfl, rfl, ?_⟩
        have e00 : ((a : Int) + 1) = ((a + 1 + 0 : Nat) : Int) := by omega
        refine ⟨fun m σ H1 => ∃ n : Nat, m = (tl x).length - (a + 1 + n) ∧ σ = [some (.str x), some (.ref pw), some (.ref fa), some (.int (a : Int)), some (.str ⟨#[c]⟩), some (.int ((a + 1 + n : Nat) : Int))] ∧ H1 = H' ∧ n ≤ (upto 39 ((tl x).drop (a + 1))).length ∧ (∀ j, j < n → ∀ d, ((tl x).drop (a + 1))[j]? = some d → goodSign d = true),
          ⟨_, 0, rfl, by rw [← e00]; rfl, rfl, Nat.zero_le _, fun j hj => absurd hj (Nat.not_lt_zero j)⟩, ?_⟩
        rintro m σ H1 ⟨n, rfl, rfl, rfl, hn, hg⟩
        have done : n = (upto 39 ((tl x).drop (a + 1))).length → tSeq (tIfS (tOr (tTest (tOp rEq (tVar 5) (tCB (fun xs H Q => ∃ x n, xs = [x] ∧ LenV K x H n ∧ Q (.int n) H) (tCons (tVar 0) tNil)))) (tTest (tOp (rI0 fun i j => .bl (decide (j < i))) (tOp (rI0 fun i j => .int (i - j)) (tVar 5) (tVar 3)) (tC (.int 61))))) (tRet (tC .non)) tNext)
            (tSeq (tDrop (tBM K "list" rAppend (tVar 2) (tCons (tTup (tCons (tC (.str (Str.ofString "text"))) (tCons (tSl rSlS (tVar 0) (tPart (tOp (rI0 fun i j => .int (i + j)) (tVar 3) (tC (.int 1)))) (tPart (tVar 5))) (tCons (tVar 3) tNil)))) tNil))) (tAsg (tOp (rI0 fun i j => .int (i + j)) (tVar 5) (tC (.int 1))) (gName 3)))
            { nx := fun σ' H' => ∃ m', m' < (tl x).length - a ∧ ∃ (a : Nat) (acc : List Tk) (vs : List V) (sv ev : Option V), m' = (tl x).length - a ∧ σ' = [some (.str x), some (.ref pw), some (.ref fa), some (.int (a : Int)), sv, ev] ∧ LI x H pw fa a acc vs H', rt := Q }
            [some (.str x), some (.ref pw), some (.ref fa), some (.int (a : Int)), some (.str ⟨#[c]⟩), some (.int ((a + 1 + n : Nat) : Int))] H1 := by
          intro e
          have hall : (upto 39 ((tl x).drop (a + 1))).all goodSign = true := by
            rw [List.all_eq_true]
            intro d hd
            obtain ⟨j, hj⟩ := List.mem_iff_getElem?.mp hd
            have hjl := (List.getElem?_eq_some_iff.mp hj).1
            refine hg j (by omega) d ?_
            rw [← upto_take, List.getElem?_take_of_lt hjl] at hj
            exact hj
          refine ⟨_, rfl, _, rfl, _, _, rfl, ⟨hx, rfl⟩, rfl, _, rfl, ?_⟩
          refine ite2 (fun hend => ?_) (fun hend => ?_)
          · have h1 := V.int.inj (of_decide_eq_true hend)
            refine iteT ?_
            exact kN (I.no ed hb' (by rw [eO, eM, if_neg (fun z => by have := z.1; omega)]; rfl)) _ I.same
          · have h1 : ¬ ((a + 1 + n : Nat) : Int) = (x.length : Int) := fun z => hend (decide_eq_true (by rw [z]))
            refine ⟨_, rfl, _, rfl, _, _, rfl, rfl, _, _, rfl, rfl, _, rfl, ?_⟩
            refine ite2 (fun h61 => ?_) (fun h61 => ?_)
            · have h61' := of_decide_eq_true h61
              exact kN (I.no ed hb' (by rw [eO, eM, if_neg (fun z => by have := z.2.2; omega)]; rfl)) _ I.same
            · have h61' : ¬ ((61 : Int) < ((a + 1 + n : Nat) : Int) - (a : Int)) := fun z => h61 (decide_eq_true z)
              have eT : oneTok (c :: (tl x).drop (a + 1)) = some (Str.ofString "text", upto 39 ((tl x).drop (a + 1))) := by
                rw [eO, eM, if_pos ⟨by omega, hall, by omega⟩]; rfl
              refine ⟨_, rfl, .inl ⟨rfl, _, SqL.of I.found⟩, ?_⟩
              refine ⟨_, rfl, _, rfl, _, _, rfl, rfl, _, rfl, _, rfl, _, rfl, _, rfl, hx, ?_⟩
              have ecut : cutS x (some ((a : Int) + 1)) (some ((a + 1 + n : Nat) : Int)) = mkS (upto 39 ((tl x).drop (a + 1))) := by
                rw [show ((a : Int) + 1) = ((a + 1 : Nat) : Int) by omega, cut_any, show a + 1 + n - (a + 1) = n by omega, e, upto_take]
              rw [ecut]
              refine ⟨_, rfl, (by show 3 ≤ sizeLine; decide), fun p hp => ?_⟩
              have npf : fa ≠ p := fun z => by rw [← z, I.found] at hp; cases hp
              refine ⟨fa, vs, _, rfl, rfl, (by rw [upd_ne npf]; exact I.found), hV, ?_⟩
              refine ⟨_, rfl, _, _, rfl, rfl, ?_⟩
              have esz : a + 1 + n + 1 = a + szL (Str.ofString "text") (upto 39 ((tl x).drop (a + 1))) := by
                unfold szL
                rw [if_pos rfl, ← e]; omega
              exact ⟨(tl x).length - (a + 1 + n + 1), by omega, a + 1 + n + 1, _, _, _, _, rfl, rfl, I.push ed hb' eT hfa0 nwf hp esz⟩
        refine ⟨_, rfl, _, rfl, _, _, rfl, ⟨hx, rfl⟩, _, _, rfl, rfl, _, rfl, ?_⟩
        refine ite2 (fun hlt2 => ?_) (fun hlt2 => ?_)
        · have hlt2' := of_decide_eq_true hlt2
          have hlt3 : a + 1 + n < (tl x).length := by omega
          obtain ⟨d, hd⟩ : ∃ d, (tl x)[a + 1 + n]? = some d := ⟨(tl x)[a + 1 + n], by simp [hlt3]⟩
          have hd' : ((tl x).drop (a + 1))[n]? = some d := by rw [List.getElem?_drop]; exact hd
          refine ⟨_, rfl, _, rfl, _, _, _, rfl, rfl, hx, atI_nat hd, rfl, _, rfl, ?_⟩
          rw [show decide (V.str ⟨#[d]⟩ = V.str (Str.ofString "'")) = decide (d = 39) from one_eq d 39]
          refine ite2 (fun hq => ?_) (fun hq => ?_)
          · have hq' : d ≠ 39 := by simpa using hq
            have hn1 := upto_step hd' hq' hn
            refine ⟨_, fun _ _ z => z, ?_⟩
            have bad : goodSign d = false → Q .non H1 := fun hb =>
              kN (I.no ed hb' (by
                rw [eO, eM, if_neg (fun z => ?_)]
                · rfl
                · have hm := upto_get hd' (by omega : n < (upto 39 ((tl x).drop (a + 1))).length)
                  have := List.all_eq_true.mp z.2.1 d (List.mem_of_getElem? hm)
                  rw [hb] at this; cases this)) _ I.same
            have good : goodSign d = true → tAsg (tOp (rI0 fun i j => .int (i + j)) (tVar 5) (tC (.int 1))) (gName 5)
                { nx := fun σ' H' => ∃ m', m' < (tl x).length - (a + 1 + n) ∧ ∃ n : Nat, m' = (tl x).length - (a + 1 + n) ∧ σ' = [some (.str x), some (.ref pw), some (.ref fa), some (.int (a : Int)), some (.str ⟨#[c]⟩), some (.int ((a + 1 + n : Nat) : Int))] ∧ H' = H1 ∧ n ≤ (upto 39 ((tl x).drop (a + 1))).length ∧ (∀ j, j < n → ∀ d, ((tl x).drop (a + 1))[j]? = some d → goodSign d = true), rt := Q }
                [some (.str x), some (.ref pw), some (.ref fa), some (.int (a : Int)), some (.str ⟨#[c]⟩), some (.int ((a + 1 + n : Nat) : Int))] H1 := by
              intro hgd
              refine ⟨_, rfl, _, _, rfl, rfl, ?_⟩
              refine ⟨(tl x).length - (a + 1 + (n + 1)), by omega, n + 1, rfl, rfl, rfl, hn1, fun j hj e he => ?_⟩
              by_cases hjn : j < n
              · exact hg j hjn e he
              · have : j = n := by omega
                subst this
                rw [hd'] at he
                cases he
                exact hgd
            refine ⟨_, rfl, _, rfl, _, _, _, rfl, rfl, hx, atI_nat hd, rfl, _, rfl, ?_⟩
            rw [show decide (V.str ⟨#[d]⟩ = V.str (Str.ofString "?")) = decide (d = 63) from one_eq d 63]
            refine ite2 (fun h63 => ?_) (fun h63 => ?_)
            · refine iteT ?_
              exact bad (by unfold goodSign; rw [h63]; rfl)
            · have h63' : decide (d = 63) = false := by simpa using h63
              refine ⟨_, rfl, _, rfl, _, _, _, rfl, rfl, hx, atI_nat hd, _, rfl, rfl, _, _, rfl, rfl, _, rfl, ?_⟩
              refine ite2 (fun h32 => ?_) (fun h32 => ?_)
              · refine ⟨_, _, rfl, rfl, _, rfl, ?_⟩
                refine ite2 (fun h127 => ?_) (fun h127 => ?_)
                · exact bad (by
                    unfold goodSign
                    have z : ¬ ((d : Nat) : Int) < 127 := by simpa using h127
                    rw [h63', show decide (d ≤ 126) = false from decide_eq_false (by omega)]; simp)
                · exact good (by
                    have z : ((d : Nat) : Int) < 127 := by simpa using h127
                    have z2 : (32 : Int) ≤ ((d : Nat) : Int) := by simpa using h32
                    unfold goodSign
                    rw [h63', show decide (d ≤ 126) = true from decide_eq_true (by omega), show decide (32 ≤ d) = true from decide_eq_true (by omega)]; rfl)
              · refine ⟨_, rfl, ?_⟩
                refine iteT ?_
                exact bad (by
                  have z : ¬ (32 : Int) ≤ ((d : Nat) : Int) := fun z => h32 (decide_eq_true z)
                  unfold goodSign
                  rw [h63', show decide (32 ≤ d) = false from decide_eq_false (by omega)]; rfl)
          · have hq' : d = 39 := by simpa using hq
            exact done (upto_stop hn fun e he => by rw [hd'] at he; cases he; exact hq')
        · refine iteF ?_
          refine done (upto_stop hn fun e he => ?_)
          have : a + 1 + n < (tl x).length := by
            rw [List.getElem?_drop] at he
            exact (List.getElem?_eq_some_iff.mp he).1
          exact absurd (decide_eq_true (by omega)) hlt2
      · -- a sign
        have h3' : ¬ c = 39 := fun z => h3 (decide_eq_true z)
        have eO : oneTok (c :: (tl x).drop (a + 1)) = (signsL.find? fun s => startsL s (c :: (tl x).drop (a + 1))).map fun s => (Str.ofString "sign", tl s) := by
          unfold oneTok
          dsimp only
          rw [if_neg h1', if_neg h2', if_neg h3']
        rw [sign_find] at eO
        have hr1 : ((tl x).drop (a + 1)).length = (tl x).length - (a + 1) := List.length_drop
        have finS : ∀ (u : List Nat) (H1 : Hp) (ev : Int), LI x H pw fa a acc vs H1 → oneTok (c :: (tl x).drop (a + 1)) = some (Str.ofString "sign", u) → 1 ≤ u.length → cutS x (some (a : Int)) (some ev) = mkS u → ev = ((a + u.length : Nat) : Int) →
            tSeq (tDrop (tBM K "list" rAppend (tVar 2) (tCons (tTup (tCons (tC (.str (Str.ofString "sign"))) (tCons (tSl rSlS (tVar 0) (tPart (tVar 3)) (tPart (tVar 5))) (tCons (tVar 3) tNil)))) tNil))) (tAsg (tVar 5) (gName 3))
            { nx := fun σ' H' => ∃ m', m' < (tl x).length - a ∧ ∃ (a : Nat) (acc : List Tk) (vs : List V) (sv ev : Option V), m' = (tl x).length - a ∧ σ' = [some (.str x), some (.ref pw), some (.ref fa), some (.int (a : Int)), sv, ev] ∧ LI x H pw fa a acc vs H', rt := Q }
            [some (.str x), some (.ref pw), some (.ref fa), some (.int (a : Int)), some (.str ⟨#[c]⟩), some (.int ev)] H1 := by
          intro u H1 ev I1 eT hu1 ecut eev
          refine ⟨_, rfl, .inl ⟨rfl, _, SqL.of I1.found⟩, ?_⟩
          refine ⟨_, rfl, _, rfl, _, rfl, _, rfl, _, rfl, _, rfl, hx, ?_⟩
          rw [ecut]
          refine ⟨_, rfl, (by show 3 ≤ sizeLine; decide), fun p hp => ?_⟩
          have npf : fa ≠ p := fun z => by rw [← z, I1.found] at hp; cases hp
          refine ⟨fa, vs, _, rfl, rfl, (by rw [upd_ne npf]; exact I1.found), hV, ?_⟩
          refine ⟨_, rfl, ?_⟩
          rw [eev]
          exact ⟨(tl x).length - (a + u.length), by omega, a + u.length, _, _, _, _, rfl, rfl, I1.push ed hb' eT hfa0 nwf hp rfl⟩
        have c2 : cutS x (some (a : Int)) (some ((a : Int) + 2)) = mkS ((c :: (tl x).drop (a + 1)).take 2) := by
          rw [show ((a : Int) + 2) = ((a + 2 : Nat) : Int) by omega, cut_any, show a + 2 - a = 2 by omega, ed]
        have c1 : cutS x (some (a : Int)) (some ((a : Int) + 1)) = mkS [c] := by
          rw [show ((a : Int) + 1) = ((a + 1 : Nat) : Int) by omega, cut_any, show a + 1 - a = 1 by omega, ed]
          rfl
        refine ⟨_, rfl, _, rfl, _, rfl, _, rfl, _, _, rfl, rfl, _, rfl, _, rfl, hx, ?_⟩
        rw [c2]
        refine ⟨(by show 3 ≤ sizeLine; decide), fun p hp => ?_⟩
        have I1 := I.keep (same_upd (o := .tup [V.str (Str.ofString "<="), V.str (Str.ofString ">="), V.str (Str.ofString "<>")]) (Same.refl _) hp)
        refine ⟨p, twoL.map V.str, rfl, .inr (SqT.of upd_same), rfl, flat_strs _, _, rfl, ?_⟩
        rw [if_neg Bool.false_ne_true, inV_strs]
        refine ite2 (fun h4 => ?_) (fun h4 => ?_)
        · rw [if_pos h4] at eO
          have hl2 : ((c :: (tl x).drop (a + 1)).take 2).length = 2 := by
            obtain ⟨s, hs, he⟩ := List.any_eq_true.mp h4
            have := two_len s hs
            rw [beq_iff_eq.mp he] at this
            exact this
          refine ⟨_, rfl, _, _, rfl, rfl, ?_⟩
          exact finS ((c :: (tl x).drop (a + 1)).take 2) _ _ I1 eO (by rw [hl2]; decide) c2 (by rw [hl2]; omega)
        · rw [if_neg h4] at eO
          refine ⟨_, rfl, c, sOnes, rfl, rfl, _, rfl, ?_⟩
          refine ite2 (fun h5 => ?_) (fun h5 => ?_)
          · rw [if_pos (of_decide_eq_true h5)] at eO
            refine ⟨_, rfl, _, _, rfl, rfl, ?_⟩
            exact finS [c] _ _ I1 eO (Nat.le_refl _) c1 (by simp)
          · rw [if_neg (fun z => h5 (decide_eq_true z))] at eO
            exact kN (I.no ed hb' eO) _ I1.same
    · have ha : (tl x).length ≤ a := by
        have : ¬ ((a : Int) < (x.length : Int)) := fun z => hlt (decide_eq_true z)
        omega
      have ed : (tl x).drop a = [] := List.drop_eq_nil_of_le ha
      have hR := I.rest
      rw [ed, toks_nil] at hR
      have hR' : toks 0 (tl x) = some acc := by rw [hR]; simp
      have hlen := I.len
      refine ⟨_, rfl, _, _, rfl, .inl ⟨_, SqL.of I.found, rfl⟩, _, _, rfl, rfl, _, rfl, ?_⟩
      refine ite2 (fun h200 => ?_) (fun h200 => ?_)
      · have h200' := of_decide_eq_true h200
        refine ⟨_, rfl, _, _, rfl, ⟨hx, rfl⟩, _, _, rfl, rfl, _, rfl, ?_⟩
        refine ite2 (fun h2000 => ?_) (fun h2000 => ?_)
        · have h2' := of_decide_eq_true h2000
          refine ⟨_, rfl, ?_⟩
          exact kS acc (by unfold tokR; rw [if_neg (by omega), hR']; dsimp only; rw [if_neg (by omega)]) _ _ I.same hfa0 ⟨vs, I.found, I.all⟩
        · have h2' : ¬ ((x.length : Int) ≤ 2000) := fun z => h2000 (decide_eq_true z)
          exact kN (by unfold tokR; rw [if_pos (by omega)]) _ I.same
      · have h200' : ¬ (((vs.length : Nat) : Int) ≤ 200) := fun z => h200 (decide_eq_true z)
        refine iteF ?_
        refine kN ?_ _ I.same
        unfold tokR
        split
        · rfl
        · rw [hR']; dsimp only; rw [if_pos (by omega)]
end
end K58

namespace K58
open PySem PySem.Spec PyProof.Rows L2
theorem scTold : FnScope ["text", "problem"] ["text"] (defScope sTold) := ⟨rfl, rfl, rfl, by decide +kernel, rfl, by decide +kernel, by decide +kernel⟩
theorem pss_when {X : Cx} {st : List Stmt} {t : TS} {p : Prop} (h : p → PSs X st t) : PSs X st (fun D σ H => p ∧ t D σ H) := ⟨fun pins s σ H D I ⟨hp, ht⟩ => (h hp).run pins s σ H D I ht⟩
/-- what the classes of errors are, for the law's except clause -/
structure CatchT (K : PySem.W.Frag) (mg : Str → Option Value) (CD C : Addr) : Prop where
  gD : mg "DeskError" = some (.ref CD)
  exm : PySem.W.exmOne K (.ref C) (.ref CD) = some true
  ec : ExcC K C
  kC : PySem.W.kitOne K (.ref C) (.ref C) = some true
  kV : PySem.W.kitOne K (.ref C) (.type "ValueError") = some true
  b_VE : mg "ValueError" = none
def spTold : Sp := fun vs H Q _ =>
  (∃ x : Str, vs = [.str x] ∧ x.length ≤ sizeLine ∧ (∀ ts, tokR (tl x) = some ts → ∀ H' p, Same H H' → H p = none → ToksAt H' p ts → Q (.ref p) H') ∧ (tokR (tl x) = none → ∀ H', Same H H' → Q .non H')) ∨
  (∃ i : Int, vs = [.int i] ∧ ∀ H', Same H H' → Q .non H')
section
variable {P : Program} {w : World} {K : PySem.W.Frag} {mg : Str → Option Value} {base : Heap}
theorem ok_told {f C CD fT : Addr} {fd fdT : FuncData} (F : Fun K "_law_told" "_law_told" sTold f fd) (T : Blt mg) (X : ErrT K mg C) (Y : CatchT K mg CD C)
    (FT : FnOk P w K mg base (L2.CX P w) 3 fT fdT ["text"] (spTokens C)) (mgT : mg "tokens" = some (.ref fT)) (kT : PySem.W.keepIn K (.ref fT) = true) (bT : Binds K fdT ["text"] []) : FnOk P w K mg base CX0 4 f fd ["text"] spTold := by
  refine F.ok scTold (fun vs H Q E h => ?_) (fun cdv A outer s H vs Q E hr h => ?_)
  · rcases h with ⟨x, rfl, _⟩ | ⟨i, rfl, _⟩ <;> rfl
  · refine ⟨_, pss_one (ps_try_as (i := 1) (tb := fun W => tRet (tCallS (spTokens C) (WE W) (tCons (tVar 0) tNil)))
        (ts := fun a cls d D σ H => (cls = .ref C ∧ d = none) ∧ tRet (tIf (tAnd (tB (tCB (rIsE K C a) (tCons (tVar 1) (tCons (tC (.ref C)) tNil)))) (tB (tCB (rIsE K C a) (tCons (tVar 1) (tCons (tC (.ty "ValueError")) tNil))))) (tC .non) (tC (.str (Str.ofString "other")))) D σ H) (Wout := fun _ _ _ _ => False)
        rfl rfl scTold.nd rfl rfl ⟨rfl, by decide, .inl Y.gD⟩ takes0
        (fun W pn xe tk _ => pss_one (ps_ret (by exact (pe_callS FT hr rfl mgT kT bT (fun σ => passAt tk σ) (by exact (pa_cons (pv 0) pa_nil))))))
        (fun a oe cls d pn hz hf => pss_when fun hp => by
          obtain ⟨rfl, rfl⟩ := hp
          exact pss_one (ps_ret (pe_ifExp (PW.pt (pw_and (pt_val (pe_callB (call_isE Y.ec hz hf) (by rfl) T.b_isinstance (by decide +kernel) (pa_cons (pv 1) (pa_cons (pe_glob (v := .ref C) rfl X.gP rfl) pa_nil)))) (pw_and1 (pt_val (pe_callB (call_isE Y.ec hz hf) (by rfl) T.b_isinstance (by decide +kernel) (pa_cons (pv 1) (pa_cons (pe_bltn (v := .ty "ValueError") (u := .type "ValueError") (by rfl) Y.b_VE (by decide +kernel) rfl) pa_nil))))))) pe_non pe_str)))), ?_⟩
    have caught : ∀ (v : V) (H' : Hp), Q .non H' → WE (wAs K (.ref CD) 1 (fun a cls d D σ H => (cls = .ref C ∧ d = none) ∧ tRet (tIf (tAnd (tB (tCB (rIsE K C a) (tCons (tVar 1) (tCons (tC (.ref C)) tNil)))) (tB (tCB (rIsE K C a) (tCons (tVar 1) (tCons (tC (.ty "ValueError")) tNil))))) (tC .non) (tC (.str (Str.ofString "other")))) D σ H) (fun _ _ _ _ => False) { nx := fun _ H' => Q .non H', rt := Q }) [some v, none] (.ref C) none H' := by
      intro v H' q
      refine ⟨true, Y.exm, fun _ a ha => ⟨⟨rfl, rfl⟩, ?_⟩, fun z => by cases z⟩
      refine ⟨_, rfl, .ref C, .ref C, true, rfl, fun u r => r, Y.kC, true, rfl, ?_⟩
      refine iteT ?_
      refine ⟨_, rfl, .ty "ValueError", .type "ValueError", true, rfl, fun u r => r, Y.kV, true, rfl, ?_⟩
      refine iteT ?_
      exact q
    rcases h with ⟨x, rfl, hx, kS, kN⟩ | ⟨i, rfl, kN⟩
    · refine ⟨_, rfl, .inl ⟨x, rfl, hx, fun ts hts H' p s1 hp hT => kS ts hts H' p s1 hp hT, fun hn H' s1 => ?_⟩⟩
      exact caught _ _ (kN hn _ s1)
    · refine ⟨_, rfl, .inr ⟨i, rfl, fun H' s1 => ?_⟩⟩
      exact caught _ _ (kN _ s1)
end
end K58

namespace K58
open PySem PySem.Spec PyProof.Rows L2
/-! ### tokens joined are read as the same -/
abbrev wordL (t : Tk) : List Nat := if t.1 = Str.ofString "text" then 39 :: t.2.1 ++ [39] else t.2.1
theorem tl_wordOf (t : Tk) : tl (wordOf t) = wordL t := by
  unfold wordOf wordL
  split <;> rfl
theorem wordL_len (t : Tk) : (wordL t).length = szL t.1 t.2.1 := by
  unfold wordL szL
  split <;> simp
def Behind (rest : List Nat) : Prop := rest = [] ∨ ∃ q, rest = 32 :: q
theorem frontOf_all (S l : List Nat) : ∀ c ∈ frontOf S l, c ∈ S := by
  intro c hc
  have := List.all_takeWhile (p := fun c => decide (c ∈ S)) (l := l)
  have h2 := List.all_eq_true.mp this c hc
  simpa using h2
theorem frontOf_app {S : List Nat} (h32 : 32 ∉ S) : ∀ {u rest : List Nat}, (∀ c ∈ u, c ∈ S) → Behind rest → frontOf S (u ++ rest) = u
  | [], rest, _, hb => by
    rcases hb with rfl | ⟨q, rfl⟩
    · rfl
    · unfold frontOf
      rw [List.nil_append, List.takeWhile_cons, if_neg (by simpa using h32)]
  | c :: u, rest, h, hb => by
    have ih := frontOf_app h32 (u := u) (rest := rest) (fun d hd => h d (List.mem_cons_of_mem _ hd)) hb
    unfold frontOf at ih ⊢
    rw [List.cons_append, List.takeWhile_cons, if_pos (by simpa using h c (List.mem_cons_self ..)), ih]
theorem upto_app {c : Nat} : ∀ {u rest : List Nat}, (∀ d ∈ u, d ≠ c) → upto c (u ++ c :: rest) = u
  | [], rest, _ => by
    unfold upto
    rw [List.nil_append, List.takeWhile_cons, if_neg (by simp)]
  | d :: u, rest, h => by
    have ih := upto_app (c := c) (u := u) (rest := rest) (fun e he => h e (List.mem_cons_of_mem _ he))
    unfold upto at ih ⊢
    rw [List.cons_append, List.takeWhile_cons, if_pos (by simpa using h d (List.mem_cons_self ..)), ih]
theorem upto_free (c : Nat) (l : List Nat) : ∀ d ∈ upto c l, d ≠ c := by
  intro d hd
  have := List.all_takeWhile (p := fun d => decide (d ≠ c)) (l := l)
  have h2 := List.all_eq_true.mp this d hd
  simpa using h2
theorem n32L : 32 ∉ tl sLett := by decide +kernel
theorem n32F : 32 ∉ tl sFig := by decide +kernel
theorem bl_lett : ∀ c ∈ tl sLett, ¬ c ∈ tl sBl := by decide +kernel
theorem bl_fig : ∀ c ∈ tl sFig, ¬ c ∈ tl sBl := by decide +kernel
theorem fig_lett : ∀ c ∈ tl sFig, ¬ c ∈ tl sLett := by decide +kernel
theorem ones_free : ∀ c ∈ tl sOnes, ¬ c ∈ tl sBl ∧ ¬ c ∈ tl sLett ∧ ¬ c ∈ tl sFig ∧ c ≠ 39 := by decide +kernel
theorem two_free : ∀ s ∈ twoL, ∃ c d, tl s = [c, d] ∧ c ∈ tl sOnes ∧ d ≠ 32 := by
  intro s hs
  rcases List.mem_cons.mp hs with rfl | hs
  · exact ⟨60, 61, by decide +kernel, by decide +kernel, by decide⟩
  · rcases List.mem_cons.mp hs with rfl | hs
    · exact ⟨62, 61, by decide +kernel, by decide +kernel, by decide⟩
    · rcases List.mem_cons.mp hs with rfl | hs
      · exact ⟨60, 62, by decide +kernel, by decide +kernel, by decide⟩
      · cases hs
theorem kinds : ¬ Str.ofString "word" = Str.ofString "text" ∧ ¬ Str.ofString "name" = Str.ofString "text" ∧ ¬ Str.ofString "number" = Str.ofString "text" ∧ ¬ Str.ofString "sign" = Str.ofString "text" := by decide +kernel
/-- a token's word, read again ahead of a blank or the end -/
theorem reTok {r : List Nat} {k : Str} {u : List Nat} (h : oneTok r = some (k, u)) (a : Nat) {rest : List Nat} (hb : Behind rest) :
    oneTok (wordL (k, u, a) ++ rest) = some (k, u) ∧ ∃ c r', wordL (k, u, a) = c :: r' ∧ ¬ c ∈ tl sBl := by
  unfold oneTok at h
  split at h
  · cases h
  · rename_i c t
    split at h
    · rename_i hc
      split at h
      · cases h
      · rename_i h12
        have hp := front_pos (r := t) hc
        have hall := frontOf_all (tl sLett) (c :: t)
        have e0 : ∃ v, frontOf (tl sLett) (c :: t) = c :: v := by
          unfold frontOf
          rw [List.takeWhile_cons, if_pos (by simpa using hc)]
          exact ⟨_, rfl⟩
        generalize frontOf (tl sLett) (c :: t) = U at *
        obtain ⟨v, rfl⟩ := e0
        have nk : ∀ kk : Str, (kk = Str.ofString "word" ∨ kk = Str.ofString "name") → ¬ kk = Str.ofString "text" := fun kk hk => by
          rcases hk with rfl | rfl
          · exact kinds.1
          · exact kinds.2.1
        have ew : ∀ kk : Str, ¬ kk = Str.ofString "text" → wordL (kk, c :: v, a) = c :: v := fun kk hk => by
          unfold wordL
          rw [if_neg hk]
        have er : oneTok (c :: v ++ rest) = some (if (wordsL.any fun y => y == mkS (c :: v)) = true then Str.ofString "word" else Str.ofString "name", c :: v) := by
          have ef := frontOf_app n32L (u := c :: v) (rest := rest) hall hb
          rw [List.cons_append] at ef ⊢
          unfold oneTok
          dsimp only
          rw [if_pos hc, ef, if_neg h12]
        have hk' : ¬ k = Str.ofString "text" := by
          cases h
          refine nk _ ?_
          split
          · exact .inl rfl
          · exact .inr rfl
        cases h
        rw [ew _ hk']
        exact ⟨er, c, v, rfl, bl_lett c hc⟩
    · rename_i hc
      split at h
      · rename_i hc2
        split at h
        · cases h
        · rename_i h9
          have hall := frontOf_all (tl sFig) (c :: t)
          have e0 : ∃ v, frontOf (tl sFig) (c :: t) = c :: v := by
            unfold frontOf
            rw [List.takeWhile_cons, if_pos (by simpa using hc2)]
            exact ⟨_, rfl⟩
          generalize frontOf (tl sFig) (c :: t) = U at *
          obtain ⟨v, rfl⟩ := e0
          cases h
          have ew : wordL (Str.ofString "number", c :: v, a) = c :: v := by
            unfold wordL
            rw [if_neg kinds.2.2.1]
          rw [ew]
          refine ⟨?_, c, v, rfl, bl_fig c hc2⟩
          have ef := frontOf_app n32F (u := c :: v) (rest := rest) hall hb
          rw [List.cons_append] at ef ⊢
          unfold oneTok
          dsimp only
          rw [if_neg hc, if_pos hc2, ef, if_neg h9]
      · rename_i hc2
        split at h
        · rename_i hc3
          cases e : marked t with
          | none => rw [e] at h; cases h
          | some v =>
            rw [e] at h
            cases h
            have ew : wordL (Str.ofString "text", u, a) = 39 :: u ++ [39] := by
              unfold wordL
              rw [if_pos rfl]
            rw [ew]
            unfold marked at e
            split at e
            · rename_i hm
              cases e
              have hfree := upto_free 39 t
              generalize upto 39 t = v at *
              refine ⟨?_, 39, v ++ [39], rfl, by decide +kernel⟩
              have ea : 39 :: v ++ [39] ++ rest = 39 :: (v ++ 39 :: rest) := by simp
              rw [ea]
              unfold oneTok
              dsimp only
              rw [if_neg (show ¬ 39 ∈ tl sLett by decide +kernel), if_neg (show ¬ 39 ∈ tl sFig by decide +kernel), if_pos rfl]
              unfold marked
              rw [upto_app hfree, if_pos ⟨by simp, hm.2⟩]
              rfl
            · cases e
        · rename_i hc3
          rw [sign_find] at h
          by_cases h2 : (twoL.any fun y => y == mkS ((c :: t).take 2)) = true
          · rw [if_pos h2] at h
            cases h
            obtain ⟨s, hs, he⟩ := List.any_eq_true.mp h2
            obtain ⟨c1, d1, e1, hc1, hd1⟩ := two_free s hs
            have e2 : (c :: t).take 2 = [c1, d1] := by
              have := congrArg tl (beq_iff_eq.mp he)
              rw [e1] at this
              exact this.symm
            have ew : wordL (Str.ofString "sign", tl (mkS ((c :: t).take 2)), a) = [c1, d1] := by
              unfold wordL
              rw [if_neg kinds.2.2.2]
              exact e2
            rw [ew]
            have hf := ones_free c1 hc1
            refine ⟨?_, c1, [d1], rfl, hf.1⟩
            show oneTok (c1 :: d1 :: rest) = _
            unfold oneTok
            dsimp only
            rw [if_neg hf.2.1, if_neg hf.2.2.1, if_neg hf.2.2.2, sign_find]
            rw [if_pos (by show (twoL.any fun y => y == mkS [c1, d1]) = true; rw [← e2]; exact h2)]
            rw [e2]
            rfl
          · rw [if_neg h2] at h
            by_cases h3 : c ∈ tl sOnes
            · rw [if_pos h3] at h
              cases h
              have ew : wordL (Str.ofString "sign", tl (mkS [c]), a) = [c] := by
                unfold wordL
                rw [if_neg kinds.2.2.2]
              rw [ew]
              have hf := ones_free c h3
              refine ⟨?_, c, [], rfl, hf.1⟩
              show oneTok (c :: rest) = _
              unfold oneTok
              dsimp only
              rw [if_neg hf.2.1, if_neg hf.2.2.1, if_neg hf.2.2.2, sign_find, if_neg, if_pos h3]
              · rfl
              · intro z
                obtain ⟨s, hs, he⟩ := List.any_eq_true.mp z
                obtain ⟨c1, d1, e1, hc1, hd1⟩ := two_free s hs
                have e2 := congrArg tl (beq_iff_eq.mp he)
                rw [e1] at e2
                rcases hb with rfl | ⟨q, rfl⟩
                · cases e2
                · have e3 : [c1, d1] = [c, 32] := e2
                  cases e3
                  exact hd1 rfl
            · rw [if_neg h3] at h
              cases h
end K58

namespace K58
open PySem PySem.Spec PyProof.Rows L2
abbrev kw (t : Tk) : Str × List Nat := (t.1, t.2.1)
def Good (t : Tk) : Prop := ∃ r, oneTok r = some (t.1, t.2.1)
theorem oneTok_sz {r : List Nat} {k : Str} {u : List Nat} (h : oneTok r = some (k, u)) : szL k u ≤ r.length := by
  have hle := oneTok_le h
  unfold oneTok at h
  split at h
  · cases h
  · rename_i c t
    split at h
    · split at h
      · cases h
      · have hk : ¬ k = Str.ofString "text" := by
          cases h
          split
          · exact kinds.1
          · exact kinds.2.1
        unfold szL
        rw [if_neg hk]
        exact hle
    · split at h
      · split at h
        · cases h
        · cases h
          unfold szL
          rw [if_neg kinds.2.2.1]
          exact hle
      · split at h
        · cases e : marked t with
          | none => rw [e] at h; cases h
          | some v =>
            rw [e] at h; cases h
            unfold marked at e
            split at e
            · rename_i hm
              cases e
              have := hm.1
              unfold szL
              rw [if_pos rfl, List.length_cons]
              omega
            · cases e
        · have hk : k = Str.ofString "sign" := by
            cases e : signsL.find? (fun s => startsL s (c :: t)) with
            | none => rw [e] at h; cases h
            | some v => rw [e] at h; cases h; rfl
          unfold szL
          rw [hk, if_neg kinds.2.2.2]
          exact hle
theorem toks_front {a : Nat} {k : Str} {u : List Nat} {r : List Nat} (h : oneTok r = some (k, u)) (b : Nat) {rest : List Nat} (hb : Behind rest) :
    toks a (wordL (k, u, b) ++ rest) = (toks (a + szL k u) rest).map fun ts => (k, u, a) :: ts := by
  obtain ⟨e, c, r', ew, hc⟩ := reTok h b hb
  have hl := wordL_len (k, u, b)
  have hpos := oneTok_pos h
  rw [ew] at e hl ⊢
  rw [List.cons_append] at e ⊢
  rw [toks_one hc e]
  have hl' : r'.length + 1 = szL k u := hl
  have ed : (r' ++ rest).drop (szL k u - 1) = rest := by
    rw [show szL k u - 1 = r'.length by omega]
    simp
  rw [ed]
theorem toks_joined : ∀ (ts : List Tk) (a : Nat), (∀ t ∈ ts, Good t) → ∃ ts', toks a (TL.joinL [32] (ts.map wordL)) = some ts' ∧ ts'.map kw = ts.map kw
  | [], a, _ => ⟨[], toks_nil a, rfl⟩
  | [t], a, h => by
    obtain ⟨r, hr⟩ := h t (List.mem_cons_self ..)
    obtain ⟨k, u, b⟩ := t
    refine ⟨[(k, u, a)], ?_, rfl⟩
    show toks a (wordL (k, u, b)) = _
    have := toks_front (a := a) hr b (rest := []) (.inl rfl)
    rw [List.append_nil, toks_nil] at this
    exact this
  | t :: t2 :: r2, a, h => by
    obtain ⟨r, hr⟩ := h t (List.mem_cons_self ..)
    obtain ⟨k, u, b⟩ := t
    obtain ⟨ts', e1, e2⟩ := toks_joined (t2 :: r2) (a + szL k u + 1) (fun x hx => h x (List.mem_cons_of_mem _ hx))
    refine ⟨(k, u, a) :: ts', ?_, by rw [List.map_cons, e2]; rfl⟩
    show toks a (wordL (k, u, b) ++ ([32] ++ TL.joinL [32] ((t2 :: r2).map wordL))) = _
    have := toks_front (a := a) hr b (rest := [32] ++ TL.joinL [32] ((t2 :: r2).map wordL)) (.inr ⟨_, rfl⟩)
    rw [this]
    show (toks (a + szL k u) (32 :: TL.joinL [32] ((t2 :: r2).map wordL))).map _ = _
    rw [toks_bl (by decide +kernel), e1]
    rfl
/-- what tokens of a text are: each was read, together they are no longer than it -/
theorem toks_all : ∀ (n : Nat) (l : List Nat) (a : Nat) (ts : List Tk), l.length ≤ n → toks a l = some ts → (∀ t ∈ ts, Good t) ∧ (ts.map fun t => szL t.1 t.2.1).sum ≤ l.length ∧ ts.length ≤ l.length
  | _, [], a, ts, _, h => by
    rw [toks_nil] at h
    cases h
    exact ⟨fun _ z => (List.not_mem_nil z).elim, Nat.le_refl _, Nat.le_refl _⟩
  | 0, c :: r, a, ts, hn, h => absurd hn (by simp)
  | n + 1, c :: r, a, ts, hn, h => by
    rw [List.length_cons] at hn
    by_cases hb : c ∈ tl sBl
    · rw [toks_bl hb] at h
      obtain ⟨h1, h2, h3⟩ := toks_all n r (a + 1) ts (by omega) h
      exact ⟨h1, by rw [List.length_cons]; omega, by rw [List.length_cons]; omega⟩
    · cases e : oneTok (c :: r) with
      | none => rw [toks_no hb e] at h; cases h
      | some p =>
        obtain ⟨k, u⟩ := p
        rw [toks_one hb e] at h
        have hpos := oneTok_pos e
        have hd : (r.drop (szL k u - 1)).length = r.length - (szL k u - 1) := List.length_drop
        cases e2 : toks (a + szL k u) (r.drop (szL k u - 1)) with
        | none => rw [e2] at h; cases h
        | some ts2 =>
          rw [e2] at h
          cases h
          obtain ⟨h1, h2, h3⟩ := toks_all n _ _ ts2 (by omega) e2
          have hsz : szL k u ≤ r.length + 1 := by
            have := oneTok_sz e
            simpa using this
          refine ⟨fun t ht => ?_, ?_, ?_⟩
          · rcases List.mem_cons.mp ht with rfl | ht
            · exact ⟨c :: r, e⟩
            · exact h1 t ht
          · rw [List.map_cons, List.sum_cons, List.length_cons]
            show szL k u + _ ≤ _
            omega
          · rw [List.length_cons, List.length_cons]
            omega
end K58

namespace K58
open PySem PySem.Spec PyProof.Rows L2
theorem joinL_len (S : List Nat) : ∀ parts : List (List Nat), (TL.joinL S parts).length ≤ (parts.map List.length).sum + parts.length * S.length
  | [] => Nat.zero_le _
  | [p] => by
    show p.length ≤ _
    simp
  | p :: q :: r => by
    have ih := joinL_len S (q :: r)
    show (p ++ (S ++ TL.joinL S (q :: r))).length ≤ _
    simp only [List.length_append, List.map_cons, List.sum_cons, List.length_cons, Nat.add_mul] at ih ⊢
    omega
theorem tl_joinT (ts : List Tk) : tl (joinT ts) = TL.joinL [32] (ts.map wordL) := by
  unfold joinT
  rw [TL.join_eq]
  show TL.tl _ = _
  rw [TL.tl_join, List.map_map]
  have e : (TL.tl ∘ wordOf) = wordL := funext tl_wordOf
  rw [e]
  rfl
theorem words_sum (ts : List Tk) : ((ts.map wordL).map List.length).sum = (ts.map fun t => szL t.1 t.2.1).sum := by
  rw [List.map_map]
  congr 1
  refine List.map_congr_left fun t _ => wordL_len t
theorem tokR_toks {l : List Nat} {ts : List Tk} (h : tokR l = some ts) : toks 0 l = some ts ∧ ts.length ≤ 200 := by
  unfold tokR at h
  split at h
  · cases h
  · split at h
    · cases h
    · rename_i t2 e
      split at h
      · cases h
      · cases h
        exact ⟨e, by omega⟩
theorem again_ok {l : List Nat} {ts : List Tk} (h : tokR l = some ts) (hl : l.length ≤ 900) :
    joinOk ts ∧ (joinT ts).length ≤ 2000 ∧ ∃ ts', tokR (tl (joinT ts)) = some ts' ∧ ts'.map kw = ts.map kw := by
  obtain ⟨h1, h2⟩ := tokR_toks h
  obtain ⟨a1, a2, a3⟩ := toks_all l.length l 0 ts (Nat.le_refl _) h1
  have hw := words_sum ts
  have hlen : (tl (joinT ts)).length ≤ 2000 := by
    rw [tl_joinT]
    have := joinL_len [32] (ts.map wordL)
    rw [hw, List.length_map, List.length_singleton] at this
    omega
  refine ⟨?_, by rw [len_tl]; exact hlen, ?_⟩
  · unfold joinOk
    have e : ((ts.map wordOf).map (·.length)).sum = ((ts.map wordL).map List.length).sum := by
      rw [List.map_map, List.map_map]
      congr 1
      refine List.map_congr_left fun t _ => ?_
      show (wordOf t).length = (wordL t).length
      rw [len_tl, tl_wordOf]
    rw [e, hw]
    omega
  · obtain ⟨ts', e1, e2⟩ := toks_joined ts 0 a1
    refine ⟨ts', ?_, e2⟩
    have hl2 : ts'.length = ts.length := by
      have := congrArg List.length e2
      simpa using this
    unfold tokR
    rw [if_neg (by omega), tl_joinT, e1]
    dsimp only
    rw [if_neg (by omega)]
theorem plus_one (r : List Nat) (hr : r = [] ∨ ∃ q, r = 43 :: q) : oneTok (43 :: r) = some (Str.ofString "sign", [43]) := by
  unfold oneTok
  dsimp only
  rw [if_neg (show ¬ 43 ∈ tl sLett by decide +kernel), if_neg (show ¬ 43 ∈ tl sFig by decide +kernel), if_neg (show ¬ 43 = 39 by decide), sign_find]
  have h2 : ¬ (twoL.any fun y => y == mkS ((43 :: r).take 2)) = true := by
    rcases hr with rfl | ⟨q, rfl⟩
    · show ¬ (twoL.any fun y => y == mkS [43]) = true
      decide +kernel
    · show ¬ (twoL.any fun y => y == mkS [43, 43]) = true
      decide +kernel
  rw [if_neg h2, if_pos (show 43 ∈ tl sOnes by decide +kernel)]
  rfl
theorem toks_plus : ∀ (n a : Nat), ∃ ts, toks a (List.replicate n 43) = some ts ∧ ts.length = n
  | 0, a => ⟨[], toks_nil a, rfl⟩
  | n + 1, a => by
    obtain ⟨ts, e, hl⟩ := toks_plus n (a + 1)
    have hr : List.replicate n 43 = [] ∨ ∃ q, List.replicate n 43 = 43 :: q := by
      cases n with
      | zero => exact .inl rfl
      | succ m => exact .inr ⟨_, List.replicate_succ⟩
    have esz : szL (Str.ofString "sign") [43] = 1 := by decide +kernel
    refine ⟨(Str.ofString "sign", [43], a) :: ts, ?_, by rw [List.length_cons, hl]⟩
    rw [List.replicate_succ, toks_one (by decide +kernel) (plus_one _ hr), esz]
    show (toks (a + 1) (List.replicate n 43)).map _ = _
    rw [e]; rfl
theorem tokR_plus {n : Nat} (hn : n ≤ 2000) : (200 < n → tokR (List.replicate n 43) = none) ∧ (¬ 200 < n → ∃ ts, tokR (List.replicate n 43) = some ts) := by
  obtain ⟨ts, e, hl⟩ := toks_plus n 0
  unfold tokR
  rw [if_neg (by rw [List.length_replicate]; omega), e]
  dsimp only
  rw [hl]
  exact ⟨fun h => by rw [if_pos h], fun h => ⟨ts, by rw [if_neg h]⟩⟩
theorem tokR_blank (l : List Nat) (h : l.length = 2001) : tokR l = none := by
  unfold tokR
  rw [if_pos (by omega)]
theorem goods (n : Nat) : (List.replicate n 112).all goodSign = true := by
  rw [List.all_eq_true]
  intro c hc
  rw [(List.mem_replicate.mp hc).2]
  decide
theorem marked_ps (n : Nat) : marked (List.replicate n 112 ++ [39]) = if n ≤ 60 then some (List.replicate n 112) else none := by
  have hu : upto 39 (List.replicate n 112 ++ [39]) = List.replicate n 112 := upto_app fun d hd => by
    rw [(List.mem_replicate.mp hd).2]; decide
  unfold marked
  rw [hu]
  by_cases h : n ≤ 60
  · rw [if_pos h, if_pos ⟨by simp, goods n, by rw [List.length_replicate]; exact h⟩]
  · rw [if_neg h, if_neg (fun z => h (by have := z.2.2; rw [List.length_replicate] at this; exact this))]
theorem one_ps (n : Nat) : oneTok (39 :: (List.replicate n 112 ++ [39])) = if n ≤ 60 then some (Str.ofString "text", List.replicate n 112) else none := by
  unfold oneTok
  dsimp only
  rw [if_neg (show ¬ 39 ∈ tl sLett by decide +kernel), if_neg (show ¬ 39 ∈ tl sFig by decide +kernel), if_pos rfl, marked_ps]
  by_cases h : n ≤ 60
  · rw [if_pos h, if_pos h]; rfl
  · rw [if_neg h, if_neg h]; rfl
theorem tokR_60 : tokR (39 :: (List.replicate 60 112 ++ [39])) = some [(Str.ofString "text", List.replicate 60 112, 0)] := by
  have e := one_ps 60
  rw [if_pos (Nat.le_refl _)] at e
  have esz : szL (Str.ofString "text") (List.replicate 60 112) = 62 := by decide +kernel
  have et : toks 0 (39 :: (List.replicate 60 112 ++ [39])) = some [(Str.ofString "text", List.replicate 60 112, 0)] := by
    rw [toks_one (by decide +kernel) e, esz]
    have ed : (List.replicate 60 112 ++ [39]).drop (62 - 1) = [] := List.drop_eq_nil_of_le (by simp)
    rw [ed, toks_nil]; rfl
  unfold tokR
  rw [if_neg (by simp), et]
  rfl
theorem tokR_61 : tokR (39 :: (List.replicate 61 112 ++ [39])) = none := by
  have e := one_ps 61
  rw [if_neg (by decide)] at e
  have et : toks 0 (39 :: (List.replicate 61 112 ++ [39])) = none := toks_no (by decide +kernel) e
  unfold tokR
  rw [if_neg (by simp), et]
theorem joinL_empty (S : List Nat) : ∀ n : Nat, TL.joinL S (List.replicate (n + 1) []) = (List.replicate n S).flatten
  | 0 => rfl
  | n + 1 => by
    rw [List.replicate_succ, List.replicate_succ]
    show [] ++ (S ++ TL.joinL S ([] :: List.replicate n [])) = _
    rw [← List.replicate_succ, joinL_empty S n]
    simp [List.replicate_succ]
theorem joinL_none (c : Nat) : ∀ n : Nat, TL.joinL [] (List.replicate n [c]) = List.replicate n c
  | 0 => rfl
  | 1 => rfl
  | n + 2 => by
    rw [List.replicate_succ, List.replicate_succ]
    show [c] ++ ([] ++ TL.joinL [] ([c] :: List.replicate n [c])) = _
    rw [← List.replicate_succ, joinL_none c (n + 1)]
    rfl
theorem flat_one (c : Nat) : ∀ n : Nat, (List.replicate n [c]).flatten = List.replicate n c
  | 0 => rfl
  | n + 1 => by
    rw [List.replicate_succ, List.flatten_cons, flat_one c n]
    rfl
theorem tl_plus (n : Nat) : tl (Txt.join (Str.ofString "+") (List.replicate (n + 1) (Str.ofString ""))) = List.replicate n 43 := by
  rw [TL.join_eq]
  show TL.tl _ = _
  rw [TL.tl_join, List.map_replicate]
  show TL.joinL [43] (List.replicate (n + 1) []) = _
  rw [joinL_empty, flat_one]
theorem tl_same (c : Nat) (s : Str) (hs : tl s = [c]) (n : Nat) : tl (Txt.join (Str.ofString "") (List.replicate n s)) = List.replicate n c := by
  rw [TL.join_eq]
  show TL.tl _ = _
  rw [TL.tl_join, List.map_replicate]
  show TL.joinL [] (List.replicate n (tl s)) = _
  rw [hs, joinL_none]
/-- the signs of tokens are signs of the text -/
theorem oneTok_mem {r : List Nat} {k : Str} {u : List Nat} (h : oneTok r = some (k, u)) : ∀ c ∈ u, c ∈ r := by
  have front : ∀ (S l : List Nat), ∀ c ∈ frontOf S l, c ∈ l := fun S l c hc => (List.takeWhile_sublist _).subset hc
  unfold oneTok at h
  split at h
  · cases h
  · rename_i c t
    split at h
    · split at h
      · cases h
      · cases h; exact front _ _
    · split at h
      · split at h
        · cases h
        · cases h; exact front _ _
      · split at h
        · cases e : marked t with
          | none => rw [e] at h; cases h
          | some v =>
            rw [e] at h; cases h
            unfold marked at e
            split at e
            · cases e
              exact fun c hc => List.mem_cons_of_mem _ ((List.takeWhile_sublist _).subset hc)
            · cases e
        · rw [sign_find] at h
          split at h
          · cases h
            exact fun d hd => List.mem_of_mem_take hd
          · split at h
            · cases h
              intro d hd
              have : d = c := by simpa using hd
              rw [this]; exact List.mem_cons_self ..
            · cases h
theorem toks_mem : ∀ (n : Nat) (l : List Nat) (a : Nat) (ts : List Tk), l.length ≤ n → toks a l = some ts → ∀ t ∈ ts, ∀ c ∈ t.2.1, c ∈ l
  | _, [], a, ts, _, h => by
    rw [toks_nil] at h
    cases h
    exact fun _ z => (List.not_mem_nil z).elim
  | 0, c :: r, a, ts, hn, h => absurd hn (by simp)
  | n + 1, c :: r, a, ts, hn, h => by
    rw [List.length_cons] at hn
    by_cases hb : c ∈ tl sBl
    · rw [toks_bl hb] at h
      exact fun t ht d hd => List.mem_cons_of_mem _ (toks_mem n r (a + 1) ts (by omega) h t ht d hd)
    · cases e : oneTok (c :: r) with
      | none => rw [toks_no hb e] at h; cases h
      | some p =>
        obtain ⟨k, u⟩ := p
        rw [toks_one hb e] at h
        have hd : (r.drop (szL k u - 1)).length = r.length - (szL k u - 1) := List.length_drop
        cases e2 : toks (a + szL k u) (r.drop (szL k u - 1)) with
        | none => rw [e2] at h; cases h
        | some ts2 =>
          rw [e2] at h
          cases h
          intro t ht d hd'
          rcases List.mem_cons.mp ht with rfl | ht
          · exact oneTok_mem e d hd'
          · exact List.mem_cons_of_mem _ (List.mem_of_mem_drop (toks_mem n _ _ ts2 (by omega) e2 t ht d hd'))
theorem kinds_ok {r : List Nat} {k : Str} {u : List Nat} (h : oneTok r = some (k, u)) : PyData.strOk k = true := by
  unfold oneTok at h
  split at h
  · cases h
  · rename_i c t
    split at h
    · split at h
      · cases h
      · cases h
        split <;> decide +kernel
    · split at h
      · split at h
        · cases h
        · cases h; decide +kernel
      · split at h
        · cases e : marked t with
          | none => rw [e] at h; cases h
          | some v => rw [e] at h; cases h; decide +kernel
        · cases e : signsL.find? (fun s => startsL s (c :: t)) with
          | none => rw [e] at h; cases h
          | some v => rw [e] at h; cases h; decide +kernel
end K58

namespace K58
open PySem PySem.Spec PyProof.Rows L2
/-! ### tokens as data -/
def tokD (t : Tk) : PyData := .tuple [.str t.1, .str (mkS t.2.1), .int (t.2.2 : Int)]
def kwD (t : Str × List Nat) : PyData := .tuple [.str t.1, .str (mkS t.2)]
theorem toks_dp {K : PySem.W.Frag} {H : Hp} : ∀ {vs : List V} {ts : List Tk}, Paired (TokV H) vs ts → DpAll K H vs (ts.map tokD)
  | _, _, .nil => .nil
  | _, _, .cons ⟨p, e, h⟩ t => .cons (by
      subst e
      exact .tup (SqT.of h) (.cons (.str _) (.cons (.str _) (.cons (.int _) .nil)))) (toks_dp t)
theorem at_dp {K : PySem.W.Frag} {H : Hp} {p : Addr} {ts : List Tk} (h : ToksAt H p ts) : Dp K H (.ref p) (.list (ts.map tokD)) := by
  obtain ⟨vs, h1, h2⟩ := h
  exact .lst (SqL.of h1) (toks_dp h2)
theorem tok_okD {ts : List Tk} (h : ts.length ≤ 1000) : okD 3 (.list (ts.map tokD)) := by
  refine ⟨by rw [List.length_map]; omega, fun e he => ?_⟩
  obtain ⟨t, _, rfl⟩ := List.mem_map.mp he
  refine ⟨by simp, fun e he => ?_⟩
  rcases List.mem_cons.mp he with rfl | he
  · trivial
  · rcases List.mem_cons.mp he with rfl | he
    · trivial
    · rcases List.mem_cons.mp he with rfl | he
      · trivial
      · cases he
theorem ToksAt.keep {H H' : Hp} {p : Addr} {ts : List Tk} (h : ToksAt H p ts) (s : Same H H') : ToksAt H' p ts := by
  obtain ⟨vs, h1, h2⟩ := h
  exact ⟨vs, s _ _ h1, paired_imp (fun _ _ ⟨q, e1, e2⟩ => ⟨q, e1, s _ _ e2⟩) h2⟩
/-- a row's first two parts as the heap has them -/
def KwV (H : Hp) (v : V) (t : Str × List Nat) : Prop := ∃ p, v = .ref p ∧ H p = some (.tup [.str t.1, .str (mkS t.2)])
theorem kw_dp {K : PySem.W.Frag} {H : Hp} : ∀ {vs : List V} {ts : List (Str × List Nat)}, Paired (KwV H) vs ts → DpAll K H vs (ts.map kwD)
  | _, _, .nil => .nil
  | _, _, .cons ⟨p, e, h⟩ t => .cons (by
      subst e
      exact .tup (SqT.of h) (.cons (.str _) (.cons (.str _) .nil))) (kw_dp t)
theorem kw_lay : ∀ (ts : List (Str × List Nat)), (∀ t ∈ ts, PyData.strOk t.1 = true ∧ PyData.strOk (mkS t.2) = true) → PyData.canLayAll0 (ts.map kwD) = true ∧ PyData.depthAll (ts.map kwD) ≤ 1
  | [], _ => ⟨rfl, Nat.zero_le _⟩
  | t :: ts, h => by
    obtain ⟨h1, h2⟩ := kw_lay ts (fun x hx => h x (List.mem_cons_of_mem _ hx))
    obtain ⟨g1, g2⟩ := h t (List.mem_cons_self ..)
    have e1 : (kwD t).canLay0 = true := by
      show PyData.canLayAll0 [.str t.1, .str (mkS t.2)] = true
      simp [PyData.canLayAll0, PyData.canLay0, g1, g2]
    have e2 : (kwD t).depth = 1 := by
      show PyData.depthAll [.str t.1, .str (mkS t.2)] + 1 = 1
      simp [PyData.depthAll, PyData.depth]
    constructor
    · show (PyData.canLay0 (kwD t) && PyData.canLayAll0 (ts.map kwD)) = true
      rw [e1, h1]; rfl
    · show max (kwD t).depth (PyData.depthAll (ts.map kwD)) ≤ 1
      omega
theorem kw_shaped {ts : List (Str × List Nat)} (h : ∀ t ∈ ts, PyData.strOk t.1 = true ∧ PyData.strOk (mkS t.2) = true) : SeqAt.shaped (.list (ts.map kwD)) = true ∧ PyData.eqv (.list (ts.map kwD)) (.list (ts.map kwD)) = true := by
  obtain ⟨h1, h2⟩ := kw_lay ts h
  have hc : PyData.canLay0 (.list (ts.map kwD)) = true := h1
  refine ⟨?_, SeqAt.eqv_refl _ hc⟩
  unfold SeqAt.shaped
  rw [hc, decide_eq_true (by show PyData.depthAll (ts.map kwD) + 1 ≤ 64; omega)]
  rfl
/-! ### the law -/
def pieces1 : List Str := [Str.ofString "from", Str.ofString "a", Str.ofString "show", Str.ofString "not", Str.ofString "x.y", Str.ofString "12", Str.ofString "0", Str.ofString "05", Str.ofString "1234567890", Str.ofString "'p q'", Str.ofString "''", Str.ofString "'?'", Str.ofString "'"]
def pieces2 : List Str := [Str.ofString "<", Str.ofString "<=", Str.ofString "=", Str.ofString "<>", Str.ofString "=>", Str.ofString "(", Str.ofString ")", Str.ofString ",", Str.ofString "+", Str.ofString "-", Str.ofString "*", Str.ofString "A", Str.ofString "abcdefghijklm", Str.ofString "\n", Str.ofString "~", Str.ofString "order", Str.ofString "fromm"]
def pieces3 : List Str := [Str.ofString "from", Str.ofString "a", Str.ofString "12", Str.ofString "'p'", Str.ofString "<"]
def blanks : List Str := [Str.ofString "", Str.ofString " ", Str.ofString " ", Str.ofString "  "]
/-- a short text of plain signs -/
def Plain (n : Nat) (s : Str) : Prop := s.length ≤ n ∧ ∀ c ∈ tl s, c < 128
def plainB (n : Nat) (s : Str) : Bool := decide (s.length ≤ n) && (tl s).all fun c => decide (c < 128)
theorem plain_of {n : Nat} {s : Str} (h : plainB n s = true) : Plain n s := by
  unfold plainB at h
  rw [Bool.and_eq_true, decide_eq_true_eq, List.all_eq_true] at h
  exact ⟨h.1, fun c hc => by simpa using h.2 c hc⟩
theorem pieces_plain : ∀ s ∈ pieces1 ++ pieces2, Plain 13 s := fun s hs => plain_of (List.all_eq_true.mp (show (pieces1 ++ pieces2).all (plainB 13) = true by decide +kernel) s hs)
theorem pieces3_plain : ∀ s ∈ pieces3, Plain 13 s := fun s hs => plain_of (List.all_eq_true.mp (show pieces3.all (plainB 13) = true by decide +kernel) s hs)
theorem blanks_plain : ∀ s ∈ blanks, Plain 2 s := fun s hs => plain_of (List.all_eq_true.mp (show blanks.all (plainB 2) = true by decide +kernel) s hs)
theorem Plain.app {n m : Nat} {s t : Str} (h : Plain n s) (g : Plain m t) : Plain (n + m) (s ++ t) := by
  have e : tl (s ++ t) = tl s ++ tl t := TL.tl_append s t
  have hs : s.length = (tl s).length := len_tl s
  have ht : t.length = (tl t).length := len_tl t
  refine ⟨?_, fun c hc => ?_⟩
  · rw [len_tl, e, List.length_append]
    have := h.1; have := g.1
    omega
  · rw [e] at hc
    rcases List.mem_append.mp hc with hc | hc
    · exact h.2 c hc
    · exact g.2 c hc
theorem app_len (s t : Str) : (s ++ t).length = s.length + t.length := by
  have e : tl (s ++ t) = tl s ++ tl t := TL.tl_append s t
  rw [len_tl, e, List.length_append, len_tl, len_tl]
theorem PoolOk.keep {H H' : Hp} {p : Addr} (h : PoolOk H p) (s : Same H H') : PoolOk H' p := by
  obtain ⟨l, ns, a, b, c, d, h1, h2, h3⟩ := h
  exact ⟨l, ns, a, b, c, d, s _ _ h1, s _ _ h2, h3⟩
theorem PoolOk.at {H : Hp} {p : Addr} (h : PoolOk H p) : ∃ o, H p = some o := by
  obtain ⟨l, ns, a, b, c, d, h1, _⟩ := h
  exact ⟨_, h1⟩
theorem PoolOk.ne {H : Hp} {p q : Addr} (h : PoolOk H p) (hq : H q = none) : q ≠ p := by
  obtain ⟨o, h1⟩ := h.at
  exact fun z => by rw [z, h1] at hq; cases hq
theorem mem_strs {L : List Str} {v : V} (h : v ∈ L.map V.str) : ∃ s, s ∈ L ∧ v = V.str s := by
  obtain ⟨s, h1, h2⟩ := List.mem_map.mp h
  exact ⟨s, h1, h2.symm⟩
theorem mem_cut {xs : List V} {lo hi : Option Int} {v : V} (h : v ∈ cutV xs lo hi) : v ∈ xs := by
  unfold cutV at h
  exact List.mem_of_mem_drop (List.mem_of_mem_take h)
theorem cut_le (xs : List V) (lo hi : Option Int) : (cutV xs lo hi).length ≤ xs.length := by
  unfold cutV
  rw [List.length_take, List.length_drop]
  omega
theorem PoolOk.new {H : Hp} {p q : Addr} {o : HO} (h : PoolOk H p) (hq : H q = none) : PoolOk (upd H q o) p := h.keep (same_upd (Same.refl _) hq)
/-- the names that the law calls -/
structure Names58 (K : PySem.W.Frag) (mg : Str → Option Value) (fP fD fK fL fO fS fJ fT : Addr) (gP gD gK gL gO gS gJ gT : FuncData) : Prop where
  mgP : mg "_law_pool" = some (.ref fP)
  kP : PySem.W.keepIn K (.ref fP) = true
  bP : Binds K gP ["script"] []
  mgD : mg "_law_draw" = some (.ref fD)
  kD : PySem.W.keepIn K (.ref fD) = true
  bD : Binds K gD ["pool", "many"] []
  mgK : mg "_law_pick" = some (.ref fK)
  kK : PySem.W.keepIn K (.ref fK) = true
  bK : Binds K gK ["pool", "rows"] []
  mgL : mg "_law_tokens" = some (.ref fL)
  kL : PySem.W.keepIn K (.ref fL) = true
  bL : Binds K gL ["text"] []
  mgO : mg "_law_told" = some (.ref fO)
  kO : PySem.W.keepIn K (.ref fO) = true
  bO : Binds K gO ["text"] []
  mgS : mg "_law_same" = some (.ref fS)
  kS : PySem.W.keepIn K (.ref fS) = true
  bS : Binds K gS ["actual", "due"] []
  mgJ : mg "joined" = some (.ref fJ)
  kJ : PySem.W.keepIn K (.ref fJ) = true
  bJ : Binds K gJ ["rows"] []
  mgT : mg "tokens" = some (.ref fT)
  kT : PySem.W.keepIn K (.ref fT) = true
  bT : Binds K gT ["text"] []
theorem scLaw : FnScope ["script", "pool", "pieces", "k", "text", "j", "piece", "due", "again", "many", "long", "kind", "told", "place", "row"] ["script"] (defScope sLaw) := ⟨rfl, rfl, rfl, by decide +kernel, rfl, by decide +kernel, by decide +kernel⟩
theorem strOk_of {x : Str} (h : ∀ c ∈ tl x, c < 128) : PyData.strOk x = true := by
  unfold PyData.strOk
  rw [Array.all_eq_true_iff_forall_mem]
  intro c hc
  have := h c (by simpa [tl] using hc)
  exact decide_eq_true (by omega)
theorem kw_ok {l : List Nat} {ts : List Tk} (h : toks 0 l = some ts) (hl : ∀ c ∈ l, c < 128) : ∀ t ∈ ts.map kw, PyData.strOk t.1 = true ∧ PyData.strOk (mkS t.2) = true := by
  intro x hx
  obtain ⟨t, ht, rfl⟩ := List.mem_map.mp hx
  obtain ⟨r, hr⟩ := (toks_all l.length l 0 ts (Nat.le_refl _) h).1 t ht
  exact ⟨kinds_ok hr, strOk_of fun c hc => hl c (toks_mem l.length l 0 ts (Nat.le_refl _) h t ht c hc)⟩
theorem iteF' {b : Bool} {p q : Prop} (e : b = false) (h : q) : if b = true then p else q := by
  rw [e]; exact h
/-- [s for k in range(n)], k at slot 3 -/
theorem lc_rep {lo : Int} {n : Nat} {σ : L2.St} {H1 : Hp} {D : Addr} {s : Str} {Qd : Hp → Prop} (hn : n ≤ 40000) (hw : ∀ v, wipe ((wipe σ [3]).set 3 (some v)) [3] = wipe σ [3]) (hD : H1 D = none)
    (hd : ∀ H', H' D = some (.lst (List.replicate n (.str s))) → Same H1 H' → Qd H') :
    ∃ W : Nat → Nat → Hp → Prop, (∃ m, W 0 m (upd H1 D (.lst []))) ∧ ∀ i m H, W i m H →
      ((Itr lo n).stop i H ∧ Qd H) ∨ ((Itr lo n).go i H ∧ ∃ Nx : Hp → Prop, (∀ H', Nx H' → ∃ m', m' < m ∧ W (i + 1) m' H') ∧ ∀ x H', (Itr lo n).yld i H x H' → gName 3 x (wipe σ [3]) H' fun σ2 H2 => wipe σ2 [3] = wipe σ [3] ∧ tYes σ2 H2 fun b H3 =>
        if b = true then tC (.str s) σ2 H3 fun y H4 => ∃ acc, H4 D = some (.lst acc) ∧ acc.length < sizeLine ∧ Nx (upd H4 D (.lst (acc ++ [y]))) else Nx H3) := by
  refine lc_range (fun i H' => H' D = some (.lst (List.replicate i (.str s))) ∧ ∀ b, b ≠ D → H' b = H1 b) ⟨upd_same, fun b hb => upd_ne hb⟩ ?_ ?_
  · rintro i H' hi ⟨h1, h2⟩
    refine ⟨hw _, ?_⟩
    unfold tYes
    refine iteT ?_
    refine ⟨_, h1, by rw [List.length_replicate, sizeLine_eq]; omega, by rw [upd_same, List.replicate_succ'], fun b hb => by rw [upd_ne hb]; exact h2 b hb⟩
  · rintro H' ⟨h1, h2⟩
    exact hd H' h1 fun b o e => by rw [h2 b (ne_of_none e hD)]; exact e
theorem rep_sz {s a : Str} (n : Nat) (hn : n ≤ 5000) (hs : s.length ≤ 1) (ha : a.length ≤ 1) : ((List.replicate n s).map (·.length)).sum + (List.replicate n s).length * a.length ≤ 16777216 := by
  have e : ((List.replicate n s).map (·.length)).sum = n * s.length := by
    rw [List.map_replicate, List.sum_replicate_nat]
  rw [e, List.length_replicate]
  have h1 : n * s.length ≤ n * 1 := Nat.mul_le_mul_left _ hs
  have h2 : n * a.length ≤ n * 1 := Nat.mul_le_mul_left _ ha
  omega
/-- [row[:2] for row in e], row at slot 14 -/
theorem kw_lc {K : PySem.W.Frag} {σ : L2.St} {H1 : Hp} {D e : Addr} {vs : List V} {ts : List Tk} {Qd : Hp → Prop} (hσ : ∀ v, ((wipe σ [14]).set 14 (some v))[14]? = some (some v)) (hw : ∀ v, wipe ((wipe σ [14]).set 14 (some v)) [14] = wipe σ [14])
    (hv : H1 e = some (.lst vs)) (hP : Paired (TokV H1) vs ts) (hts : ts.length ≤ 1000) (hD : H1 D = none) (hd : ∀ H', Same H1 H' → (∃ ws, H' D = some (.lst ws) ∧ Paired (KwV H') ws (ts.map kw)) → Qd H') :
    ∃ W : Nat → Nat → Hp → Prop, (∃ m, W 0 m (upd H1 D (.lst []))) ∧ ∀ i m H, W i m H →
      ((Itl K e).stop i H ∧ Qd H) ∨ ((Itl K e).go i H ∧ ∃ Nx : Hp → Prop, (∀ H', Nx H' → ∃ m', m' < m ∧ W (i + 1) m' H') ∧ ∀ x H', (Itl K e).yld i H x H' → gName 14 x (wipe σ [14]) H' fun σ2 H2 => wipe σ2 [14] = wipe σ [14] ∧ tYes σ2 H2 fun b H3 =>
        if b = true then tSl (rSlA K) (tVar 14) tNoPart (tPart (tC (.int 2))) σ2 H3 fun y H4 => ∃ acc, H4 D = some (.lst acc) ∧ acc.length < sizeLine ∧ Nx (upd H4 D (.lst (acc ++ [y]))) else Nx H3) := by
  have hlen := paired_len hP
  refine lc_list (K := K) (a := e) (xs := vs) (fun i H' => Same H1 H' ∧ ∃ ws, H' D = some (.lst ws) ∧ Paired (KwV H') ws ((ts.take i).map kw)) ⟨same_upd (Same.refl _) hD, [], upd_same, .nil⟩ ?_ ?_ ?_
  · rintro i H' _ ⟨s1, _⟩
    exact SqL.of (s1 _ _ hv)
  · rintro i y H' hi ⟨s1, ws, h1, h2⟩
    obtain ⟨t, ht, q, rfl, hq⟩ := paired_at hP hi
    have hi' : i < ts.length := (List.getElem?_eq_some_iff.mp ht).1
    have et : ts.take (i + 1) = ts.take i ++ [t] := take_snoc ht
    have hwl := paired_len h2
    rw [List.length_map, List.length_take] at hwl
    refine ⟨hw _, ?_⟩
    unfold tYes
    refine iteT ?_
    refine ⟨_, hσ _, _, rfl, q, _, rfl, SqT.of (s1 _ _ hq), fun z => absurd z.2 (show ¬ HT.sIx 3 3 (some 2) = 3 by decide), fun _ r hr => ?_⟩
    have nDr : D ≠ r := fun z => by rw [← z, h1] at hr; cases hr
    refine ⟨ws, by rw [upd_ne nDr]; exact h1, by rw [sizeLine_eq]; omega, fun b o eb => ?_, ws ++ [V.ref r], upd_same, ?_⟩
    · have nb : b ≠ D := fun z => by rw [z, hD] at eb; cases eb
      rw [upd_ne nb, upd_ne (ne_of_none (s1 _ _ eb) hr)]
      exact s1 _ _ eb
    · rw [et, List.map_append]
      refine paired_snoc ⟨r, rfl, by rw [upd_ne (Ne.symm nDr), upd_same]; rfl⟩ (paired_imp (fun v x ⟨z, e1, e2⟩ => ⟨z, e1, ?_⟩) h2)
      have nz : z ≠ D := ne_of e2 h1 (by intro y; cases y)
      rw [upd_ne nz, upd_ne (ne_of_none e2 hr)]
      exact e2
  · rintro H' ⟨s1, ws, h1, h2⟩
    rw [hlen, List.take_length] at h2
    exact hd H' s1 ⟨ws, h1, h2⟩
def spLaw (K : PySem.W.Frag) : Sp := fun vs H Q _ => ∃ (a : Addr) (ns : List Int), vs = [.ref a] ∧ SqL K H a (ns.map V.int) ∧ ns.length ≤ 63 ∧ ∀ H', Q (.bl true) H'
section
variable {P : Program} {w : World} {K : PySem.W.Frag} {mg : Str → Option Value} {base : Heap}
theorem ok_law {f fP fD fK fL fO fS fJ fT C : Addr} {fd gP gD gK gL gO gS gJ gT : FuncData} (F : Fun K "law" "law" sLaw f fd) (T : Blt mg) (M : Names58 K mg fP fD fK fL fO fS fJ fT gP gD gK gL gO gS gJ gT)
    (FP : FnOk P w K mg base CX0 1 fP gP ["script"] (spPool K)) (FD : FnOk P w K mg base CX0 1 fD gD ["pool", "many"] spDraw) (FK : FnOk P w K mg base CX0 2 fK gK ["pool", "rows"] spPick)
    (FL : FnOk P w K mg base CX0 1 fL gL ["text"] spLT) (FO : FnOk P w K mg base CX0 4 fO gO ["text"] spTold) (FS : FnOk P w K mg base CX0 4 fS gS ["actual", "due"] (spSame K 3))
    (FJ : FnOk P w K mg base CX0 1 fJ gJ ["rows"] spJoined) (FT : FnOk P w K mg base (L2.CX P w) 3 fT gT ["text"] (spTokens C)) :
    FnOk P w K mg base CX0 5 f fd ["script"] (spLaw K) := by
  refine F.ok scLaw (fun vs H Q E h => ?_) (fun cdv A outer s H vs Q E hr h => ?_)
  · obtain ⟨a, ns, rfl, _⟩ := h
    rfl
  · obtain ⟨a, ns, rfl, hS, hn, kQ⟩ := h
    have hr1 : Room 1 _ := hr.mono (by decide)
    have hr2 : Room 2 _ := hr.mono (by decide)
    have hr3 : Room 3 _ := hr.mono (by decide)
    refine ⟨_, (pss_cons (ps_set (i := 1) scLaw.nd rfl (Or.inl rfl) (pe_call FP hr1 rfl M.mgP M.kP M.bP .nil pass0 (pa_cons (pv 0) pa_nil)))
    (pss_cons (ps_set (i := 2) scLaw.nd rfl (Or.inl rfl) (pe_lst (pa_cons pe_str (pa_cons pe_str (pa_cons pe_str (pa_cons pe_str (pa_cons pe_str (pa_cons pe_str (pa_cons pe_str (pa_cons pe_str (pa_cons pe_str (pa_cons pe_str (pa_cons pe_str (pa_cons pe_str (pa_cons pe_str pa_nil)))))))))))))))
    (pss_cons (ps_set (i := 2) scLaw.nd rfl (Or.inl rfl) (pe_op op_cat (pv 2) (pe_lst (pa_cons pe_str (pa_cons pe_str (pa_cons pe_str (pa_cons pe_str (pa_cons pe_str (pa_cons pe_str (pa_cons pe_str (pa_cons pe_str (pa_cons pe_str (pa_cons pe_str (pa_cons pe_str (pa_cons pe_str (pa_cons pe_str (pa_cons pe_str (pa_cons pe_str (pa_cons pe_str (pa_cons pe_str pa_nil))))))))))))))))))))
    (pss_cons (ps_for PassesOwn.never rfl (pi_range1 (by rfl) T.b_range (pa_cons pe_int pa_nil)) (pg_name (i := 3) scLaw.nd rfl (Or.inl rfl)) (pss_cons (ps_set (i := 4) scLaw.nd rfl (Or.inl rfl) pe_str)
    (pss_cons (ps_for PassesOwn.never rfl (pi_range1 (by rfl) T.b_range (pa_cons (pe_call FD hr1 rfl M.mgD M.kD M.bD .nil pass0 (pa_cons (pv 1) (pa_cons pe_int pa_nil))) pa_nil)) (pg_name (i := 5) scLaw.nd rfl (Or.inl rfl)) (pss_cons (ps_set (i := 6) scLaw.nd rfl (Or.inl rfl) (pe_ifExp (pt_cmpR op_gt (pe_call FD hr1 rfl M.mgD M.kD M.bD .nil pass0 (pa_cons (pv 1) (pa_cons pe_int pa_nil))) pe_int (nomark _)) (pe_call FK hr2 rfl M.mgK M.kK M.bK .nil pass0 (pa_cons (pv 1) (pa_cons (pe_op op_cat (pe_slice (r := rSlL K) sl_list (pv 2) po_none (po_some pe_int)) (pv 2)) pa_nil))) (pe_call FK hr2 rfl M.mgK M.kK M.bK .nil pass0 (pa_cons (pv 1) (pa_cons (pe_lst (pa_cons pe_str (pa_cons pe_str (pa_cons pe_str (pa_cons pe_str (pa_cons pe_str pa_nil)))))) pa_nil)))))
    (pss_one (ps_set (i := 4) scLaw.nd rfl (Or.inl rfl) (pe_op op_add_str (pe_op op_add_str (pv 4) (pv 6)) (pe_call FK hr2 rfl M.mgK M.kK M.bK .nil pass0 (pa_cons (pv 1) (pa_cons (pe_lst (pa_cons pe_str (pa_cons pe_str (pa_cons pe_str (pa_cons pe_str pa_nil))))) pa_nil))))))))
    (pss_cons (ps_set (i := 7) scLaw.nd rfl (Or.inl rfl) (pe_call FL hr1 rfl M.mgL M.kL M.bL .nil pass0 (pa_cons (pv 4) pa_nil)))
    (pss_cons (ps_if (pt_not (pt_val (pe_call FS hr rfl M.mgS M.kS M.bS .nil pass0 (pa_cons (pe_call FO hr rfl M.mgO M.kO M.bO .nil pass0 (pa_cons (pv 4) pa_nil)) (pa_cons (pv 7) pa_nil))))) (pss_one (ps_ret pe_bl)) pss_nil)
    (pss_one (ps_if (pt_cmpR op_notN (pv 7) pe_non (nomark _)) (pss_cons (ps_set (i := 8) scLaw.nd rfl (Or.inl rfl) (pe_join pe_str (pe_lc (g := gTup K 3 (gCons (gName 11) (gCons (gName 12) (gCons (gName 13) gNil)))) (own := [("kind", 11), ("told", 12), ("place", 13)]) rfl scLaw.nd (pi_list (pv 7)) (blkOk_by (N := ["script", "pool", "pieces", "k", "text", "j", "piece", "due", "again", "many", "long", "kind", "told", "place", "row"]) (sc := defScope sLaw) (own := [("kind", 11), ("told", 12), ("place", 13)]) (by decide +kernel)) (fun _ _ _ _ _ => (pg_tup rfl (pgs_cons (pg_name (i := 11) scLaw.nd rfl (Or.inl rfl)) (pgs_cons (pg_name (i := 12) scLaw.nd rfl (Or.inl rfl)) (pgs_cons (pg_name (i := 13) scLaw.nd rfl (Or.inl rfl)) pgs_nil))))) (fun _ _ _ _ _ => pts_nil) (fun _ _ _ _ _ => (pe_ifExp (pt_cmpR op_eq (pv 11) pe_str (nomark _)) (pe_op op_add_str (pe_op op_add_str pe_str (pv 12)) pe_str) (pv 12))))))
    (pss_one (ps_if (PW.pt (pw_or (pt_not (pt_val (pe_call FS hr rfl M.mgS M.kS M.bS .nil pass0 (pa_cons (pe_call FJ hr1 rfl M.mgJ M.kJ M.bJ .nil pass0 (pa_cons (pe_callTy call_list_of (by rfl) T.b_list (by decide +kernel) (pa_cons (pv 7) pa_nil)) pa_nil)) (pa_cons (pv 8) pa_nil))))) (pw_or1 (pt_cmpR (op_neD hr.units) (pe_lc (own := [("row", 14)]) rfl scLaw.nd (pi_list (pe_call FT hr3 rfl M.mgT M.kT M.bT .nil passL (pa_cons (pv 8) pa_nil))) (blkOk_by (N := ["script", "pool", "pieces", "k", "text", "j", "piece", "due", "again", "many", "long", "kind", "told", "place", "row"]) (sc := defScope sLaw) (own := [("row", 14)]) (by decide +kernel)) (fun _ _ _ _ _ => (pg_name (i := 14) scLaw.nd rfl (Or.inl rfl))) (fun _ _ _ _ _ => pts_nil) (fun _ _ _ _ _ => (pe_slice (r := rSlA K) sl_tupA (pv 14) po_none (po_some pe_int)))) (pe_lc (own := [("row", 14)]) rfl scLaw.nd (pi_list (pv 7)) (blkOk_by (N := ["script", "pool", "pieces", "k", "text", "j", "piece", "due", "again", "many", "long", "kind", "told", "place", "row"]) (sc := defScope sLaw) (own := [("row", 14)]) (by decide +kernel)) (fun _ _ _ _ _ => (pg_name (i := 14) scLaw.nd rfl (Or.inl rfl))) (fun _ _ _ _ _ => pts_nil) (fun _ _ _ _ _ => (pe_slice (r := rSlA K) sl_tupA (pv 14) po_none (po_some pe_int)))) (nomark _))))) (pss_one (ps_ret pe_bl)) pss_nil))) pss_nil)))))))
    (pss_cons (ps_set (i := 9) scLaw.nd rfl (Or.inl rfl) (pe_op op_add pe_int (pe_call FD hr1 rfl M.mgD M.kD M.bD .nil pass0 (pa_cons (pv 1) (pa_cons pe_int pa_nil)))))
    (pss_cons (ps_if (PW.pt (pw_or (pt_cmpR op_ne (pe_cmpR op_isN (pe_call FO hr rfl M.mgO M.kO M.bO .nil pass0 (pa_cons (pe_join pe_str (pe_lc (own := [("k", 3)]) rfl scLaw.nd (pi_range1 (by rfl) T.b_range (pa_cons (pe_op op_add (pv 9) pe_int) pa_nil)) (blkOk_by (N := ["script", "pool", "pieces", "k", "text", "j", "piece", "due", "again", "many", "long", "kind", "told", "place", "row"]) (sc := defScope sLaw) (own := [("k", 3)]) (by decide +kernel)) (fun _ _ _ _ _ => (pg_name (i := 3) scLaw.nd rfl (Or.inl rfl))) (fun _ _ _ _ _ => pts_nil) (fun _ _ _ _ _ => pe_str))) pa_nil)) pe_non (nomark _)) (pe_cmpR op_gt (pv 9) pe_int (nomark _)) (nomark _)) (pw_or1 (pt_cmpR op_notN (pe_call FO hr rfl M.mgO M.kO M.bO .nil pass0 (pa_cons (pe_join pe_str (pe_lc (own := [("k", 3)]) rfl scLaw.nd (pi_range1 (by rfl) T.b_range (pa_cons pe_int pa_nil)) (blkOk_by (N := ["script", "pool", "pieces", "k", "text", "j", "piece", "due", "again", "many", "long", "kind", "told", "place", "row"]) (sc := defScope sLaw) (own := [("k", 3)]) (by decide +kernel)) (fun _ _ _ _ _ => (pg_name (i := 3) scLaw.nd rfl (Or.inl rfl))) (fun _ _ _ _ _ => pts_nil) (fun _ _ _ _ _ => pe_str))) pa_nil)) pe_non (nomark _))))) (pss_one (ps_ret pe_bl)) pss_nil)
    (pss_cons (ps_set (i := 10) scLaw.nd rfl (Or.inl rfl) (pe_op op_add_str pe_str (pe_join pe_str (pe_lc (own := [("k", 3)]) rfl scLaw.nd (pi_range1 (by rfl) T.b_range (pa_cons pe_int pa_nil)) (blkOk_by (N := ["script", "pool", "pieces", "k", "text", "j", "piece", "due", "again", "many", "long", "kind", "told", "place", "row"]) (sc := defScope sLaw) (own := [("k", 3)]) (by decide +kernel)) (fun _ _ _ _ _ => (pg_name (i := 3) scLaw.nd rfl (Or.inl rfl))) (fun _ _ _ _ _ => pts_nil) (fun _ _ _ _ _ => pe_str)))))
    (pss_one (ps_ret (pe_and (pe_call FS hr rfl M.mgS M.kS M.bS .nil pass0 (pa_cons (pe_call FO hr rfl M.mgO M.kO M.bO .nil pass0 (pa_cons (pe_op op_add_str (pv 10) pe_str) pa_nil)) (pa_cons (pe_lst (pa_cons (pe_tup (pa_cons pe_str (pa_cons (pe_slice sl_str (pv 10) (po_some pe_int) po_none) (pa_cons pe_int pa_nil)))) pa_nil)) pa_nil))) (pe_and (pe_cmpR op_isN (pe_call FO hr rfl M.mgO M.kO M.bO .nil pass0 (pa_cons (pe_op op_add_str (pv 10) pe_str) pa_nil)) pe_non (nomark _)) (pe_one (pe_cmpR op_isN (pe_call FO hr rfl M.mgO M.kO M.bO .nil pass0 (pa_cons pe_int pa_nil)) pe_non (nomark _)))))))))))))), ?_⟩
    refine ⟨_, rfl, a, ns, rfl, hS, hn, fun H0 p s0 hp0 hP => ?_⟩
    refine ⟨by show 13 ≤ sizeLine; decide, fun q1 hq1 => ?_⟩
    refine ⟨_, rfl, by show 17 ≤ sizeLine; decide, fun q2 hq2 => ?_⟩
    have n12 : q1 ≠ q2 := ne_of_none upd_same hq2
    refine ⟨q1, q2, _, _, rfl, rfl, by rw [upd_ne n12, upd_same], upd_same, by show 13 + 17 ≤ sizeLine; decide, fun q hq => ?_⟩
    have hP1 : PoolOk (upd (upd (upd H0 q1 (.lst (pieces1.map V.str))) q2 (.lst (pieces2.map V.str))) q (.lst ((pieces1 ++ pieces2).map V.str))) p :=
      ((hP.keep (same_upd (Same.refl _) hq1)).keep (same_upd (Same.refl _) hq2)).keep (same_upd (Same.refl _) hq)
    have nqp : q ≠ p := PoolOk.ne ((hP.keep (same_upd (Same.refl _) hq1)).keep (same_upd (Same.refl _) hq2)) hq
    show tSeq _ _ _ _ (upd (upd (upd H0 q1 (.lst (pieces1.map V.str))) q2 (.lst (pieces2.map V.str))) q (.lst ((pieces1 ++ pieces2).map V.str)))
    have hpc : (upd (upd (upd H0 q1 (.lst (pieces1.map V.str))) q2 (.lst (pieces2.map V.str))) q (.lst ((pieces1 ++ pieces2).map V.str))) q = some (.lst ((pieces1 ++ pieces2).map V.str)) := upd_same
    generalize upd (upd (upd H0 q1 (.lst (pieces1.map V.str))) q2 (.lst (pieces2.map V.str))) q (.lst ((pieces1 ++ pieces2).map V.str)) = H1 at *
    refine ⟨6, rfl, by decide, by decide, for_range (lo := 0) (n := 6) (fun i σ H' => ∃ v3 v4 v5 v6 v7 v8, σ = [some (.ref a), some (.ref p), some (.ref q), v3, v4, v5, v6, v7, v8, none, none, none, none, none, none] ∧ PoolOk H' p ∧ H' q = some (.lst ((pieces1 ++ pieces2).map V.str)))
      ⟨none, none, none, none, none, none, rfl, hP1, hpc⟩ ?_ ?_⟩
    · rintro i σ H2 hi ⟨v3, v4, v5, v6, v7, v8, rfl, hP2, hpc2⟩
      refine ⟨_, rfl, p, 21, rfl, hP2, by decide, by decide, fun d0 H3 d00 d01 hP3 sb3 => ?_⟩
      have hpc3 := sb3 _ _ nqp hpc2
      refine ⟨d0, rfl, by omega, by omega, ?_⟩
      refine for_range (lo := 0) (n := d0.toNat) (fun j σ H' => ∃ (t : Str) (w3 w5 w6 : Option V), σ = [some (.ref a), some (.ref p), some (.ref q), w3, some (.str t), w5, w6, v7, v8, none, none, none, none, none, none] ∧ Plain (15 * j) t ∧ PoolOk H' p ∧ H' q = some (.lst ((pieces1 ++ pieces2).map V.str)))
        ⟨Str.ofString "", _, _, _, rfl, plain_of (by decide +kernel), hP3, hpc3⟩ ?_ ?_
      · rintro j σ H4 hj ⟨t, w3, w5, w6, rfl, ht, hP4, hpc4⟩
        have hj' : j ≤ 20 := by omega
        have htl : t.length ≤ 300 := by have := ht.1; omega
        -- what comes behind the piece
        have rest : ∀ (sP : Str) (H5 : Hp), Plain 13 sP → PoolOk H5 p → H5 q = some (.lst ((pieces1 ++ pieces2).map V.str)) →
            tAsg (tOp (fun x y H Q => ∃ i j, x = .str i ∧ y = .str j ∧ i.length + j.length ≤ sizeLine ∧ Q (.str (i ++ j)) H) (tOp (fun x y H Q => ∃ i j, x = .str i ∧ y = .str j ∧ i.length + j.length ≤ sizeLine ∧ Q (.str (i ++ j)) H) (tVar 4) (tVar 6))
              (tCall spPick [] E0 (tCons (tVar 1) (tCons (tLst (tCons (tC (.str (Str.ofString ""))) (tCons (tC (.str (Str.ofString " "))) (tCons (tC (.str (Str.ofString " "))) (tCons (tC (.str (Str.ofString "  "))) tNil))))) tNil)))) (gName 4)
              { nx := fun σ H' => ∃ (t : Str) (w3 w5 w6 : Option V), σ = [some (.ref a), some (.ref p), some (.ref q), w3, some (.str t), w5, w6, v7, v8, none, none, none, none, none, none] ∧ Plain (15 * (j + 1)) t ∧ PoolOk H' p ∧ H' q = some (.lst ((pieces1 ++ pieces2).map V.str)), rt := Q }
              [some (.ref a), some (.ref p), some (.ref q), w3, some (.str t), some (.int (0 + (j : Int))), some (.str sP), v7, v8, none, none, none, none, none, none] H5 := by
          intro sP H5 hsP hP5 hpc5
          have l1 := hsP.1
          refine ⟨_, rfl, _, rfl, _, _, rfl, rfl, by rw [sizeLine_eq]; omega, ?_⟩
          refine ⟨_, rfl, by show 4 ≤ sizeLine; decide, fun r hr => ?_⟩
          have nqr : q ≠ r := fun z => by rw [z, hr] at hpc5; cases hpc5
          refine ⟨p, r, blanks.map V.str, rfl, hP5.new hr, upd_same, PoolOk.ne hP5 hr, by decide, by decide, fun v H6 hv hP6 sb6 => ?_⟩
          obtain ⟨b, hb, rfl⟩ := mem_strs hv
          have hbp := blanks_plain b hb
          have l2 := hbp.1
          refine ⟨_, _, rfl, rfl, by rw [app_len, sizeLine_eq]; omega, ?_⟩
          refine ⟨_, _, _, _, rfl, ?_, hP6, sb6 _ _ nqp (by rw [upd_ne nqr]; exact hpc5)⟩
          have z := (ht.app hsP).app hbp
          have e : 15 * j + 13 + 2 = 15 * (j + 1) := by omega
          rw [e] at z
          exact z
        refine ⟨_, rfl, p, 3, rfl, hP4, by decide, by decide, fun d1 H5 d10 d11 hP5 sb5 => ?_⟩
        have hpc5 := sb5 _ _ nqp hpc4
        refine ⟨_, _, rfl, rfl, _, rfl, ?_⟩
        refine ite2 (fun _ => ?_) (fun _ => ?_)
        · refine ⟨_, rfl, _, rfl, _, rfl, q, _, rfl, SqL.of hpc5, fun r1 hr1 => ?_⟩
          have nq1 : q ≠ r1 := fun z => by rw [z, hr1] at hpc5; cases hpc5
          refine ⟨_, rfl, r1, q, _, _, rfl, rfl, upd_same, by rw [upd_ne nq1]; exact hpc5, ?_, fun r2 hr2 => ?_⟩
          · have := cut_le ((pieces1 ++ pieces2).map V.str) none (some 12)
            have e : ((pieces1 ++ pieces2).map V.str).length = 30 := rfl
            rw [sizeLine_eq]; omega
          have nq2 : q ≠ r2 := fun z => by rw [← z, upd_ne nq1, hpc5] at hr2; cases hr2
          refine ⟨p, r2, _, rfl, (hP5.new hr1).new hr2, upd_same, PoolOk.ne (hP5.new hr1) hr2, ?_, ?_, fun v H6 hv hP6 sb6 => ?_⟩
          · rw [List.length_append]
            have e : ((pieces1 ++ pieces2).map V.str).length = 30 := rfl
            omega
          · have := cut_le ((pieces1 ++ pieces2).map V.str) none (some 12)
            have e : ((pieces1 ++ pieces2).map V.str).length = 30 := rfl
            rw [List.length_append, sizeLine_eq]; omega
          have hv' : v ∈ (pieces1 ++ pieces2).map V.str := by
            rcases List.mem_append.mp hv with h | h
            · exact mem_cut h
            · exact h
          obtain ⟨sP, hs, rfl⟩ := mem_strs hv'
          exact rest sP H6 (pieces_plain sP hs) hP6 (sb6 _ _ nqp (by rw [upd_ne nq2, upd_ne nq1]; exact hpc5))
        · refine ⟨_, rfl, by show 5 ≤ sizeLine; decide, fun r hr => ?_⟩
          have nqr : q ≠ r := fun z => by rw [z, hr] at hpc5; cases hpc5
          refine ⟨p, r, pieces3.map V.str, rfl, hP5.new hr, upd_same, PoolOk.ne hP5 hr, by decide, by decide, fun v H6 hv hP6 sb6 => ?_⟩
          obtain ⟨sP, hs, rfl⟩ := mem_strs hv
          exact rest sP H6 (pieces3_plain sP hs) hP6 (sb6 _ _ nqp (by rw [upd_ne nqr]; exact hpc5))
      · rintro σ H4 ⟨t, w3, w5, w6, rfl, ht, hP4, hpc4⟩
        have htl : t.length ≤ 300 := by have := ht.1; omega
        have htl' : (tl t).length ≤ 300 := by rw [← len_tl]; exact htl
        have tsz : t.length ≤ sizeLine := by rw [sizeLine_eq]; omega
        refine ⟨_, rfl, t, rfl, by omega, fun ts hts H5 d s5 hd5 hT => ?_, fun hn5 H5 s5 => ?_⟩
        · have hto := tokR_toks hts
          have hts1 : ts.length ≤ 1000 := by have := hto.2; omega
          obtain ⟨hj1, hj2, ts', hts', hkw⟩ := again_ok hts (by omega)
          refine ⟨_, rfl, .inl ⟨t, rfl, tsz, fun ts2 hts2 H6 d2 s6 hd6 hT2 => ?_, fun hn6 => by rw [hts] at hn6; cases hn6⟩⟩
          have e2 : ts2 = ts := Option.some.inj (hts2.symm.trans hts)
          subst e2
          refine ⟨_, rfl, _, _, _, rfl, at_dp hT2, at_dp (hT.keep s6), tok_okD hts1, fun H7 s7 => ⟨true, rfl, ?_⟩⟩
          refine iteF ?_
          refine ⟨_, rfl, rfl, _, rfl, ?_⟩
          refine iteT ?_
          have hT7 := hT.keep (s6.trans s7)
          have s47 : Same H4 H7 := (s5.trans s6).trans s7
          obtain ⟨vs, hv, hPd⟩ := id hT7
          have hlen := paired_len hPd
          refine ⟨⟨_, rfl⟩, ?_⟩
          refine ⟨_, rfl, d, rfl, ⟨_, SqL.of hv⟩, fun D hD => lc_list (K := K) (a := d) (xs := vs) (fun i H' => H' D = some (.lst (((ts2.take i).map wordOf).map V.str)) ∧ ∀ b, b ≠ D → H' b = H7 b) ⟨upd_same, fun b hb => upd_ne hb⟩ ?_ ?_ ?_⟩
          · rintro i H' _ ⟨_, h2⟩
            have n : d ≠ D := ne_of_none hv hD
            exact SqL.of (by rw [h2 d n]; exact hv)
          · rintro i y H' hi ⟨h1, h2⟩
            obtain ⟨tk, htk, qq, rfl, hq⟩ := paired_at hPd hi
            have nq : qq ≠ D := ne_of_none hq hD
            have hi' : i < ts2.length := (List.getElem?_eq_some_iff.mp htk).1
            have et : ts2.take (i + 1) = ts2.take i ++ [tk] := take_snoc htk
            have hw := joinOk_at hj1 (List.mem_of_getElem? htk)
            have small : (((ts2.take i).map wordOf).map V.str).length < sizeLine := by
              rw [List.length_map, List.length_map, List.length_take, sizeLine_eq]
              omega
            refine ⟨qq, _, rfl, SqT.of (by rw [h2 qq nq]; exact hq), rfl, _, _, rfl, _, _, rfl, _, _, rfl, rfl, rfl, ?_⟩
            unfold tYes
            refine iteT ?_
            refine ⟨_, rfl, rfl, _, rfl, ?_⟩
            have fin : ∀ v : V, v = V.str (wordOf tk) → ∃ acc, H' D = some (.lst acc) ∧ acc.length < sizeLine ∧ (upd H' D (.lst (acc ++ [v]))) D = some (.lst (((ts2.take (i + 1)).map wordOf).map V.str)) ∧ ∀ b, b ≠ D → upd H' D (.lst (acc ++ [v])) b = H7 b := by
              intro v e
              refine ⟨_, h1, small, ?_, fun b hb => by rw [upd_ne hb]; exact h2 b hb⟩
              rw [upd_same, et, List.map_append, List.map_append, e]
              rfl
            refine ite2 (fun hk => ?_) (fun hk => ?_)
            · have hk' : tk.1 = Str.ofString "text" := V.str.inj (of_decide_eq_true hk)
              have ew : wordOf tk = mkS (39 :: tk.2.1 ++ [39]) := by unfold wordOf; rw [if_pos hk']
              rw [ew, quoted_len] at hw
              have l1 : (mkS tk.2.1).length = tk.2.1.length := by rw [len_tl]
              have l2 : (Str.ofString "'" ++ mkS tk.2.1).length = tk.2.1.length + 1 := by
                rw [len_tl, show tl (Str.ofString "'" ++ mkS tk.2.1) = 39 :: tk.2.1 from TL.tl_append _ _]
                rfl
              refine ⟨_, rfl, _, _, rfl, rfl, ?_, _, _, rfl, rfl, ?_, ?_⟩
              · rw [l1, sizeLine_eq]; show 1 + _ ≤ _; omega
              · rw [l2, sizeLine_eq]; show _ + 1 ≤ _; omega
              · exact fin _ (by rw [quoted, ew])
            · have hk' : ¬ tk.1 = Str.ofString "text" := fun z => hk (decide_eq_true (by rw [z]))
              refine ⟨_, rfl, ?_⟩
              exact fin _ (by unfold wordOf; rw [if_neg hk'])
          · rintro H8 ⟨h1, h2⟩
            rw [hlen, List.take_length] at h1
            have s78 : Same H7 H8 := fun b o e => by
              rw [h2 b (ne_of_none e hD)]; exact e
            refine ⟨_, D, ts2.map wordOf, rfl, rfl, .inl (SqL.of h1), ?_, ?_⟩
            · have e1 : (Str.ofString " ").length = 1 := rfl
              rw [e1, List.length_map]
              unfold joinOk at hj1
              omega
            have hT8 := hT7.keep s78
            obtain ⟨vs8, hv8, hP8⟩ := id hT8
            -- _law_same(joined(list(due)), again)
            refine ⟨_, rfl, d, vs8, rfl, .inl (SqL.of hv8), fun l hl => ?_⟩
            have s9 : Same H8 (upd H8 l (.lst vs8)) := same_upd (Same.refl _) hl
            refine ⟨l, ts2, rfl, ⟨vs8, upd_same, paired_imp (fun _ _ ⟨z, e1, e2⟩ => ⟨z, e1, s9 _ _ e2⟩) hP8⟩, hj1, fun H10 s10 => ?_⟩
            refine ⟨_, rfl, _, _, _, rfl, .str _, .str _, trivial, fun H11 s11 => ⟨true, rfl, ?_⟩⟩
            refine iteF ?_
            have s8b : Same H8 H11 := (s9.trans s10).trans s11
            -- [row[:2] for row in tokens(again)] != [row[:2] for row in due]
            refine ⟨_, rfl, .inl ⟨joinT ts2, rfl, by rw [sizeLine_eq]; omega, fun ts3 hts3 H12 e3 s12 he3 hT3 => ?_, fun hn3 => by rw [hts'] at hn3; cases hn3⟩⟩
            have e3' : ts3 = ts' := Option.some.inj (hts3.symm.trans hts')
            subst e3'
            obtain ⟨vs3, hv3, hP3⟩ := id hT3
            have hl3 : ts3.length ≤ 1000 := by
              have := congrArg List.length hkw
              rw [List.length_map, List.length_map] at this
              omega
            refine ⟨e3, rfl, ⟨_, SqL.of hv3⟩, fun D1 hD1 => kw_lc (fun _ => rfl) (fun _ => rfl) hv3 hP3 hl3 hD1 (fun H13 s13 ⟨ws1, hw1, hp1⟩ => ?_)⟩
            have hT13 := hT8.keep ((s8b.trans s12).trans s13)
            obtain ⟨vs4, hv4, hP4'⟩ := id hT13
            refine ⟨_, rfl, d, rfl, ⟨_, SqL.of hv4⟩, fun D2 hD2 => kw_lc (fun _ => rfl) (fun _ => rfl) hv4 hP4' hts1 hD2 (fun H14 s14 ⟨ws2, hw2, hp2⟩ => ?_)⟩
            rw [hkw] at hp1
            have hsh := kw_shaped (kw_ok hto.1 ht.2)
            have hp1' : Paired (KwV H14) ws1 (ts2.map kw) := paired_imp (fun _ _ ⟨z, e1, e2⟩ => ⟨z, e1, s14 _ _ e2⟩) hp1
            refine ⟨_, _, .lst (SqL.of (s14 _ _ hw1)) (kw_dp hp1'), .lst (SqL.of hw2) (kw_dp hp2), hsh.1, hsh.1, _, rfl, ?_⟩
            rw [hsh.2]
            refine iteF ?_
            have sAll : Same H4 H14 := ((((s47.trans s78).trans s8b).trans s12).trans s13).trans s14
            exact ⟨_, _, _, _, _, _, rfl, hP4.keep sAll, sAll _ _ hpc4⟩
        · refine ⟨_, rfl, .inl ⟨t, rfl, tsz, fun ts2 (hts2 : tokR (tl t) = some ts2) => absurd (hn5.symm.trans hts2) (by intro z; cases z), fun _ H6 s6 => ?_⟩⟩
          refine ⟨_, rfl, _, _, _, rfl, .non, .non, trivial, fun H7 s7 => ⟨true, rfl, ?_⟩⟩
          refine iteF ?_
          refine ⟨_, rfl, rfl, _, rfl, ?_⟩
          refine iteF ?_
          have sAll : Same H4 H7 := (s5.trans s6).trans s7
          exact ⟨_, _, _, _, _, _, rfl, hP4.keep sAll, sAll _ _ hpc4⟩
    · rintro σ H2 ⟨v3, v4, v5, v6, v7, v8, rfl, hP2, hpc2⟩
      refine ⟨_, rfl, p, 5, rfl, hP2, by decide, by decide, fun d0 H3 d00 d01 hP3 sb3 => ?_⟩
      have e1 : (198 + d0 + 1).toNat = (198 + d0).toNat + 1 := by omega
      refine ⟨_, _, rfl, rfl, ?_⟩
      refine ⟨⟨_, rfl⟩, ?_⟩
      refine ⟨_, rfl, _, _, rfl, rfl, ?_⟩
      refine ⟨_, rfl, by omega, by omega, fun D hD => lc_rep (by omega) (fun _ => rfl) hD fun H4 h4 s4 => ?_⟩
      refine ⟨_, D, _, rfl, rfl, .inl (SqL.of (by rw [e1, ← List.map_replicate] at h4; exact h4)), rep_sz _ (by omega) (by decide) (by decide), ?_⟩
      have hl := tl_plus (198 + d0).toNat
      have hk := tokR_plus (n := (198 + d0).toNat) (by omega)
      refine .inl ⟨_, rfl, by rw [len_tl, hl, List.length_replicate, sizeLine_eq]; omega, fun ts hts H5 d5 s5 hd5 hT5 => ?_, fun hn5 H5 s5 => ?_⟩
      · have hm : ¬ 200 < (198 + d0).toNat := fun z => by
          have := hk.1 z
          rw [← hl, hts] at this; cases this
        refine ⟨rfl, _, rfl, _, _, rfl, rfl, rfl, _, rfl, ?_⟩
        have e2 : (!decide (V.bl (decide (V.ref d5 = V.non)) = V.bl (decide ((200:Int) < 198 + d0)))) = false := by
          rw [decide_eq_false (show ¬ (200:Int) < 198 + d0 by omega), decide_eq_false (show ¬ V.ref d5 = V.non by intro z; cases z)]
          rfl
        refine iteF' e2 ?_
        refine ⟨⟨_, rfl⟩, ?_⟩
        refine ⟨_, rfl, by decide, by decide, fun D2 hD2 => lc_rep (by decide) (fun _ => rfl) hD2 fun H6 h6 s6 => ?_⟩
        have h6' : H6 D2 = some (.lst ((List.replicate 2001 (Str.ofString " ")).map V.str)) := by rw [List.map_replicate]; exact h6
        refine ⟨_, D2, _, rfl, rfl, .inl (SqL.of h6'), rep_sz _ (by decide) (by decide) (by decide), ?_⟩
        have hl2 := tl_same 32 (Str.ofString " ") (by decide +kernel) 2001
        have hk2 := tokR_blank (tl (Txt.join (Str.ofString "") (List.replicate 2001 (Str.ofString " ")))) (by rw [hl2, List.length_replicate])
        refine .inl ⟨_, rfl, by rw [len_tl, hl2, List.length_replicate, sizeLine_eq]; decide, fun ts2 (hts2 : tokR (tl (Txt.join (Str.ofString "") (List.replicate 2001 (Str.ofString " ")))) = some ts2) => absurd (hk2.symm.trans hts2) (by intro z; cases z), fun _ H7 s7 => ?_⟩
        refine ⟨rfl, _, rfl, ?_⟩
        refine iteF' (by decide) ?_
        refine ⟨⟨_, rfl⟩, _, rfl, by decide, by decide, fun D3 hD3 => lc_rep (by decide) (fun _ => rfl) hD3 fun H8 h8 s8 => ?_⟩
        have h8' : H8 D3 = some (.lst ((List.replicate 60 (Str.ofString "p")).map V.str)) := by rw [List.map_replicate]; exact h8
        have hl3 := tl_same 112 (Str.ofString "p") (by decide +kernel) 60
        refine ⟨_, D3, _, rfl, rfl, .inl (SqL.of h8'), rep_sz _ (by decide) (by decide) (by decide), ?_⟩
        have hl4 : tl (Str.ofString "'" ++ Txt.join (Str.ofString "") (List.replicate 60 (Str.ofString "p"))) = 39 :: List.replicate 60 112 := by
          rw [show tl (Str.ofString "'" ++ Txt.join (Str.ofString "") (List.replicate 60 (Str.ofString "p"))) = tl (Str.ofString "'") ++ tl (Txt.join (Str.ofString "") (List.replicate 60 (Str.ofString "p"))) from TL.tl_append _ _, hl3]
          rfl
        refine ⟨_, _, rfl, rfl, by rw [len_tl, len_tl (Txt.join _ _), hl3, List.length_replicate, sizeLine_eq]; decide, ?_⟩
        generalize Str.ofString "'" ++ Txt.join (Str.ofString "") (List.replicate 60 (Str.ofString "p")) = L at hl4 ⊢
        have eL : L = mkS (39 :: List.replicate 60 112) := by rw [← hl4]
        have l5 : L.length = 61 := by rw [len_tl, hl4]; rfl
        have hl5 : tl (L ++ Str.ofString "'") = 39 :: (List.replicate 60 112 ++ [39]) := by
          rw [show tl (L ++ Str.ofString "'") = tl L ++ tl (Str.ofString "'") from TL.tl_append _ _, hl4]; rfl
        have hl6 : tl (L ++ Str.ofString "p'") = 39 :: (List.replicate 61 112 ++ [39]) := by
          rw [show tl (L ++ Str.ofString "p'") = tl L ++ tl (Str.ofString "p'") from TL.tl_append _ _, hl4]; rfl
        have ecut : cutS L (some 1) none = mkS (List.replicate 60 112) := by rw [eL]; decide +kernel
        refine ⟨_, rfl, _, _, rfl, rfl, by rw [l5, sizeLine_eq]; decide, ?_⟩
        refine .inl ⟨_, rfl, by rw [len_tl, hl5, sizeLine_eq]; decide, fun ts3 hts3 H9 d9 s9 hd9 hT9 => ?_, fun (hn9 : tokR (tl (L ++ Str.ofString "'")) = none) => absurd hn9 (by rw [hl5, tokR_60]; intro z; cases z)⟩
        have e9 : ts3 = [(Str.ofString "text", List.replicate 60 112, 0)] := by
          rw [hl5, tokR_60] at hts3
          exact (Option.some.inj hts3).symm
        subst e9
        refine ⟨_, rfl, ?_⟩
        refine ⟨_, rfl, _, rfl, by rw [l5, sizeLine_eq]; decide, ?_⟩
        refine ⟨by show 3 ≤ sizeLine; decide, fun r hr => ?_⟩
        refine ⟨by show 1 ≤ sizeLine; decide, fun r2 hr2 => ?_⟩
        have nr : r ≠ r2 := ne_of_none upd_same hr2
        refine ⟨_, _, .list ([(Str.ofString "text", List.replicate 60 112, 0)].map tokD), rfl, at_dp (hT9.keep ((same_upd (Same.refl _) hr).trans (same_upd (Same.refl _) hr2))), .lst (SqL.of upd_same) (.cons (.tup (SqT.of (by rw [upd_ne nr]; exact upd_same)) (.cons (.str _) (.cons ?_ (.cons (.int _) .nil)))) .nil), tok_okD (by decide), fun H10 s10 => ⟨true, rfl, ?_⟩⟩
        · rw [ecut]; exact .str _
        refine iteT ?_
        refine ⟨_, rfl, _, _, rfl, rfl, by rw [l5, sizeLine_eq]; decide, ?_⟩
        refine .inl ⟨_, rfl, by rw [len_tl, hl6, sizeLine_eq]; decide, fun ts4 (hts4 : tokR (tl (L ++ Str.ofString "p'")) = some ts4) => absurd hts4 (by rw [hl6, tokR_61]; intro z; cases z), fun _ H11 s11 => ?_⟩
        refine ⟨rfl, _, rfl, ?_⟩
        refine iteT ?_
        refine .inr ⟨_, rfl, fun H12 s12 => ?_⟩
        refine ⟨rfl, ?_⟩
        rw [decide_eq_true (show V.non = V.non from rfl)]
        exact kQ _
      · have hm : 200 < (198 + d0).toNat := Classical.byContradiction fun z => by
          obtain ⟨ts, e⟩ := hk.2 z
          rw [← hl, hn5] at e; cases e
        refine ⟨rfl, _, rfl, _, _, rfl, rfl, rfl, _, rfl, ?_⟩
        have e2 : (!decide (V.bl (decide (V.non = V.non)) = V.bl (decide ((200:Int) < 198 + d0)))) = false := by
          rw [decide_eq_true (show (200:Int) < 198 + d0 by omega), decide_eq_true (show V.non = V.non from rfl)]
          rfl
        refine iteF' e2 ?_
        refine ⟨⟨_, rfl⟩, ?_⟩
        refine ⟨_, rfl, by decide, by decide, fun D2 hD2 => lc_rep (by decide) (fun _ => rfl) hD2 fun H6 h6 s6 => ?_⟩
        have h6' : H6 D2 = some (.lst ((List.replicate 2001 (Str.ofString " ")).map V.str)) := by rw [List.map_replicate]; exact h6
        refine ⟨_, D2, _, rfl, rfl, .inl (SqL.of h6'), rep_sz _ (by decide) (by decide) (by decide), ?_⟩
        have hl2 := tl_same 32 (Str.ofString " ") (by decide +kernel) 2001
        have hk2 := tokR_blank (tl (Txt.join (Str.ofString "") (List.replicate 2001 (Str.ofString " ")))) (by rw [hl2, List.length_replicate])
        refine .inl ⟨_, rfl, by rw [len_tl, hl2, List.length_replicate, sizeLine_eq]; decide, fun ts2 (hts2 : tokR (tl (Txt.join (Str.ofString "") (List.replicate 2001 (Str.ofString " ")))) = some ts2) => absurd (hk2.symm.trans hts2) (by intro z; cases z), fun _ H7 s7 => ?_⟩
        refine ⟨rfl, _, rfl, ?_⟩
        refine iteF' (by decide) ?_
        refine ⟨⟨_, rfl⟩, _, rfl, by decide, by decide, fun D3 hD3 => lc_rep (by decide) (fun _ => rfl) hD3 fun H8 h8 s8 => ?_⟩
        have h8' : H8 D3 = some (.lst ((List.replicate 60 (Str.ofString "p")).map V.str)) := by rw [List.map_replicate]; exact h8
        have hl3 := tl_same 112 (Str.ofString "p") (by decide +kernel) 60
        refine ⟨_, D3, _, rfl, rfl, .inl (SqL.of h8'), rep_sz _ (by decide) (by decide) (by decide), ?_⟩
        have hl4 : tl (Str.ofString "'" ++ Txt.join (Str.ofString "") (List.replicate 60 (Str.ofString "p"))) = 39 :: List.replicate 60 112 := by
          rw [show tl (Str.ofString "'" ++ Txt.join (Str.ofString "") (List.replicate 60 (Str.ofString "p"))) = tl (Str.ofString "'") ++ tl (Txt.join (Str.ofString "") (List.replicate 60 (Str.ofString "p"))) from TL.tl_append _ _, hl3]
          rfl
        refine ⟨_, _, rfl, rfl, by rw [len_tl, len_tl (Txt.join _ _), hl3, List.length_replicate, sizeLine_eq]; decide, ?_⟩
        generalize Str.ofString "'" ++ Txt.join (Str.ofString "") (List.replicate 60 (Str.ofString "p")) = L at hl4 ⊢
        have eL : L = mkS (39 :: List.replicate 60 112) := by rw [← hl4]
        have l5 : L.length = 61 := by rw [len_tl, hl4]; rfl
        have hl5 : tl (L ++ Str.ofString "'") = 39 :: (List.replicate 60 112 ++ [39]) := by
          rw [show tl (L ++ Str.ofString "'") = tl L ++ tl (Str.ofString "'") from TL.tl_append _ _, hl4]; rfl
        have hl6 : tl (L ++ Str.ofString "p'") = 39 :: (List.replicate 61 112 ++ [39]) := by
          rw [show tl (L ++ Str.ofString "p'") = tl L ++ tl (Str.ofString "p'") from TL.tl_append _ _, hl4]; rfl
        have ecut : cutS L (some 1) none = mkS (List.replicate 60 112) := by rw [eL]; decide +kernel
        refine ⟨_, rfl, _, _, rfl, rfl, by rw [l5, sizeLine_eq]; decide, ?_⟩
        refine .inl ⟨_, rfl, by rw [len_tl, hl5, sizeLine_eq]; decide, fun ts3 hts3 H9 d9 s9 hd9 hT9 => ?_, fun (hn9 : tokR (tl (L ++ Str.ofString "'")) = none) => absurd hn9 (by rw [hl5, tokR_60]; intro z; cases z)⟩
        have e9 : ts3 = [(Str.ofString "text", List.replicate 60 112, 0)] := by
          rw [hl5, tokR_60] at hts3
          exact (Option.some.inj hts3).symm
        subst e9
        refine ⟨_, rfl, ?_⟩
        refine ⟨_, rfl, _, rfl, by rw [l5, sizeLine_eq]; decide, ?_⟩
        refine ⟨by show 3 ≤ sizeLine; decide, fun r hr => ?_⟩
        refine ⟨by show 1 ≤ sizeLine; decide, fun r2 hr2 => ?_⟩
        have nr : r ≠ r2 := ne_of_none upd_same hr2
        refine ⟨_, _, .list ([(Str.ofString "text", List.replicate 60 112, 0)].map tokD), rfl, at_dp (hT9.keep ((same_upd (Same.refl _) hr).trans (same_upd (Same.refl _) hr2))), .lst (SqL.of upd_same) (.cons (.tup (SqT.of (by rw [upd_ne nr]; exact upd_same)) (.cons (.str _) (.cons ?_ (.cons (.int _) .nil)))) .nil), tok_okD (by decide), fun H10 s10 => ⟨true, rfl, ?_⟩⟩
        · rw [ecut]; exact .str _
        refine iteT ?_
        refine ⟨_, rfl, _, _, rfl, rfl, by rw [l5, sizeLine_eq]; decide, ?_⟩
        refine .inl ⟨_, rfl, by rw [len_tl, hl6, sizeLine_eq]; decide, fun ts4 (hts4 : tokR (tl (L ++ Str.ofString "p'")) = some ts4) => absurd hts4 (by rw [hl6, tokR_61]; intro z; cases z), fun _ H11 s11 => ?_⟩
        refine ⟨rfl, _, rfl, ?_⟩
        refine iteT ?_
        refine .inr ⟨_, rfl, fun H12 s12 => ?_⟩
        refine ⟨rfl, ?_⟩
        rw [decide_eq_true (show V.non = V.non from rfl)]
        exact kQ _
end
end K58

namespace K58
open PySem PySem.Spec PyProof.Rows L2
/-! ### what the top has written, the head -/
theorem all_mk {P : Program} {w : World} {K : PySem.W.Frag} {h : Heap} {mg : Str → Option Value} {fa C CD pW pS f1 f2 f3 f4 f5 f6 f7 f8 f9 f10 f11 f12 f13 : Addr} (X : K.In h) (G : h.Ns mainGlobals mg) (hfa : mg "law" = some (.ref fa))
    {odW odS od1 an1 od2 an2 od3 an3 od4 an4 od5 an5 od6 an6 od7 an7 od8 an8 od9 an9 od10 an10 od11 an11 od12 an12 od13 an13 : Option Addr} {slW slS sl1 sl2 sl3 sl4 sl5 sl6 sl7 sl8 sl9 sl10 sl11 sl12 sl13 : Array (Option Value)} {oc1 kV1 dc1 pm1 cd1 ct1 oc2 kV2 dc2 pm2 cd2 ct2 oc3 kV3 dc3 pm3 cd3 ct3 oc4 kV4 dc4 pm4 cd4 ct4 oc5 kV5 dc5 pm5 cd5 ct5 oc6 kV6 dc6 pm6 cd6 ct6 oc7 kV7 dc7 pm7 cd7 ct7 oc8 kV8 dc8 pm8 cd8 ct8 oc9 kV9 dc9 pm9 cd9 ct9 oc10 kV10 dc10 pm10 cd10 ct10 oc11 kV11 dc11 pm11 cd11 ct11 oc12 kV12 dc12 pm12 cd12 ct12 oc13 kV13 dc13 pm13 cd13 ct13 : Value}
    {tL tF tLo tMo tW0 tS0 tW1 tS1 tW2 tS2 tW3 tS3 tW4 tS4 tW5 tS5 tW6 tS6 tW7 tS7 tW8 tS8 tW9 tS9 tW10 tS10 tW11 tS11 tW12 tS12 : Tok} {nnW nnS : Nat}
    (a1 : PySem.W.nsIn K mainGlobals "tokens" = some (some (.ref f1)))
    (l1 : K.lookup f1 = some ⟨oc1, od1, .func (PySem.W.fnOf "tokens" "tokens" (defArgs sTokens) (defBody sTokens) (defScope sTokens) .none kV1 dc1 pm1 an1 cd1 ct1), sl1⟩)
    (c1 : PySem.W.codeIn K cd1 "tokens" = true)
    (k1 : PySem.W.keepIn K (.ref f1) = true)
    (a2 : PySem.W.nsIn K mainGlobals "_size" = some (some (.ref f2)))
    (l2 : K.lookup f2 = some ⟨oc2, od2, .func (PySem.W.fnOf "_size" "_size" (defArgs sSize) (defBody sSize) (defScope sSize) .none kV2 dc2 pm2 an2 cd2 ct2), sl2⟩)
    (c2 : PySem.W.codeIn K cd2 "_size" = true)
    (k2 : PySem.W.keepIn K (.ref f2) = true)
    (a3 : PySem.W.nsIn K mainGlobals "_one" = some (some (.ref f3)))
    (l3 : K.lookup f3 = some ⟨oc3, od3, .func (PySem.W.fnOf "_one" "_one" (defArgs sOne) (defBody sOne) (defScope sOne) .none kV3 dc3 pm3 an3 cd3 ct3), sl3⟩)
    (c3 : PySem.W.codeIn K cd3 "_one" = true)
    (k3 : PySem.W.keepIn K (.ref f3) = true)
    (a4 : PySem.W.nsIn K mainGlobals "_run" = some (some (.ref f4)))
    (l4 : K.lookup f4 = some ⟨oc4, od4, .func (PySem.W.fnOf "_run" "_run" (defArgs sRun) (defBody sRun) (defScope sRun) .none kV4 dc4 pm4 an4 cd4 ct4), sl4⟩)
    (c4 : PySem.W.codeIn K cd4 "_run" = true)
    (k4 : PySem.W.keepIn K (.ref f4) = true)
    (a5 : PySem.W.nsIn K mainGlobals "_marked" = some (some (.ref f5)))
    (l5 : K.lookup f5 = some ⟨oc5, od5, .func (PySem.W.fnOf "_marked" "_marked" (defArgs sMarked) (defBody sMarked) (defScope sMarked) .none kV5 dc5 pm5 an5 cd5 ct5), sl5⟩)
    (c5 : PySem.W.codeIn K cd5 "_marked" = true)
    (k5 : PySem.W.keepIn K (.ref f5) = true)
    (a6 : PySem.W.nsIn K mainGlobals "joined" = some (some (.ref f6)))
    (l6 : K.lookup f6 = some ⟨oc6, od6, .func (PySem.W.fnOf "joined" "joined" (defArgs sJoined) (defBody sJoined) (defScope sJoined) .none kV6 dc6 pm6 an6 cd6 ct6), sl6⟩)
    (c6 : PySem.W.codeIn K cd6 "joined" = true)
    (k6 : PySem.W.keepIn K (.ref f6) = true)
    (a7 : PySem.W.nsIn K mainGlobals "_law_same" = some (some (.ref f7)))
    (l7 : K.lookup f7 = some ⟨oc7, od7, .func (PySem.W.fnOf "_law_same" "_law_same" (defArgs sSame) (defBody sSame) (defScope sSame) .none kV7 dc7 pm7 an7 cd7 ct7), sl7⟩)
    (c7 : PySem.W.codeIn K cd7 "_law_same" = true)
    (k7 : PySem.W.keepIn K (.ref f7) = true)
    (a8 : PySem.W.nsIn K mainGlobals "_law_pool" = some (some (.ref f8)))
    (l8 : K.lookup f8 = some ⟨oc8, od8, .func (PySem.W.fnOf "_law_pool" "_law_pool" (defArgs sPool) (defBody sPool) (defScope sPool) .none kV8 dc8 pm8 an8 cd8 ct8), sl8⟩)
    (c8 : PySem.W.codeIn K cd8 "_law_pool" = true)
    (k8 : PySem.W.keepIn K (.ref f8) = true)
    (a9 : PySem.W.nsIn K mainGlobals "_law_draw" = some (some (.ref f9)))
    (l9 : K.lookup f9 = some ⟨oc9, od9, .func (PySem.W.fnOf "_law_draw" "_law_draw" (defArgs sDraw) (defBody sDraw) (defScope sDraw) .none kV9 dc9 pm9 an9 cd9 ct9), sl9⟩)
    (c9 : PySem.W.codeIn K cd9 "_law_draw" = true)
    (k9 : PySem.W.keepIn K (.ref f9) = true)
    (a10 : PySem.W.nsIn K mainGlobals "_law_pick" = some (some (.ref f10)))
    (l10 : K.lookup f10 = some ⟨oc10, od10, .func (PySem.W.fnOf "_law_pick" "_law_pick" (defArgs sPick) (defBody sPick) (defScope sPick) .none kV10 dc10 pm10 an10 cd10 ct10), sl10⟩)
    (c10 : PySem.W.codeIn K cd10 "_law_pick" = true)
    (k10 : PySem.W.keepIn K (.ref f10) = true)
    (a11 : PySem.W.nsIn K mainGlobals "_law_tokens" = some (some (.ref f11)))
    (l11 : K.lookup f11 = some ⟨oc11, od11, .func (PySem.W.fnOf "_law_tokens" "_law_tokens" (defArgs sLTok) (defBody sLTok) (defScope sLTok) .none kV11 dc11 pm11 an11 cd11 ct11), sl11⟩)
    (c11 : PySem.W.codeIn K cd11 "_law_tokens" = true)
    (k11 : PySem.W.keepIn K (.ref f11) = true)
    (a12 : PySem.W.nsIn K mainGlobals "_law_told" = some (some (.ref f12)))
    (l12 : K.lookup f12 = some ⟨oc12, od12, .func (PySem.W.fnOf "_law_told" "_law_told" (defArgs sTold) (defBody sTold) (defScope sTold) .none kV12 dc12 pm12 an12 cd12 ct12), sl12⟩)
    (c12 : PySem.W.codeIn K cd12 "_law_told" = true)
    (k12 : PySem.W.keepIn K (.ref f12) = true)
    (a13 : PySem.W.nsIn K mainGlobals "law" = some (some (.ref f13)))
    (l13 : K.lookup f13 = some ⟨oc13, od13, .func (PySem.W.fnOf "law" "law" (defArgs sLaw) (defBody sLaw) (defScope sLaw) .none kV13 dc13 pm13 an13 cd13 ct13), sl13⟩)
    (c13 : PySem.W.codeIn K cd13 "law" = true)
    (k13 : PySem.W.keepIn K (.ref f13) = true)
    (z_len : PySem.W.nsIn K mainGlobals "len" = some none)
    (z_isinstance : PySem.W.nsIn K mainGlobals "isinstance" = some none)
    (z_str : PySem.W.nsIn K mainGlobals "str" = some none)
    (z_int : PySem.W.nsIn K mainGlobals "int" = some none)
    (z_list : PySem.W.nsIn K mainGlobals "list" = some none)
    (z_tuple : PySem.W.nsIn K mainGlobals "tuple" = some none)
    (z_bool : PySem.W.nsIn K mainGlobals "bool" = some none)
    (z_range : PySem.W.nsIn K mainGlobals "range" = some none)
    (z_abs : PySem.W.nsIn K mainGlobals "abs" = some none)
    (z_ord : PySem.W.nsIn K mainGlobals "ord" = some none)
    (z_ValueError : PySem.W.nsIn K mainGlobals "ValueError" = some none)
    (nL : PySem.W.nsIn K mainGlobals "LETTERS" = some (some (.str sLett tL)))
    (nF : PySem.W.nsIn K mainGlobals "FIGURES" = some (some (.str sFig tF)))
    (nW : PySem.W.nsIn K mainGlobals "WORDS" = some (some (.ref pW)))
    (lW : K.lookup pW = some ⟨.type "tuple", odW, .seq #[.str ("from" : Str) tW0, .str ("join" : Str) tW1, .str ("on" : Str) tW2, .str ("where" : Str) tW3, .str ("group" : Str) tW4, .str ("show" : Str) tW5, .str ("as" : Str) tW6, .str ("order" : Str) tW7, .str ("down" : Str) tW8, .str ("first" : Str) tW9, .str ("and" : Str) tW10, .str ("or" : Str) tW11, .str ("not" : Str) tW12] nnW, slW⟩)
    (nS : PySem.W.nsIn K mainGlobals "SIGNS" = some (some (.ref pS)))
    (lS : K.lookup pS = some ⟨.type "tuple", odS, .seq #[.str ("<=" : Str) tS0, .str (">=" : Str) tS1, .str ("<>" : Str) tS2, .str ("=" : Str) tS3, .str ("<" : Str) tS4, .str (">" : Str) tS5, .str ("+" : Str) tS6, .str ("-" : Str) tS7, .str ("*" : Str) tS8, .str ("(" : Str) tS9, .str (")" : Str) tS10, .str ("," : Str) tS11, .str ("." : Str) tS12] nnS, slS⟩)
    (nLo : PySem.W.nsIn K mainGlobals "LONGEST" = some (some (.int 2000 tLo)))
    (nMo : PySem.W.nsIn K mainGlobals "MOST" = some (some (.int 200 tMo)))
    (aP : PySem.W.nsIn K mainGlobals "InvalidPaper" = some (some (.ref C)))
    (aD : PySem.W.nsIn K mainGlobals "DeskError" = some (some (.ref CD)))
    (xP : PySem.W.excIn K C [.type "ValueError", .type "Exception", .type "BaseException", .type "object"] "ValueError.__new__" = true)
    (kP : PySem.W.keepIn K (.ref C) = true)
    (bP : PySem.W.subIn K (.ref C) (.type "BaseException") = some true)
    (tP : PySem.W.typeIn K (.ref C) = some (.type "type"))
    (bD : PySem.W.subIn K (.ref CD) (.type "BaseException") = some true)
    (tD : PySem.W.typeIn K (.ref CD) = some (.type "type"))
    (hD : PySem.W.hasDictIn K CD = true)
    (sD : PySem.W.subIn K (.ref C) (.ref CD) = some true)
    (sV : PySem.W.subIn K (.ref C) (.type "ValueError") = some true)
    (eg : PySem.W.findIn K (.ref C) "__getattribute__" = some (some (.builtin "BaseException.__getattribute__")))
    (ek : PySem.W.findIn K (.ref C) "__getattr__" = some none)
    (ed : PySem.W.hasDictIn K C = true)
    (ea : PySem.W.findIn K (.ref C) "__class__" = some (some (.builtin "object.__class__")))
    (en : PySem.W.specialIn K (.builtin "object.__class__") "__get__" = some (some (.builtin "getset_descriptor.__get__")))
    (et : PySem.W.takesIn K (.builtin "object.__class__") = some true)
    (em : PySem.W.mroIn K C (.type "object") = some true)
    : ∃ fd : FuncData, (∀ (s : Shared) (v : Value), BindsTo s fd ⟨[v], []⟩ [("script", v)]) ∧ ∀ base : Heap, K.In base → base.Ns mainGlobals mg → FnOk P w K mg base CX0 5 fa fd ["script"] (spLaw K) := by
  have e := hfa.symm.trans (PySem.W.mg_of X G a13)
  cases e
  have T : Blt mg := ⟨PySem.W.mg_none_of X G z_len, PySem.W.mg_none_of X G z_isinstance, PySem.W.mg_none_of X G z_str, PySem.W.mg_none_of X G z_int, PySem.W.mg_none_of X G z_list, PySem.W.mg_none_of X G z_tuple, PySem.W.mg_none_of X G z_bool, PySem.W.mg_none_of X G z_range, PySem.W.mg_none_of X G z_abs, PySem.W.mg_none_of X G z_ord⟩
  have XE : ErrT K mg C := ⟨PySem.W.mg_of X G aP, xP, kP, bP, tP⟩
  have kV : PySem.W.kitOne K (.ref C) (.type "ValueError") = some true := by
    show (if (Value.ref C == Value.type "ValueError") = true then some true else PySem.W.kitCls K (.ref C) (.type "ValueError")) = some true
    rw [show (Value.ref C == Value.type "ValueError") = false from rfl, if_neg Bool.false_ne_true]
    show (if PySem.W.kitMeta "ValueError" = true then PySem.W.subIn K (.ref C) (.type "ValueError") else none) = some true
    rw [if_pos (show PySem.W.kitMeta "ValueError" = true by decide +kernel)]
    exact sV
  have kC : PySem.W.kitOne K (.ref C) (.ref C) = some true := if_pos (by simp)
  have Y : CatchT K mg CD C := ⟨PySem.W.mg_of X G aD, PySem.W.exm_ref bD hD tD sD, ⟨eg, ek, bP, ed, ea, en, et, em⟩, kC, kV, PySem.W.mg_none_of X G z_ValueError⟩
  have GC : Con58 K mg pW pS := ⟨⟨_, PySem.W.mg_of X G nL⟩, ⟨_, PySem.W.mg_of X G nF⟩, PySem.W.mg_of X G nW, fun _ => .inr ⟨_, _, _, lW, rfl, rfl, by show 13 ≤ sizeLine; decide, (.cons ⟨_, rfl⟩ (.cons ⟨_, rfl⟩ (.cons ⟨_, rfl⟩ (.cons ⟨_, rfl⟩ (.cons ⟨_, rfl⟩ (.cons ⟨_, rfl⟩ (.cons ⟨_, rfl⟩ (.cons ⟨_, rfl⟩ (.cons ⟨_, rfl⟩ (.cons ⟨_, rfl⟩ (.cons ⟨_, rfl⟩ (.cons ⟨_, rfl⟩ (.cons ⟨_, rfl⟩ (.nil))))))))))))))⟩, PySem.W.mg_of X G nS, fun _ => .inr ⟨_, _, _, lS, rfl, rfl, by show 13 ≤ sizeLine; decide, (.cons ⟨_, rfl⟩ (.cons ⟨_, rfl⟩ (.cons ⟨_, rfl⟩ (.cons ⟨_, rfl⟩ (.cons ⟨_, rfl⟩ (.cons ⟨_, rfl⟩ (.cons ⟨_, rfl⟩ (.cons ⟨_, rfl⟩ (.cons ⟨_, rfl⟩ (.cons ⟨_, rfl⟩ (.cons ⟨_, rfl⟩ (.cons ⟨_, rfl⟩ (.cons ⟨_, rfl⟩ (.nil))))))))))))))⟩, ⟨_, PySem.W.mg_of X G nLo⟩, ⟨_, PySem.W.mg_of X G nMo⟩⟩
  have F1 := fun_mk (st := sTokens) l1 c1 k1
  have b1 := F1.binds (ps := ["text"]) fun _ _ _ _ _ _ us hl => match us, hl with | [_], _ => rfl
  have F2 := fun_mk (st := sSize) l2 c2 k2
  have b2 := F2.binds (ps := ["row"]) fun _ _ _ _ _ _ us hl => match us, hl with | [_], _ => rfl
  have F3 := fun_mk (st := sOne) l3 c3 k3
  have b3 := F3.binds (ps := ["text", "at"]) fun _ _ _ _ _ _ us hl => match us, hl with | [_, _], _ => rfl
  have F4 := fun_mk (st := sRun) l4 c4 k4
  have b4 := F4.binds (ps := ["text", "at", "signs"]) fun _ _ _ _ _ _ us hl => match us, hl with | [_, _, _], _ => rfl
  have F5 := fun_mk (st := sMarked) l5 c5 k5
  have b5 := F5.binds (ps := ["text", "at"]) fun _ _ _ _ _ _ us hl => match us, hl with | [_, _], _ => rfl
  have F6 := fun_mk (st := sJoined) l6 c6 k6
  have b6 := F6.binds (ps := ["rows"]) fun _ _ _ _ _ _ us hl => match us, hl with | [_], _ => rfl
  have F7 := fun_mk (st := sSame) l7 c7 k7
  have b7 := F7.binds (ps := ["actual", "due"]) fun _ _ _ _ _ _ us hl => match us, hl with | [_, _], _ => rfl
  have F8 := fun_mk (st := sPool) l8 c8 k8
  have b8 := F8.binds (ps := ["script"]) fun _ _ _ _ _ _ us hl => match us, hl with | [_], _ => rfl
  have F9 := fun_mk (st := sDraw) l9 c9 k9
  have b9 := F9.binds (ps := ["pool", "many"]) fun _ _ _ _ _ _ us hl => match us, hl with | [_, _], _ => rfl
  have F10 := fun_mk (st := sPick) l10 c10 k10
  have b10 := F10.binds (ps := ["pool", "rows"]) fun _ _ _ _ _ _ us hl => match us, hl with | [_, _], _ => rfl
  have F11 := fun_mk (st := sLTok) l11 c11 k11
  have b11 := F11.binds (ps := ["text"]) fun _ _ _ _ _ _ us hl => match us, hl with | [_], _ => rfl
  have F12 := fun_mk (st := sTold) l12 c12 k12
  have b12 := F12.binds (ps := ["text"]) fun _ _ _ _ _ _ us hl => match us, hl with | [_], _ => rfl
  have F13 := fun_mk (st := sLaw) l13 c13 k13
  refine ⟨PySem.W.fnOf "law" "law" (defArgs sLaw) (defBody sLaw) (defScope sLaw) .none kV13 dc13 pm13 an13 cd13 ct13, fun s v => .of_eq rfl, fun base _ _ => ?_⟩
  have GR := ok_run (P := P) (w := w) (base := base) F4 T
  have GM := ok_marked (P := P) (w := w) (base := base) F5 T XE
  have GO := ok_one F3 T XE GC GR (PySem.W.mg_of X G a4) k4 b4 GM (PySem.W.mg_of X G a5) k5 b5
  have GZ := ok_size (P := P) (w := w) (base := base) F2 T
  have GT := ok_tokens F1 T XE GC GO (PySem.W.mg_of X G a3) k3 b3 GZ (PySem.W.mg_of X G a2) k2 b2
  have GP := ok_pool (P := P) (w := w) (base := base) F8 T
  have GD := ok_draw (P := P) (w := w) (base := base) F9 T
  have GK := ok_pick F10 T GD (PySem.W.mg_of X G a9) k9 b9
  have GS := ok_same (P := P) (w := w) (base := base) F7 T (PySem.W.mg_of X G a7) k7 b7 3
  have GJ := ok_joined (P := P) (w := w) (base := base) F6 T
  have GL := ok_lt (P := P) (w := w) (base := base) F11 T
  have GW := ok_told F12 T XE Y GT (PySem.W.mg_of X G a1) k1 b1
  exact ok_law (C := C) F13 T ⟨PySem.W.mg_of X G a8, k8, b8, PySem.W.mg_of X G a9, k9, b9, PySem.W.mg_of X G a10, k10, b10, PySem.W.mg_of X G a11, k11, b11, PySem.W.mg_of X G a12, k12, b12, PySem.W.mg_of X G a7, k7, b7, PySem.W.mg_of X G a6, k6, b6, PySem.W.mg_of X G a1, k1, b1⟩ GP GD GK GL GW GS GJ GT
theorem walk {l : PySem.W.OpenLaw} {q : Program} {loose : List Str} {XP : (Str → Option Value) → Heap → Prop} {YP : World → Heap → Prop} {d : DefRec} {K : Params → PySem.W.Frag} (hn : l.most = some 63) (hdf : d.params.defaults = [])
    (hY : ∀ (w : World) (h : Heap), YP w h → (K w.params).In h)
    (F : ∀ (w : World) (mg : Str → Option Value) (fa : Addr) (h : Heap), (K w.params).In h → h.Ns mainGlobals mg → mg d.name = some (.ref fa) →
      ∃ fd : FuncData, (∀ (s : Shared) (u : Value), BindsTo s fd ⟨[u], []⟩ [("script", u)]) ∧ ∀ base : Heap, (K w.params).In base → base.Ns mainGlobals mg → FnOk l.prog w (K w.params) mg base CX0 5 fa fd ["script"] (spLaw (K w.params))) :
    PySem.W.WalkO q loose XP YP l.row.toRowW d [] (fun f vs => PySem.call f vs) :=
  L2.walk_of (n := 63) (k := 5) (x := "script") (CX := fun _ => CX0) (sp := fun w => spLaw (K w.params)) hn (by decide) hdf ⟨rfl, by decide, by decide⟩ hY F (fun _ _ a ns hl _ hS => ⟨a, ns, rfl, hS, hl, fun _ => rfl⟩) fun _ _ _ _ _ z => z
end K58

open PySem PySem.W PyProof.Rows in
set_option maxRecDepth 100000 in
set_option maxHeartbeats 0 in
theorem PySem.Challenge.cw_desksagree_k58_tokens_of_questions_holds : PySem.Challenge.rw_desksagree_k58_tokens_of_questions.Holds := by
  w_on; o_law; k_head; (case hw => w_witness2)
  k_fill
  refine K58.walk (l := PySem.Challenge.rw_desksagree_k58_tokens_of_questions) rfl rfl (fun w h Y => PySem.W.kIn_of Y) ?F
  case F =>
    intro w mg fa h KX G hmg
    refine' K58.all_mk KX G hmg ?a1 ?l1 ?c1 ?k1 ?a2 ?l2 ?c2 ?k2 ?a3 ?l3 ?c3 ?k3 ?a4 ?l4 ?c4 ?k4 ?a5 ?l5 ?c5 ?k5 ?a6 ?l6 ?c6 ?k6 ?a7 ?l7 ?c7 ?k7 ?a8 ?l8 ?c8 ?k8 ?a9 ?l9 ?c9 ?k9 ?a10 ?l10 ?c10 ?k10 ?a11 ?l11 ?c11 ?k11 ?a12 ?l12 ?c12 ?k12 ?a13 ?l13 ?c13 ?k13 ?z_len ?z_isinstance ?z_str ?z_int ?z_list ?z_tuple ?z_bool ?z_range ?z_abs ?z_ord ?z_ValueError ?nL ?nF ?nW ?lW ?nS ?lS ?nLo ?nMo ?aP ?aD ?xP ?kP ?bP ?tP ?bD ?tD ?hD ?sD ?sV ?eg ?ek ?ed ?ea ?en ?et ?em
    (case a1 => k_is)
    (case l1 => k_is)
    (case c1 => k_is)
    (case k1 => k_is)
    (case a2 => k_is)
    (case l2 => k_is)
    (case c2 => k_is)
    (case k2 => k_is)
    (case a3 => k_is)
    (case l3 => k_is)
    (case c3 => k_is)
    (case k3 => k_is)
    (case a4 => k_is)
    (case l4 => k_is)
    (case c4 => k_is)
    (case k4 => k_is)
    (case a5 => k_is)
    (case l5 => k_is)
    (case c5 => k_is)
    (case k5 => k_is)
    (case a6 => k_is)
    (case l6 => k_is)
    (case c6 => k_is)
    (case k6 => k_is)
    (case a7 => k_is)
    (case l7 => k_is)
    (case c7 => k_is)
    (case k7 => k_is)
    (case a8 => k_is)
    (case l8 => k_is)
    (case c8 => k_is)
    (case k8 => k_is)
    (case a9 => k_is)
    (case l9 => k_is)
    (case c9 => k_is)
    (case k9 => k_is)
    (case a10 => k_is)
    (case l10 => k_is)
    (case c10 => k_is)
    (case k10 => k_is)
    (case a11 => k_is)
    (case l11 => k_is)
    (case c11 => k_is)
    (case k11 => k_is)
    (case a12 => k_is)
    (case l12 => k_is)
    (case c12 => k_is)
    (case k12 => k_is)
    (case a13 => k_is)
    (case l13 => k_is)
    (case c13 => k_is)
    (case k13 => k_is)
    (case z_len => k_is)
    (case z_isinstance => k_is)
    (case z_str => k_is)
    (case z_int => k_is)
    (case z_list => k_is)
    (case z_tuple => k_is)
    (case z_bool => k_is)
    (case z_range => k_is)
    (case z_abs => k_is)
    (case z_ord => k_is)
    (case z_ValueError => k_is)
    (case nL => k_is)
    (case nF => k_is)
    (case nW => k_is)
    (case lW => k_is)
    (case nS => k_is)
    (case lS => k_is)
    (case nLo => k_is)
    (case nMo => k_is)
    (case aP => k_is)
    (case aD => k_is)
    (case xP => k_exc)
    (case kP => k_is)
    (case bP => k_is)
    (case tP => k_is)
    (case bD => k_is)
    (case tD => k_is)
    (case hD => k_is)
    (case sD => first | rfl | k_is)
    (case sV => k_is)
    (case eg => k_is)
    (case ek => k_is)
    (case ed => k_is)
    (case ea => k_is)
    (case en => k_is)
    (case et => k_is)
    (case em => k_is)

