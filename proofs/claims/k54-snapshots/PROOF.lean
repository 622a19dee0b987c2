import PyProof.Rows.All
import Wide.All
import OpenK.AllK
import Wide.FinOn
import HandS.SetBool
import HandS.SetKeys
import HandS.ForMost
import HandS.Exc
import HandS.TryOnly
import HandS.ExcOwn
import HandS.WordsExc
import HandS.ExcIs
import HandS.IsInst
import HandS.StrMore
import HandS.Wide
import HandS.TupAny
import HandS.Flow
import HandS.TupLe
import HandS.HotCalls
import HandS.ExcCtx
import HandS.Defaults
import HandS.WordsDict
import HandS.More
import HandS.NoneIn
import HandS.RaiseMore
import HandS.CallRecv
import PySem.Challenge.RW_desksagree_k54_whole_snapshots_old_or_ne
set_option Elab.async false
set_option maxRecDepth 100000
set_option maxHeartbeats 8000000
namespace TxtSet
open PySem PySem.Spec PyProof.Rows L2
/-! ### sets of texts with what sorting needs: the table rises and is led -/
def txt (z : Int × Value) : Str := match z.2 with | .str x _ => x | _ => Str.empty
def IsTxt (w : World) (z : Int × Value) : Prop := ∃ x tk, z = (hashStr w x, Value.str x tk)
/-- the set of texts at d: S tells its members, m how many there are -/
def SetX (w : World) (h : Heap) (d : Addr) (S : Str → Bool) (m : Nat) : Prop :=
  ∃ ob el pos tab, h.get? d = some ob ∧ ob.ExactSet ∧ ob.data = .set el pos tab ∧ (∀ z ∈ el.toList, IsTxt w z) ∧ (el.toList.map txt).Nodup ∧
    (∀ x, S x = true ↔ x ∈ el.toList.map txt) ∧ el.size < scanBound ∧ tab.fits el.size = true ∧ el.size = m ∧ Ris tab.place.toList ∧ (w.params.followText "set-order" = true ∨ tab.led = true)
section
variable {P : Program} {w : World} {A : Around} {E : Value → Shared → Prop} {s : Shared} {d : Addr} {S : Str → Bool} {m : Nat}
theorem txt_elems {l : List (Int × Value)} (q : ∀ z ∈ l, IsTxt w z) : ElemsOf (strKind P w) l := fun z mz => by
  obtain ⟨x, tk, rfl⟩ := q z mz
  exact ⟨⟨x, strKind_is P w x tk, rfl⟩, rfl⟩
theorem txt_is {z : Int × Value} (q : IsTxt w z) (x : Str) : (strKind P w).is x z.2 = true ↔ txt z = x := by
  obtain ⟨y, tk, rfl⟩ := q
  show ((strKind P w).is x (.str y tk) = true) ↔ y = x
  constructor
  · exact fun e => ((strKind P w).inj _ _ _ e (strKind_is P w y tk)).symm
  · rintro rfl
    exact strKind_is P w y tk
theorem txt_mem {l : List (Int × Value)} (q : ∀ z ∈ l, IsTxt w z) (x : Str) : x ∈ l.map txt ↔ ∃ z ∈ l, (strKind P w).is x z.2 = true := by
  simp only [List.mem_map]
  exact ⟨fun ⟨z, mz, e⟩ => ⟨z, mz, (txt_is (q z mz) x).mpr e⟩, fun ⟨z, mz, e⟩ => ⟨z, mz, (txt_is (q z mz) x).mp e⟩⟩
theorem SetX.of (R : SetX w s.heap d S m) : s.heap.SetOf (strKind P w) d S m := by
  obtain ⟨ob, el, pos, tab, f1, f2, f3, f4, f5, f6, f7, f8, f9, _⟩ := R
  exact ⟨ob, el, pos, tab, f1, f2, f3, txt_elems f4, fun x => (f6 x).trans (txt_mem f4 x), f7, f8, f9⟩
/-- what an add leaves behind, laid anew or not -/
theorem lay_end {step : Bool → Sem Unit} (quiet : ∀ (b : Bool) (z : Shared) (G : Unit → Shared → Prop), G () z → wpAny (model P w) A (step b) G E z)
    {ob : Obj} {el : Array (Int × Value)} {pos : Nat} {tab : SetTable} (f1 : s.heap.get? d = some ob) (f2 : ob.ExactSet) (f3 : ob.data = .set el pos tab)
    {el2 : Array (Int × Value)} {tab2 : SetTable} {S2 : Str → Bool} (q4 : ∀ z ∈ el2.toList, IsTxt w z) (q5 : (el2.toList.map txt).Nodup) (q6 : ∀ x, S2 x = true ↔ x ∈ el2.toList.map txt)
    (q7 : el2.size < scanBound) (q8 : tab2.fits el2.size = true) (q10 : Ris tab2.place.toList) (q11 : w.params.followText "set-order" = true ∨ tab2.led = true) {dummy : Bool} {R : Option Bool → Shared → Prop}
    (done : ∀ g, Heap.SameBut d s.heap g → SetX w g d S2 el2.size → R (some true) { s with heap := g }) :
    wpAny (model P w) A (do
        storeSet d el2 tab2
        if (!dummy && tab2.tooFull) = true then do
            step (relayAll tab2 el2 (SetTable.grown el2.size)).2.2
            storeSet d (relayAll tab2 el2 (SetTable.grown el2.size)).1 (relayAll tab2 el2 (SetTable.grown el2.size)).2.1
            pure (some true)
          else pure (some true)) R E s := by
  have g1 := PpSet.storeB_at (es' := el2) (t' := tab2) f1 f3
  have only := Heap.SameBut.update s.heap d (Obj.putSet el2 tab2)
  refine wpAny_bind (wpAny_storeSet_of f1 f3 ?_ (fits_of_scanBound q7))
  by_cases full : (!dummy && tab2.tooFull) = true
  · rw [if_pos full]
    have r1 := relayAll_perm tab2 el2 (SetTable.grown el2.size)
    have r2 := relayAll_fits tab2 el2 (SetTable.grown el2.size)
    have r3 := relayAll_ris tab2 el2 (SetTable.grown el2.size)
    have r4 := relayAll_led tab2 el2 (SetTable.grown el2.size)
    generalize relayAll tab2 el2 (SetTable.grown el2.size) = laid at r1 r2 r3 r4 ⊢
    obtain ⟨el3, tab3, gave⟩ := laid
    dsimp only at r1 r2 r3 r4 ⊢
    have r5 : el3.size = el2.size := by rw [← Array.length_toList, r1.length_eq, Array.length_toList]
    refine wpAny_bind (quiet _ _ _ ?_)
    refine wpAny_bind (wpAny_storeSet_of g1 rfl ?_ (fits_of_scanBound (by rw [r5]; exact q7)))
    refine wpAny_pure (done _ (only.trans (Heap.SameBut.update _ d _)) ⟨_, el3, _, tab3, PpSet.storeB_at (es' := el3) (t' := tab3) g1 rfl, f2, rfl, fun z mz => q4 z (r1.mem_iff.mp mz), (r1.map txt).nodup_iff.mpr q5,
      fun x => (q6 x).trans (r1.map txt).mem_iff.symm, by rw [r5]; exact q7, r2, r5, r3, q11.imp id fun e => r4.trans e⟩)
  · rw [if_neg full]
    exact wpAny_pure (done _ only ⟨_, el2, _, tab2, g1, f2, rfl, q4, q5, q6, q7, q8, rfl, q10, q11⟩)
/-- set.add's inner part -/
theorem add_hashed {x : Str} {tk : Tok} {Q : Bool → Shared → Prop} (R : SetX w s.heap d S m) (room : m + 1 < scanBound)
    (done : ∀ g, Heap.SameBut d s.heap g → SetX w g d (fun y => S y || decide (y = x)) (if S x = true then m else m + 1) → Q (!S x) { s with heap := g }) :
    wpAny (model P w) A (setAddHashed d (.str x tk) ((strKind P w).hash x)) Q E s := by
  obtain ⟨ob, el, pos, tab, f1, f2, f3, f4, f5, f6, f7, f8, f9, f10, f11⟩ := R
  have own : (strKind P w).is x (.str x tk) = true := strKind_is P w x tk
  have light : (Value.str x tk).scannable = true := rfl
  have all : ElemsOf (strKind P w) el.toList := txt_elems f4
  unfold setAddHashed setAddHashedIn
  refine wpAny_holding (wpAny_bind (wpAny_setState_of f1 f3 f8 ?_))
  dsimp only
  rw [byScan_of light f7 all]
  simp only [↓reduceIte]
  unfold setAddByScan
  refine wpAny_bind ?_
  refine wpAny_bind (wpAny_rule ?_)
  refine wpAny_bind (wpAny_setScan_of own f1 f3 f8 all ?_)
  cases seen : List.findIdx? (fun z => (strKind P w).is x z.2) el.toList with
  | some j =>
    obtain ⟨lt, here, _⟩ := List.findIdx?_eq_some_iff_getElem.mp seen
    have yes : S x = true := (f6 x).mpr ((txt_mem (P := P) (w := w) f4 x).mpr ⟨el.toList[j], List.getElem_mem lt, here⟩)
    have q := done s.heap (Heap.SameBut.refl d s.heap) ⟨ob, el, pos, tab, f1, f2, f3, f4, f5, fun y => ?_, f7, f8, by rw [if_pos yes]; exact f9, f10, f11⟩
    · rw [yes] at q
      exact wpAny_pure (wpAny_pure q)
    · rw [← f6 y, Bool.or_eq_true, decide_eq_true_eq]
      exact ⟨fun o => o.elim id fun e => by rw [e]; exact yes, Or.inl⟩
  | none =>
    have nope : x ∉ el.toList.map txt := fun o => by
      obtain ⟨z, mz, e⟩ := (txt_mem (P := P) (w := w) f4 x).mp o
      have := List.findIdx?_eq_none_iff.mp seen z mz
      rw [e] at this
      cases this
    have no : S x = false := by
      cases e : S x with
      | false => rfl
      | true => exact absurd ((f6 x).mp e) nope
    have still : ∀ (b : Bool) {z : Shared} {G : Unit → Shared → Prop}, G () z → wpAny (model P w) A (match b with | true => rule "set.scan.the-table-gave-way" | false => pure ()) G E z :=
      fun b _ _ g => by
        cases b
        · exact wpAny_pure g
        · exact wpAny_rule g
    have p1 := layNew_perm tab el ((strKind P w).hash x) (.str x tk)
    have p2 := layNew_fits tab el ((strKind P w).hash x) (.str x tk)
    have p3 := layNew_ris tab el ((strKind P w).hash x) (.str x tk) f10
    have p4 := layNew_led tab el ((strKind P w).hash x) (.str x tk)
    generalize layNew tab el ((strKind P w).hash x) (.str x tk) = laid at p1 p2 p3 p4 ⊢
    obtain ⟨el2, tab2, dummy, gave⟩ := laid
    dsimp only at p1 p2 p3 p4 ⊢
    rw [Array.toList_push] at p1
    have p5 : el2.toList.Perm (((strKind P w).hash x, Value.str x tk) :: el.toList) := p1.trans (List.perm_append_singleton _ _)
    have p6 : (el2.toList.map txt).Perm (x :: el.toList.map txt) := p5.map txt
    have q4 : ∀ z ∈ el2.toList, IsTxt w z := fun z mz => by
      rcases List.mem_cons.mp (p5.mem_iff.mp mz) with e | mz
      · exact ⟨x, tk, e⟩
      · exact f4 z mz
    have q5 : (el2.toList.map txt).Nodup := p6.nodup_iff.mpr (List.nodup_cons.mpr ⟨nope, f5⟩)
    have q6 : ∀ y, (S y || decide (y = x)) = true ↔ y ∈ el2.toList.map txt := fun y => by
      rw [p6.mem_iff, List.mem_cons, ← f6 y, Bool.or_eq_true, decide_eq_true_eq]
      exact Or.comm
    have q9 : el2.size = m + 1 := by rw [← Array.length_toList, p5.length_eq, List.length_cons, Array.length_toList, f9]
    have q7 : el2.size < scanBound := by rw [q9]; exact room
    have q11 : w.params.followText "set-order" = true ∨ tab2.led = true := f11.imp id fun e => p4.trans e
    have fin : ∀ g, Heap.SameBut d s.heap g → SetX w g d (fun y => S y || decide (y = x)) el2.size → Q true { s with heap := g } := fun g sb r => by
      have q := done g sb
      rw [no] at q
      rw [q9] at r
      exact q r
    refine wpAny_bind (still _ ?_)
    split
    · refine wpAny_bind ?_
      rw [hashByValue_scannable 8 light]
      refine wpAny_pure ?_
      refine lay_end ?_ f1 f2 f3 q4 q5 q6 q7 ?_ ?_ ?_ ?_
      · exact fun b z G g => still b g
      · first | (split <;> first | exact p2 | exact SetTable.fits_plain_off p2) | exact p2
      · first | (split <;> exact p3) | exact p3
      · first | (split <;> exact q11) | exact q11
      · exact fun g sb r => wpAny_pure (fin g sb r)
    · refine wpAny_bind (wpAny_pure ?_)
      simp only [↓reduceIte]
      exact lay_end (fun b z G g => still b g) f1 f2 f3 q4 q5 q6 q7 p2 p3 q11 fun g sb r => wpAny_pure (fin g sb r)
/-- set.add of a text -/
theorem add_call {x : Str} {tk : Tok} {Q : Value → Shared → Prop} (R : SetX w s.heap d S m) (room : m + 1 < scanBound)
    (done : ∀ g, Heap.SameBut d s.heap g → SetX w g d (fun y => S y || decide (y = x)) (if S x = true then m else m + 1) → Q .none { s with heap := g, toks := s.toks + 1 }) :
    wpAny (model P w) A (call (.builtin "set.add") [.ref d, .str x tk]) Q E s := by
  have so : s.heap.SetOf (strKind P w) d S m := R.of
  refine wpAny_call_entry F.slot_set_add so.typeIs F.entry_set_add ?_ (F.args_set_add_2 _ _)
  unfold Builtin.«set.add» Builtin.Frozenset.oneOther
  simp only [List.isEmpty_nil, bind_assoc]
  unfold Builtin.Frozenset.addrOf setAdd
  iterate 2
    refine wpAny_bind (wpAny_pure ?_)
    try dsimp only
  refine wpAny_bind (wpAny_holding (wpAny_bind ((strKind P w).pyHash (strKind_is P w x tk) (add_hashed (s := { s with toks := s.toks + 1 }) R room fun g sb r => ?_))))
  exact wpAny_pure ⟨_, rfl, done g sb r⟩
theorem fresh_set {h : Heap} (w : World) : SetX w (h.push { cls := .type "set", dict := none, data := .set #[] 0 (.fresh 0 0 (!w.params.followText "set-order")) }) h.objs.size (fun _ => false) 0 := by
  refine ⟨_, #[], 0, _, Heap.get?_push_size _ rfl, ⟨rfl, rfl, rfl⟩, rfl, fun z mz => by simp at mz, by simp, fun x => by simp, by decide, rfl, rfl, List.Pairwise.nil, ?_⟩
  cases e : w.params.followText "set-order" with
  | false => exact .inr rfl
  | true => exact .inl rfl
theorem strs_of_vals : ∀ {l : List Value}, (∀ v ∈ l, ∃ x tk, v = Value.str x tk) → StrsAre l (l.map fun v => match v with | .str x _ => x | _ => Str.empty)
  | [], _ => .nil
  | v :: l, h => by
    obtain ⟨x, tk, rfl⟩ := h v (List.mem_cons_self ..)
    exact .cons x tk (strs_of_vals fun u mu => h u (List.mem_cons_of_mem _ mu))
/-- sorted of such a set -/
theorem sorted_txts {Q : Value → Shared → Prop} (quietH : A.handled = none) (R : SetX w s.heap d S m) (few : m < 64)
    (done : ∀ (z : Shared) (r : Addr) (out : Array Value) (c : Nat) (xs : List Str), (∀ b o, s.heap.get? b = some o → z.heap.get? b = some o) → z.gens = s.gens → z.os = s.os → s.heap.objs.size ≤ r → z.heap.get? r = some (seqObj "list" out c) →
      StrsAre out.toList xs → sortedS xs = true → xs.Nodup → (∀ x, x ∈ xs ↔ S x = true) → xs.length = m → Q (.ref r) z) :
    wpAny (model P w) A (call (.builtin "sorted") [.ref d]) Q E s := by
  obtain ⟨ob, el, pos, tab, f1, f2, f3, f4, f5, f6, f7, f8, f9, f10, f11⟩ := R
  refine Calls.call_function_entry kind_sorted plain_sorted entry_sorted (args_sorted1 _) ?_
  unfold Builtin.«sorted»
  refine wpAny_bind (m := checkCount "sorted" 1 1 _) (wpAny_pure (wpAny_bind (collect_set (A := A.in1) quietH ⟨ob, f1, f2.1, f3⟩ f8 f7 f10 f11 fun z1 got keep grew gens os perm => ?_)))
  have len : got.length = m := by rw [perm.length_eq, List.length_map, Array.length_toList]; exact f9
  have same : got.Perm (el.toList.map (·.2)) := perm
  have shape : ∀ v ∈ got, ∃ x tk, v = Value.str x tk := fun v mv => by
    obtain ⟨z, mz, e⟩ := List.mem_map.mp (same.mem_iff.mp mv)
    obtain ⟨x, tk, e2⟩ := f4 z mz
    exact ⟨x, tk, by rw [← e, e2]⟩
  have are := strs_of_vals shape
  have pt : (got.map fun v => match v with | .str x _ => x | _ => Str.empty).Perm (el.toList.map txt) := by
    have q := same.map fun v : Value => match v with | .str x _ => x | _ => Str.empty
    rw [List.map_map] at q
    exact q
  refine wpAny_bind (wpAny_newList ?_ (by rw [len, sizeLine_eq]; omega))
  have at0 : (z1.heap.push (seqObj "list" got.toArray 0)).get? z1.heap.objs.size = some (seqObj "list" got.toArray 0) := Heap.get?_push_size _ rfl
  refine wpAny_bind (wpAny_holding (wpAny_call_entry slot_list_sort ⟨_, at0, rfl⟩ entry_list_sort (list_sort_treeK strKind_oneLt at0 are.keysOf (fun v1 v2 rest e => keyKind_strs (by rw [← e]; exact are)) (by rw [len]; exact few) fun st a1 a2 => ⟨_, rfl, ?_⟩) (args_list_sort _)))
  obtain ⟨xs, b1, b2, b3⟩ := sorted_out_str are a1 a2
  obtain ⟨c, hc⟩ := sortedHeap_at (vs := got) (out := (arrOf st).map (·.2)) at0
  have px : xs.Perm (el.toList.map txt) := b2.trans pt
  refine wpAny_pure ⟨_, rfl, done _ z1.heap.objs.size _ c xs (fun b o e => ?_) gens os grew hc b1 b3 (px.nodup_iff.mpr f5) (fun x => by rw [px.mem_iff, f6 x]) ?_⟩
  · have q := keep b o e
    have lt := Heap.lt_size q
    refine (sortedHeap_old (Nat.ne_of_lt lt) (by rw [size_push']; exact Nat.lt_succ_of_lt lt)).trans ?_
    exact Heap.get?_push_of_some _ q
  · rw [px.length_eq, List.length_map, Array.length_toList]
    exact f9
end
/-! ### as tracked things -/
def SetXO (w : World) (d : Addr) (S : Str → Bool) (m : Nat) : HO := .ext fun h => SetX w h d S m
theorem setX_new {w : World} {P : Program} {H : Hp} {h : Heap} {d : Addr} {S : Str → Bool} {m : Nat} (R : SetX w h d S m) : ObjOk P w H h d (SetXO w d S m) := by
  have ⟨ob, _, _, _, f1, _⟩ := R
  exact ⟨R, ⟨ob, f1⟩, fun h1 h2 ⟨o2, a2, b2, c2, g1, r⟩ keep => ⟨o2, a2, b2, c2, keep o2 g1, r⟩⟩
section
variable {X : Cx}
theorem setX_at {pins : List (Addr × Obj)} {σ : L2.St} {H : Hp} {s : Shared} {d : Addr} {S : Str → Bool} {m : Nat} (I : Inv X pins σ H s) (hd : H d = some (SetXO X.w d S m)) : SetX X.w s.heap d S m := (I.hok d _ hd).1
theorem addX_ok {pins : List (Addr × Obj)} {σ : L2.St} {H : Hp} {s : Shared} {E : Value → Shared → Prop} {d : Addr} {S : Str → Bool} {m : Nat} {x : Str} {tk : Tok} {Q : Value → Shared → Prop} (I : Inv X pins σ H s) (hd : H d = some (SetXO X.w d S m)) (room : m + 1 < scanBound)
    (done : ∀ z, Inv X pins σ (upd H d (SetXO X.w d (fun y => S y || decide (y = x)) (if S x = true then m else m + 1))) z → Q .none z) : wpAny (model X.prog X.w) X.A (call (.builtin "set.add") [.ref d, .str x tk]) Q E s := by
  refine add_call (setX_at I hd) room fun g sb r => ?_
  have ⟨ob, _, _, _, f1, _⟩ := id r
  exact done _ (I.write (e := d) (t' := s.toks + 1) (by rw [hd]; trivial) (.inl rfl) (fun b u nb e => (sb.2 b nb).trans e) ⟨ob, f1⟩ (setX_new r))
/-- sorted(texts), fewer than 64 -/
def rSortedX (w : World) : List V → Hp → VK → Prop := fun vs H Q => ∃ (d : Addr) (S : Str → Bool) (m : Nat), vs = [V.ref d] ∧ H d = some (SetXO w d S m) ∧ m < 64 ∧
  ∀ (xs : List Str) (r : Addr), sortedS xs = true → xs.Nodup → (∀ x, x ∈ xs ↔ S x = true) → xs.length = m → H r = none → Q (.ref r) (upd H r (.lst (xs.map V.str)))
theorem cr_sortedX (calm : X.calm = true) : CallR X (.builtin "sorted") (rSortedX X.w) := by
  intro pins s σ H vs us Q I rv ⟨d, S, m, e, hd, few, q⟩
  subst e
  rw [Vals.ref1 rv]
  refine sorted_txts (I.ok.hd calm) (setX_at I hd) few fun z r out c xs keep gens os new at0 are up nd mem len => ?_
  have free : H r = none := I.hok.fresh new
  have small : (xs.map V.str).length ≤ sizeLine := by rw [List.length_map, len, sizeLine_eq]; omega
  have J : Inv X pins σ (upd H r (.lst (xs.map V.str))) z :=
    I.call' (ch := []) os (Un.laid keep new free) (I.hok.laid keep new ⟨small, out.toList, c, vals_of_strs are, at0⟩) (by rw [gens]; exact I.bare) (fun _ y => nomatch y)
  exact ⟨.ref r, _, J, rfl, q xs r up nd mem len free⟩
end
end TxtSet

namespace TxtSet
open PySem PySem.Spec PyProof.Rows L2
/-! ### the comprehension of texts -/
section
variable {X : Cx}
/-- one step of what a set of texts becomes -/
def grow (S : Str → Bool) (x : Str) : Str → Bool := fun y => S y || decide (y = x)
def grown (S : Str → Bool) (m : Nat) (x : Str) : Nat := if S x = true then m else m + 1
def tScX (w : World) (wi : TI) (g : TG) (tt : TT) (te : TE) (vs : List Nat) : TE := fun σ H Q => wi σ H fun J H1 => ∀ D, H1 D = none → ∃ W : Nat → Nat → Hp → Prop, (∃ n, W 0 n (upd H1 D (SetXO w D (fun _ => false) 0))) ∧ ∀ i n G, W i n G →
  (J.stop i G ∧ Q (.ref D) G) ∨ (J.go i G ∧ ∃ Nx : Hp → Prop, (∀ G', Nx G' → ∃ n', n' < n ∧ W (i + 1) n' G') ∧ ∀ v G', J.yld i G v G' → g v (wipe σ vs) G' fun τ G2 => wipe τ vs = wipe σ vs ∧ tt τ G2 fun b G3 =>
    if b = true then te τ G3 fun y G4 => ∃ (x : Str) (S : Str → Bool) (m : Nat), y = .str x ∧ G4 D = some (SetXO w D S m) ∧ m + 1 < scanBound ∧ Nx (upd G4 D (SetXO w D (grow S x) (grown S m x))) else Nx G3)
/-- over a list that the block leaves as it is -/
theorem scX_list {w : World} {K : PySem.W.Frag} {a : Addr} {xs : List V} {g : TG} {tt : TT} {te : TE} {vs : List Nat} {σ : L2.St} {H1 : Hp} {D : Addr} {Qd : Hp → Prop} (Pv : Nat → Hp → Prop) (h0 : Pv 0 (upd H1 D (SetXO w D (fun _ => false) 0))) (hl : ∀ i G, i ≤ xs.length → Pv i G → SqL K G a xs)
    (hs : ∀ i v G, xs[i]? = some v → Pv i G → g v (wipe σ vs) G fun τ G2 => wipe τ vs = wipe σ vs ∧ tt τ G2 fun b G3 =>
      if b = true then te τ G3 fun y G4 => ∃ (x : Str) (S : Str → Bool) (m : Nat), y = .str x ∧ G4 D = some (SetXO w D S m) ∧ m + 1 < scanBound ∧ Pv (i + 1) (upd G4 D (SetXO w D (grow S x) (grown S m x))) else Pv (i + 1) G3) (hd : ∀ G, Pv xs.length G → Qd G) :
    ∃ W : Nat → Nat → Hp → Prop, (∃ n, W 0 n (upd H1 D (SetXO w D (fun _ => false) 0))) ∧ ∀ i n G, W i n G →
      ((Itl K a).stop i G ∧ Qd G) ∨ ((Itl K a).go i G ∧ ∃ Nx : Hp → Prop, (∀ G', Nx G' → ∃ n', n' < n ∧ W (i + 1) n' G') ∧ ∀ v G', (Itl K a).yld i G v G' → g v (wipe σ vs) G' fun τ G2 => wipe τ vs = wipe σ vs ∧ tt τ G2 fun b G3 =>
        if b = true then te τ G3 fun y G4 => ∃ (x : Str) (S : Str → Bool) (m : Nat), y = .str x ∧ G4 D = some (SetXO w D S m) ∧ m + 1 < scanBound ∧ Nx (upd G4 D (SetXO w D (grow S x) (grown S m x))) else Nx G3) := by
  refine ⟨fun i n G => n + i = xs.length ∧ Pv i G, ⟨xs.length, by omega, h0⟩, fun i n G ⟨e, p⟩ => ?_⟩
  have q := hl i G (by omega) p
  rcases Nat.eq_zero_or_pos n with z | z
  · have ei : i = xs.length := by omega
    subst ei
    exact .inl ⟨⟨xs, q, Nat.le_refl _⟩, hd G p⟩
  · have lt : i < xs.length := by omega
    refine .inr ⟨⟨xs, xs[i], q, by simp [lt]⟩, Pv (i + 1), fun G' p' => ⟨n - 1, by omega, by omega, p'⟩, fun v G' y => ?_⟩
    obtain ⟨eG, y⟩ := y
    subst eG
    exact hs i v _ (y xs q) p
open PpSet in
theorem scX_core {pins : List (Addr × Obj)} {s : Shared} {σ : L2.St} {H : Hp} {Q : VK} {elt tg iter : Expr} {ifs : List Expr} {scope : Scope} {own : List (PySem.Str × Nat)} {pos pos' : Pos} {wi : TI} {g : TG} {tt : TT} {te : TE} {use : Option (Value → Sem Unit)} {Qf : Value → Shared → Prop}
    (calm : X.calm = true) (nod : X.N.Nodup) (I : Inv X pins σ H s) (pit : PI X tg iter wi) (blk : BlkOk X.N X.env.scope scope own)
    (pgs : ∀ (z : Shared) (G : Hp) (C : Addr) (cl : List (PySem.Str × Addr)) (fs : List Addr), PG (X.blk z G scope (compEnvC scope cl C X.env) fs) tg g) (pts : ∀ (z : Shared) (G : Hp) (C : Addr) (cl : List (PySem.Str × Addr)) (fs : List Addr), PTs (X.blk z G scope (compEnvC scope cl C X.env) fs) ifs tt)
    (pes : ∀ (z : Shared) (G : Hp) (C : Addr) (cl : List (PySem.Str × Addr)) (fs : List Addr), PE (X.blk z G scope (compEnvC scope cl C X.env) fs) elt te) (plain : ∀ x, foldedSetIterable iter X.env x = pure x)
    (h : tScX X.w wi g tt te (own.map (·.2)) σ H Q)
    (post : ∀ D C z mg G, Inv X pins σ G z → Q (.ref D) G → z.heap.Ns C mg → FpOk X pins G C → compPost (model X.prog X.w) X.A X.xe use Qf (.ref D) C (.ok .next) z) :
    wpAny (model X.prog X.w) X.A (comprehension (.SetComp elt [⟨tg, iter, ifs, 0⟩] scope pos) scope X.env pos' (newSet (.type "set")) false (eval iter X.env) use) Qf X.xe s := by
  have cells : ∀ y ∈ scope.names, y.2 = .free → ∃ c, X.env.cells.lookup y.1 = some c := fun y my e =>
    (blk.free y my e).elim (fun o => I.ok.has _ (.inl o)) fun o => I.ok.has _ (.inr o)
  refine wpAny_comprehension_free (use := use) rfl plain (closure_ok cells) blk.kind (fun y my e => by rw [blk.uniq y my, e])
    (thn (pit.run pins s σ H _ I h) fun _ _ o1 => thn o1 fun _ z2 o2 => ?_)
  obtain ⟨it, fs, walk, J, H2, e, I2, T, at2, free2, q⟩ := o2
  subst e
  refine newSet_ok (newEnv_comp ?_)
  obtain ⟨D, eD⟩ : ∃ D, D = z2.heap.objs.size := ⟨_, rfl⟩
  obtain ⟨W, ⟨n0, w0⟩, turn⟩ := q D (I2.hok.fresh (Nat.le_of_eq eD.symm))
  obtain ⟨z3, e3⟩ : ∃ z3 : Shared, z3 = { z2 with heap := z2.heap.push { cls := .type "set", dict := none, data := .set #[] 0 (.fresh 0 0 (!X.w.params.followText "set-order")) } } := ⟨_, rfl⟩
  obtain ⟨H3, eH3⟩ : ∃ H3 : Hp, H3 = upd H2 D (SetXO X.w D (fun _ => false) 0) := ⟨_, rfl⟩
  have hp3 : z3.heap = z2.heap.push { cls := .type "set", dict := none, data := .set #[] 0 (.fresh 0 0 (!X.w.params.followText "set-order")) } := by rw [e3]
  have I3 : Inv X pins σ H3 z3 := by
    rw [e3, eH3]
    refine I2.laid (t' := z2.toks) (fun b o k => Heap.get?_push_of_some _ k) (Nat.le_of_eq eD.symm) ?_
    rw [eD]
    exact setX_new (fresh_set X.w)
  rw [← eH3] at w0
  rw [← e3, ← eD]
  have free3 : ∀ b ∈ fs, FpOk X pins H3 b ∧ b < z3.heap.objs.size := fun b mb => by
    obtain ⟨o, k, _⟩ := T.obj _ _ at2 b mb
    have lt := Heap.lt_size k
    refine ⟨⟨?_, (free2 b mb).2⟩, by rw [hp3, Heap.size_push]; exact Nat.lt_succ_of_lt lt⟩
    rw [eH3, upd_ne (by rw [eD]; exact Nat.ne_of_lt lt)]
    exact (free2 b mb).1
  have B4 := block_start I3 blk nod free3
  have gP := pgs z3 H3 z3.heap.objs.size (cellsFrom (z3.heap.objs.size + 1) scope.names (cloFrom X.env.cells scope.names [])) fs
  have tP := pts z3 H3 z3.heap.objs.size (cellsFrom (z3.heap.objs.size + 1) scope.names (cloFrom X.env.cells scope.names [])) fs
  have eP := pes z3 H3 z3.heap.objs.size (cellsFrom (z3.heap.objs.size + 1) scope.names (cloFrom X.env.cells scope.names [])) fs
  show codeAny _ _ (.compStart (.SetComp elt [⟨tg, iter, ifs, 0⟩] scope pos) 0 (.ref it) (.ref D) (compEnvC scope (cellsFrom (z3.heap.objs.size + 1) scope.names (cloFrom X.env.cells scope.names [])) z3.heap.objs.size X.env)) (compPost (model X.prog X.w) X.A X.xe use Qf (.ref D) z3.heap.objs.size) { z3 with heap := pushCells (z3.heap.push { cls := .type "dict", data := .dict #[] }) scope.names }
  obtain ⟨z4, e4⟩ : ∃ z4 : Shared, z4 = { z3 with heap := pushCells (z3.heap.push { cls := .type "dict", data := .dict #[] }) scope.names } := ⟨_, rfl⟩
  rw [← e4] at B4 ⊢
  have at4 : walk 0 z4.heap := T.keep _ _ _ at2 fun b _ o k => by
    rw [e4]
    refine pushCells_keeps _ _ _ _ (Heap.get?_push_of_some _ ?_)
    rw [hp3]
    exact Heap.get?_push_of_some _ k
  have loc : (compEnvC scope (cellsFrom (z3.heap.objs.size + 1) scope.names (cloFrom X.env.cells scope.names [])) z3.heap.objs.size X.env).locals = z3.heap.objs.size := rfl
  generalize compEnvC scope (cellsFrom (z3.heap.objs.size + 1) scope.names (cloFrom X.env.cells scope.names [])) z3.heap.objs.size X.env = ce at B4 gP tP eP loc ⊢
  have still : ∀ {τ : L2.St} {G : Hp} {z : Shared}, Inv (X.blk z3 H3 scope ce fs) [] τ G z → (∀ b ∈ fs, G b = none) → ∀ b ∈ fs, FpOk (X.blk z3 H3 scope ce fs) [] G b := fun J' none b mb =>
    ⟨none b mb, (J'.ok.exf b mb).1, J'.ok.exfs b mb, .inl mb, fun x c k => (J'.ok.exf b mb).2 x c k, fun p mp => absurd (show p ∈ ([] : List (Addr × Obj)) ++ [] from mp) (by simp)⟩
  have loop : codeAny (model X.prog X.w) X.A (.compLoop (.SetComp elt [⟨tg, iter, ifs, 0⟩] scope pos) 0 (.ref it) (.ref D) ce) (compPost (model X.prog X.w) X.A X.xe use Qf (.ref D) z3.heap.objs.size) z4 := by
    refine compLoopS_any (fun n z => ∃ i G, Inv (X.blk z3 H3 scope ce fs) [] (wipe σ (own.map (·.2))) G z ∧ walk i z.heap ∧ (∀ b ∈ fs, G b = none) ∧ W i n G) ?_ n0 ⟨0, H3, B4, at4, fun b mb => (free3 b mb).1.1, w0⟩
    rintro n z5 ⟨i, G5, J5, at5, none5, w5⟩
    rcases turn i n G5 w5 with ⟨stop, qq⟩ | ⟨go, Nx, less, step⟩
    · refine thnF (T.done (X.blk z3 H3 scope ce fs) rfl rfl rfl calm i [] z5 _ G5 (fun _ _ => False) J5 (still J5 none5) at5 stop) fun r z6 ⟨er, J6⟩ => ?_
      subst er
      have back : Inv X pins σ G5 z6 := I3.call' (ch := fs) J6.os J6.base J6.hok J6.bare fun b mb => ⟨(free3 b mb).1.2.2.2.1, (free3 b mb).1.2.1, (free3 b mb).1.2.2.2.2.1, (free3 b mb).1.2.2.2.2.2⟩
      have gone : G5 z3.heap.objs.size = none := loc ▸ (J6.free : G5 ce.locals = none)
      obtain ⟨mg, ns, _⟩ := J6.loc
      have ns' : z6.heap.Ns ce.locals mg := ns
      rw [loc] at ns'
      exact post D z3.heap.objs.size z6 mg G5 back qq ns' (I3.fpOk (Nat.le_refl _) gone)
    · refine thnF (T.item (X.blk z3 H3 scope ce fs) rfl rfl rfl calm i [] z5 _ G5 (fun _ _ => False) J5 (still J5 none5) at5 go) fun r z6 ⟨u, er, o6⟩ => ?_
      subst er
      refine thnF o6 fun _ z7 ⟨v, G7, J7, rv, y7, at7, none7⟩ => ?_
      refine thnF (gP.run _ z7 _ G7 v u _ (J7.pinned (still J7 none7) (T.obj _ _ at7)) rv (step v G7 y7)) fun _ z8 ⟨τ, G8, J8, eqw, q8⟩ => ?_
      refine thnF (tP.run _ z8 τ G8 _ J8 q8) fun b z9 ⟨G9, J9, q9⟩ => ?_
      have again : ∀ {z : Shared} {G : Hp}, Inv (X.blk z3 H3 scope ce fs) ([] ++ pinsAt fs z7.heap) τ G z → Nx G → ∃ n', n' < n ∧ ∃ i G, Inv (X.blk z3 H3 scope ce fs) [] (wipe σ (own.map (·.2))) G z ∧ walk i z.heap ∧ (∀ b ∈ fs, G b = none) ∧ W i n' G := fun {z G} J' nx => by
        obtain ⟨n', lt, w'⟩ := less G nx
        have pinned : ∀ b ∈ fs, ∀ o, z7.heap.get? b = some o → z.heap.get? b = some o ∧ G b = none := fun b mb o k =>
          ⟨(J'.pin (b, o) (List.mem_append_right _ (List.mem_append_right _ (mem_pinsAt mb k)))).1, (J'.pin (b, o) (List.mem_append_right _ (List.mem_append_right _ (mem_pinsAt mb k)))).2.1⟩
        refine ⟨n', lt, i + 1, G, (J'.unpinned (pins := [])).weak (by rw [← eqw, wipe_length]) (fun j w k => ?_), T.keep _ _ _ at7 fun b mb o k => (pinned b mb o k).1, fun b mb => ?_, w'⟩
        · rw [← eqw] at k
          exact (wipe_some k).1
        · obtain ⟨o, k, _⟩ := T.obj _ _ at7 b mb
          exact (pinned b mb o k).2
      cases b with
      | false =>
        simp only [Bool.false_eq_true, if_false] at q9 ⊢
        exact again J9 q9
      | true =>
        simp only [if_true] at q9 ⊢
        refine thnF (eP.run _ z9 τ G9 _ J9 q9) fun u z10 ⟨yv, G10, J10, r10, x, S0, m0, ey, at10, room, nx⟩ => ?_
        subst ey
        obtain ⟨tk, rfl⟩ := r10
        exact addX_ok (X := X.blk z3 H3 scope ce fs) J10 at10 room fun z11 J11 => again J11 nx
  exact codeAny_compStart_set loop (T.self X.A 0 _ _ _ at4 loop)
/-- the comprehension as a value -/
theorem pe_scX {elt tg iter : Expr} {ifs : List Expr} {scope : Scope} {own : List (PySem.Str × Nat)} {pos : Pos} {wi : TI} {g : TG} {tt : TT} {te : TE} (calm : X.calm = true) (nod : X.N.Nodup) (pit : PI X tg iter wi) (blk : BlkOk X.N X.env.scope scope own)
    (pgs : ∀ (z : Shared) (G : Hp) (C : Addr) (cl : List (PySem.Str × Addr)) (fs : List Addr), PG (X.blk z G scope (compEnvC scope cl C X.env) fs) tg g) (pts : ∀ (z : Shared) (G : Hp) (C : Addr) (cl : List (PySem.Str × Addr)) (fs : List Addr), PTs (X.blk z G scope (compEnvC scope cl C X.env) fs) ifs tt)
    (pes : ∀ (z : Shared) (G : Hp) (C : Addr) (cl : List (PySem.Str × Addr)) (fs : List Addr), PE (X.blk z G scope (compEnvC scope cl C X.env) fs) elt te) (plain : ∀ x, foldedSetIterable iter X.env x = pure x := by intro _; rfl) :
    PE X (.SetComp elt [⟨tg, iter, ifs, 0⟩] scope pos) (tScX X.w wi g tt te (own.map (·.2))) := by
  refine ⟨fun pins s σ H Q I h => ?_⟩
  rw [PpSet.eval_SetComp]
  refine scX_core calm nod I pit blk pgs pts pes plain h fun D C z mg G J q ns f => ⟨mg, ns, fun _ sb => ?_⟩
  have ⟨u0, u1, _, u3, u4, u5⟩ := f
  exact ⟨.ref D, G, J.turned (t' := z.toks) (fun b _ nb e => (sb.2 b nb).trans e) u0 u1 u3 u4 u5, rfl, q⟩
end
end TxtSet

namespace K54
open PySem PySem.Spec PyProof.Rows L2
def top (i : Nat) : Stmt := PySem.Challenge.pw_desksagree_k54_whole_snapshots_old_or_ne.main.body.getD i (.Pass ⟨0, 0, 0, 0⟩)
abbrev s_check_of : Stmt := top 10
abbrev s_checked_text : Stmt := top 11
abbrev s_framed : Stmt := top 12
abbrev s__number : Stmt := top 13
abbrev s_one_frame : Stmt := top 14
abbrev s_is_number : Stmt := top 17
abbrev s_checked_number : Stmt := top 18
abbrev s_snap_name : Stmt := top 21
abbrev s_is_snap : Stmt := top 22
abbrev s_snap_names : Stmt := top 23
abbrev s_number_of : Stmt := top 24
abbrev s_write_aside : Stmt := top 25
abbrev s_name_it : Stmt := top 26
abbrev s_save : Stmt := top 27
abbrev s_drop_older : Stmt := top 28
abbrev s_whole_snap : Stmt := top 29
abbrev s_load : Stmt := top 30
abbrev s_clean : Stmt := top 31
abbrev s_Disk___init__ : Stmt := inClass (top 34) 0
abbrev s_Disk_names : Stmt := inClass (top 34) 1
abbrev s_Disk_has : Stmt := inClass (top 34) 2
abbrev s_Disk__file : Stmt := inClass (top 34) 3
abbrev s_Disk_read : Stmt := inClass (top 34) 4
abbrev s_Disk_make : Stmt := inClass (top 34) 7
abbrev s_Disk__change : Stmt := inClass (top 34) 8
abbrev s_Disk_write : Stmt := inClass (top 34) 9
abbrev s_Disk_sync : Stmt := inClass (top 34) 10
abbrev s_Disk_sync_names : Stmt := inClass (top 34) 11
abbrev s_Disk_move : Stmt := inClass (top 34) 12
abbrev s_Disk_remove : Stmt := inClass (top 34) 13
abbrev s_Disk_late_changes : Stmt := inClass (top 34) 15
abbrev s_Disk_late_size : Stmt := inClass (top 34) 16
abbrev s_Disk_late_files : Stmt := inClass (top 34) 17
abbrev s_Disk_copy : Stmt := inClass (top 34) 18
abbrev s_Disk_cut_off : Stmt := inClass (top 34) 19
abbrev s_applied : Stmt := top 35
abbrev s_checked_tears : Stmt := top 36
abbrev s_all_lost : Stmt := top 37
abbrev s__law_same : Stmt := top 39
abbrev s__law_pool : Stmt := top 40
abbrev s__law_draw : Stmt := top 41
abbrev s__law_pick : Stmt := top 42
abbrev s__law_refusal : Stmt := top 43
abbrev s__law_tears : Stmt := top 44
abbrev s__law_either : Stmt := top 45
abbrev s__law_refused : Stmt := top 46
abbrev s__law_run : Stmt := top 47
abbrev s_law : Stmt := top 48
structure Blt (mg : Str → Option Value) : Prop where
  b_len : mg "len" = none
  b_isinstance : mg "isinstance" = none
  b_str : mg "str" = none
  b_int : mg "int" = none
  b_list : mg "list" = none
  b_tuple : mg "tuple" = none
  b_bool : mg "bool" = none
  b_range : mg "range" = none
  b_abs : mg "abs" = none
  b_ord : mg "ord" = none
  b_sorted : mg "sorted" = none
  b_dict : mg "dict" = none
  b_reversed : mg "reversed" = none
  b_ValueError : mg "ValueError" = none
abbrev tl (x : Str) : List Nat := x.cps.toList
abbrev mkS (l : List Nat) : Str := ⟨l.toArray⟩
theorem mkS_tl (x : Str) : mkS (tl x) = x := by cases x; rfl
theorem tl_mkS (l : List Nat) : tl (mkS l) = l := rfl
theorem len_tl (x : Str) : x.length = (tl x).length := by simp [Str.length, tl]
theorem cut_nat (x : Str) (a b : Nat) (h : b ≤ (tl x).length) : cutS x (some (a : Int)) (some (b : Int)) = mkS (((tl x).drop a).take (b - a)) := by
  have hn : x.length = (tl x).length := len_tl x
  have e1 : HT.sIx x.length 0 (some (a : Int)) = min a x.length := by
    show (if ((a : Int)) < 0 then ((a : Int) + (x.length : Int)).toNat else min ((a : Int)).toNat x.length) = _
    rw [if_neg (by omega)]; rfl
  have e2 : HT.sIx x.length x.length (some (b : Int)) = b := by
    show (if ((b : Int)) < 0 then ((b : Int) + (x.length : Int)).toNat else min ((b : Int)).toNat x.length) = _
    rw [if_neg (by omega)]
    show min b x.length = b
    omega
  show (⟨((x.cps.toList.drop (HT.sIx x.length 0 (some (a : Int)))).take (HT.sIx x.length x.length (some (b : Int)) - HT.sIx x.length 0 (some (a : Int)))).toArray⟩ : Str) = _
  rw [e1, e2]
  by_cases ha : a ≤ x.length
  · rw [Nat.min_eq_left ha]
  · have z : (tl x).length ≤ a := by omega
    have e3 : ((tl x).drop a).take (b - a) = [] := by rw [List.drop_eq_nil_of_le z, List.take_nil]
    have e4 : (x.cps.toList.drop (min a x.length)).take (b - min a x.length) = [] := by
      rw [List.drop_eq_nil_of_le (by show (tl x).length ≤ _; omega), List.take_nil]
    rw [e3, e4]
theorem cut_any (x : Str) (a b : Nat) : cutS x (some (a : Int)) (some (b : Int)) = mkS (((tl x).drop a).take (b - a)) := by
  by_cases h : b ≤ (tl x).length
  · exact cut_nat x a b h
  · have hn : x.length = (tl x).length := len_tl x
    have e1 : HT.sIx x.length 0 (some (a : Int)) = min a x.length := by
      show (if ((a : Int)) < 0 then ((a : Int) + (x.length : Int)).toNat else min ((a : Int)).toNat x.length) = _
      rw [if_neg (by omega)]; rfl
    have e2 : HT.sIx x.length x.length (some (b : Int)) = x.length := by
      show (if ((b : Int)) < 0 then ((b : Int) + (x.length : Int)).toNat else min ((b : Int)).toNat x.length) = _
      rw [if_neg (by omega)]
      show min b x.length = x.length
      omega
    show (⟨((x.cps.toList.drop (HT.sIx x.length 0 (some (a : Int)))).take (HT.sIx x.length x.length (some (b : Int)) - HT.sIx x.length 0 (some (a : Int)))).toArray⟩ : Str) = _
    rw [e1, e2]
    by_cases ha : a ≤ x.length
    · rw [Nat.min_eq_left ha]
      show mkS (((tl x).drop a).take (x.length - a)) = _
      have hd : ((tl x).drop a).length = (tl x).length - a := List.length_drop
      rw [List.take_of_length_le (by omega), List.take_of_length_le (by omega)]
    · have z : (tl x).length ≤ a := by omega
      have e3 : ((tl x).drop a).take (b - a) = [] := by rw [List.drop_eq_nil_of_le z, List.take_nil]
      have e4 : (x.cps.toList.drop (min a x.length)).take (x.length - min a x.length) = [] := by
        rw [List.drop_eq_nil_of_le (by show (tl x).length ≤ _; omega), List.take_nil]
      rw [e3, e4]
def upto (c : Nat) (l : List Nat) : List Nat := l.takeWhile fun d => decide (d ≠ c)
theorem upto_le (c : Nat) (l : List Nat) : (upto c l).length ≤ l.length := by
  induction l with
  | nil => exact Nat.le_refl _
  | cons d r ih =>
    unfold upto at ih ⊢
    rw [List.takeWhile_cons]
    split
    · simpa using ih
    · simp
theorem upto_take (c : Nat) (l : List Nat) : l.take (upto c l).length = upto c l := by
  induction l with
  | nil => rfl
  | cons d r ih =>
    unfold upto at ih ⊢
    rw [List.takeWhile_cons]
    split
    · simp only [List.length_cons, List.take_succ_cons]; rw [ih]
    · rfl
theorem occ_full (s sub : Str) (hi : Nat) : ∀ (l : List Nat) (st : Array Nat × Nat), 1 ≤ st.fst.size → (forIn l st (StrLaws.occBody s sub hi 1)).run = st
  | [], st, h => rfl
  | a :: l, st, h => by
    rw [List.forIn_cons]
    unfold StrLaws.occBody
    rw [if_neg (fun z => by have := z.1.1.1; omega)]
    exact occ_full s sub hi l st h
theorem occ_run (x : Str) (c : Nat) : ∀ (n a f : Nat), a + n = x.length + 1 → f ≤ a →
    (forIn (List.range' a n) ((#[] : Array Nat), f) (StrLaws.occBody x ⟨#[c]⟩ x.length 1)).run.fst.toList =
      if (upto c ((tl x).drop a)).length < ((tl x).drop a).length then [a + (upto c ((tl x).drop a)).length] else []
  | 0, a, f, h, hf => by
    have hx : x.length = (tl x).length := len_tl x
    have e : (tl x).drop a = [] := List.drop_eq_nil_of_le (by omega)
    rw [e]
    rfl
  | n + 1, a, f, h, hf => by
    have hx : x.length = (tl x).length := len_tl x
    rw [List.range'_succ, List.forIn_cons]
    have key := StrLaws.subAt_one x c a
    by_cases hc : (tl x)[a]? = some c
    · have z := key.mpr hc
      have hlt : a < (tl x).length := (List.getElem?_eq_some_iff.mp hc).1
      unfold StrLaws.occBody
      rw [if_pos ⟨⟨⟨by simp, hf⟩, z.1⟩, z.2⟩]
      show ((forIn (List.range' (a + 1) n) ((#[] : Array Nat).push a, a + (⟨#[c]⟩ : Str).length) (StrLaws.occBody x ⟨#[c]⟩ x.length 1)).run).fst.toList = _
      rw [occ_full _ _ _ _ _ (by simp)]
      have e : (tl x).drop a = c :: (tl x).drop (a + 1) := by
        rw [List.drop_eq_getElem_cons hlt]
        rw [(List.getElem?_eq_some_iff.mp hc).2]
      rw [e]
      unfold upto
      rw [List.takeWhile_cons, if_neg (show ¬ decide (c ≠ c) = true by simp)]
      simp
    · have hn : ¬ ((((((#[] : Array Nat), f) : Array Nat × Nat).fst.size < 1 ∧ (((#[] : Array Nat), f) : Array Nat × Nat).snd ≤ a) ∧ a + (⟨#[c]⟩ : Str).length ≤ x.length) ∧ Builtin.Str.subAt x ⟨#[c]⟩ a = true) := fun z => hc (key.mp ⟨z.1.2, z.2⟩)
      have e1 : StrLaws.occBody x ⟨#[c]⟩ x.length 1 a ((#[] : Array Nat), f) = pure (ForInStep.yield ((#[] : Array Nat), f)) := by
        unfold StrLaws.occBody
        rw [if_neg hn]
      rw [e1]
      show ((forIn (List.range' (a + 1) n) ((#[] : Array Nat), f) (StrLaws.occBody x ⟨#[c]⟩ x.length 1)).run).fst.toList = _
      rw [occ_run x c n (a + 1) f (by omega) (by omega)]
      by_cases hlt : a < (tl x).length
      · have e : (tl x).drop a = (tl x)[a] :: (tl x).drop (a + 1) := List.drop_eq_getElem_cons hlt
        have hd : (tl x)[a] ≠ c := fun z => hc (by rw [List.getElem?_eq_getElem hlt, z])
        have e2 : upto c ((tl x).drop a) = (tl x)[a] :: upto c ((tl x).drop (a + 1)) := by
          rw [e]
          unfold upto
          rw [List.takeWhile_cons, if_pos (by simpa using hd)]
        rw [e2, e]
        simp only [List.length_cons, Nat.add_lt_add_iff_right]
        split
        · congr 1; omega
        · rfl
      · have e : (tl x).drop a = [] := List.drop_eq_nil_of_le (by omega)
        have e3 : (tl x).drop (a + 1) = [] := List.drop_eq_nil_of_le (by omega)
        rw [e, e3]
        rfl
theorem find_one (x : Str) (c a : Nat) (ha : a ≤ (tl x).length) : Txt.find3 x ⟨#[c]⟩ (a : Int) = if (upto c ((tl x).drop a)).length < ((tl x).drop a).length then ((a + (upto c ((tl x).drop a)).length : Nat) : Int) else -1 := by
  have hx : x.length = (tl x).length := len_tl x
  have e0 : fromIndex x.length (a : Int) = a := by
    unfold fromIndex
    rw [if_neg (by omega)]
    omega
  unfold Txt.find3
  rw [e0, StrLaws.occ_eq, occ_run x c _ a a (by omega) (Nat.le_refl _)]
  by_cases h : (upto c ((tl x).drop a)).length < ((tl x).drop a).length
  · rw [if_pos h, if_pos h]
  · rw [if_neg h, if_neg h]
theorem lc_str {x : Str} {g : TG} {tt : TT} {te : TE} {vs : List Nat} {σ : L2.St} {H1 : Hp} {D : Addr} {Qd : Hp → Prop} (Pv : Nat → Hp → Prop) (h0 : Pv 0 (upd H1 D (.lst [])))
    (hs : ∀ i c H, (tl x)[i]? = some c → Pv i H → g (.str ⟨#[c]⟩) (wipe σ vs) H fun σ2 H2 => wipe σ2 vs = wipe σ vs ∧ tt σ2 H2 fun b H3 =>
      if b = true then te σ2 H3 fun y H4 => ∃ acc, H4 D = some (.lst acc) ∧ acc.length < sizeLine ∧ Pv (i + 1) (upd H4 D (.lst (acc ++ [y]))) else Pv (i + 1) H3) (hd : ∀ H, Pv (tl x).length H → Qd H) :
    ∃ W : Nat → Nat → Hp → Prop, (∃ m, W 0 m (upd H1 D (.lst []))) ∧ ∀ i m H, W i m H →
      ((Its x).stop i H ∧ Qd H) ∨ ((Its x).go i H ∧ ∃ Nx : Hp → Prop, (∀ H', Nx H' → ∃ m', m' < m ∧ W (i + 1) m' H') ∧ ∀ v H', (Its x).yld i H v H' → g v (wipe σ vs) H' fun σ2 H2 => wipe σ2 vs = wipe σ vs ∧ tt σ2 H2 fun b H3 =>
        if b = true then te σ2 H3 fun y H4 => ∃ acc, H4 D = some (.lst acc) ∧ acc.length < sizeLine ∧ Nx (upd H4 D (.lst (acc ++ [y]))) else Nx H3) := by
  have hx : x.cps.size = (tl x).length := by simp [tl]
  refine ⟨fun i m H => m = (tl x).length - i ∧ i ≤ (tl x).length ∧ Pv i H, ⟨(tl x).length, by simp, Nat.zero_le _, h0⟩, ?_⟩
  rintro i m H ⟨rfl, hi, p⟩
  by_cases hlt : i < (tl x).length
  · refine .inr ⟨(by show i < x.cps.size; omega), Pv (i + 1), fun H' p' => ⟨(tl x).length - (i + 1), by omega, rfl, hlt, p'⟩, fun v H' y => ?_⟩
    obtain ⟨e, c, hc, ev⟩ := y
    subst e
    subst ev
    exact hs i c _ (by rw [Array.getElem?_toList]; exact hc) p
  · have e : i = (tl x).length := by omega
    subst e
    exact .inl ⟨(by show x.cps.size ≤ _; omega), hd H p⟩
structure ErrT (K : PySem.W.Frag) (mg : Str → Option Value) (x : Str) (C : Addr) : Prop where
  gP : mg x = some (.ref C)
  xP : PySem.W.excIn K C [.type "ValueError", .type "Exception", .type "BaseException", .type "object"] "ValueError.__new__" = true
  kP : PySem.W.keepIn K (.ref C) = true
  bP : PySem.W.subIn K (.ref C) (.type "BaseException") = some true
  tP : PySem.W.typeIn K (.ref C) = some (.type "type")
theorem le1 (a b : Nat) : (!decide (([a] : List Nat) < [b])) = decide (b ≤ a) := by
  by_cases h : a < b
  · have e1 : ([a] : List Nat) < [b] := List.Lex.rel h
    rw [decide_eq_true e1, decide_eq_false (by omega)]; rfl
  · have e1 : ¬ ([a] : List Nat) < [b] := by
      intro z
      cases z with
      | cons z => cases z
      | rel z => exact h z
    rw [decide_eq_false e1, decide_eq_true (by omega)]; rfl
theorem take_snoc {α : Type} : ∀ {l : List α} {i : Nat} {x : α}, l[i]? = some x → l.take (i + 1) = l.take i ++ [x]
  | [], i, x, h => by simp at h
  | a :: l, 0, x, h => by
    have e : a = x := Option.some.inj h
    subst e
    rfl
  | a :: l, i + 1, x, h => by
    have ih := take_snoc (l := l) (i := i) (x := x) h
    show a :: l.take (i + 1) = a :: l.take i ++ [x]
    rw [ih]
    rfl
theorem one_eq (c d : Nat) : decide (V.str ⟨#[c]⟩ = V.str ⟨#[d]⟩) = decide (c = d) := by
  by_cases h : c = d
  · subst h; simp
  · rw [decide_eq_false h, decide_eq_false]
    intro e
    have := V.str.inj e
    simp at this
    exact h this
theorem sz1 {n : Nat} (h : n ≤ sizeLine) (m : Nat) (hm : m < n) : m < sizeLine := Nat.lt_of_lt_of_le hm h
theorem same_upd {H H1 : Hp} {p : Addr} {o : HO} (s : Same H H1) (hp : H1 p = none) : Same H (upd H1 p o) := fun b u e => by
  rw [upd_ne (ne_of_none (s b u e) hp)]
  exact s b u e
theorem inV_strs (s : Str) (L : List Str) : inV (V.str s) (L.map V.str) = L.any fun y => y == s := by
  unfold inV
  rw [List.any_map]
  rfl
theorem flat_strs (L : List Str) : (L.map V.str).all flatV = true := by
  rw [List.all_map]
  exact List.all_eq_true.mpr fun _ _ => rfl
theorem strs_at {L : List Str} {i : Nat} {y : V} (h : (L.map V.str)[i]? = some y) : ∃ s, L[i]? = some s ∧ y = V.str s := by
  rw [List.getElem?_map] at h
  cases e : L[i]? with
  | none => rw [e] at h; cases h
  | some s => rw [e] at h; exact ⟨s, rfl, (Option.some.inj h).symm⟩
theorem paired_imp {α β : Type} {R S : α → β → Prop} (h : ∀ a b, R a b → S a b) : ∀ {xs : List α} {ys : List β}, Paired R xs ys → Paired S xs ys
  | _, _, .nil => .nil
  | _, _, .cons r t => .cons (h _ _ r) (paired_imp h t)
theorem paired_snoc {α β : Type} {R : α → β → Prop} {a : α} {b : β} (h : R a b) : ∀ {xs : List α} {ys : List β}, Paired R xs ys → Paired R (xs ++ [a]) (ys ++ [b])
  | _, _, .nil => .cons h .nil
  | _, _, .cons r t => .cons r (paired_snoc h t)
theorem paired_at {α β : Type} {R : α → β → Prop} : ∀ {xs : List α} {ys : List β} {i : Nat} {x : α}, Paired R xs ys → xs[i]? = some x → ∃ y, ys[i]? = some y ∧ R x y
  | _, _, _, _, .nil, e => by simp at e
  | _, _, 0, _, .cons r _, e => by
    have := Option.some.inj e
    subst this
    exact ⟨_, rfl, r⟩
  | _, _, i + 1, _, .cons _ t, e => by
    obtain ⟨y, e1, e2⟩ := paired_at (i := i) t (by simpa using e)
    exact ⟨y, by simpa using e1, e2⟩
theorem paired_len {α β : Type} {R : α → β → Prop} : ∀ {xs : List α} {ys : List β}, Paired R xs ys → xs.length = ys.length
  | _, _, .nil => rfl
  | _, _, .cons _ t => by rw [List.length_cons, List.length_cons, paired_len t]
theorem upto_app {c : Nat} : ∀ {u rest : List Nat}, (∀ d ∈ u, d ≠ c) → upto c (u ++ c :: rest) = u
  | [], rest, _ => by
    unfold upto
    rw [List.nil_append, List.takeWhile_cons, if_neg (by simp)]
  | d :: u, rest, h => by
    have ih := upto_app (c := c) (u := u) (rest := rest) (fun e he => h e (List.mem_cons_of_mem _ he))
    unfold upto at ih ⊢
    rw [List.cons_append, List.takeWhile_cons, if_pos (by simpa using h d (List.mem_cons_self ..)), ih]
theorem upto_step {c : Nat} {l : List Nat} {n d : Nat} (h : l[n]? = some d) (hd : d ≠ c) (hp : n ≤ (upto c l).length) : n + 1 ≤ (upto c l).length := by
  induction l generalizing n with
  | nil => simp at h
  | cons e r ih =>
    unfold upto at ih hp ⊢
    rw [List.takeWhile_cons] at hp ⊢
    cases n with
    | zero =>
      have : e = d := by simpa using h
      subst this
      rw [if_pos (by simpa using hd)]
      simp
    | succ n =>
      by_cases he : decide (e ≠ c) = true
      · rw [if_pos he] at hp ⊢
        have := ih (n := n) (by simpa using h) (by simpa using hp)
        simpa using this
      · rw [if_neg he] at hp
        simp at hp
theorem upto_stop {c : Nat} {l : List Nat} {n : Nat} (hp : n ≤ (upto c l).length) (h : ∀ d, l[n]? = some d → d = c) : n = (upto c l).length := by
  induction l generalizing n with
  | nil => simp [upto] at hp ⊢; exact hp
  | cons e r ih =>
    unfold upto at ih hp ⊢
    rw [List.takeWhile_cons] at hp ⊢
    by_cases he : decide (e ≠ c) = true
    · rw [if_pos he] at hp ⊢
      cases n with
      | zero => exact absurd (h e rfl) (by simpa using he)
      | succ n =>
        have := ih (n := n) (by simpa using hp) (fun d hd => h d (by simpa using hd))
        simpa using this
    · rw [if_neg he] at hp ⊢
      simpa using hp
theorem upto_get {c : Nat} : ∀ {l : List Nat} {n d : Nat}, l[n]? = some d → n < (upto c l).length → (upto c l)[n]? = some d
  | [], n, d, h, _ => by simp at h
  | e :: r, n, d, h, hn => by
    unfold upto at hn ⊢
    rw [List.takeWhile_cons] at hn ⊢
    by_cases he : decide (e ≠ c) = true
    · rw [if_pos he] at hn ⊢
      cases n with
      | zero => exact h
      | succ n =>
        have := upto_get (c := c) (l := r) (n := n) (d := d) (by simpa using h) (by unfold upto; simpa using hn)
        unfold upto at this
        simpa using this
    · rw [if_neg he] at hn
      simp at hn
theorem sum_mem : ∀ {l : List Nat} {n : Nat}, n ∈ l → n ≤ l.sum
  | a :: l, n, h => by
    rw [List.sum_cons]
    rcases List.mem_cons.mp h with rfl | h
    · omega
    · have := sum_mem h
      omega
theorem pss_when {X : Cx} {st : List Stmt} {t : TS} {p : Prop} (h : p → PSs X st t) : PSs X st (fun D σ H => p ∧ t D σ H) := ⟨fun pins s σ H D I ⟨hp, ht⟩ => (h hp).run pins s σ H D I ht⟩
structure CatchT (K : PySem.W.Frag) (mg : Str → Option Value) (CD C : Addr) : Prop where
  gD : mg "DeskError" = some (.ref CD)
  exm : PySem.W.exmOne K (.ref C) (.ref CD) = some true
  ec : ExcC K C
  kC : PySem.W.kitOne K (.ref C) (.ref C) = some true
  kV : PySem.W.kitOne K (.ref C) (.type "ValueError") = some true
  b_VE : mg "ValueError" = none
theorem iteF' {b : Bool} {p q : Prop} (e : b = false) (h : q) : if b = true then p else q := by
  rw [e]; exact h
theorem app_len (s t : Str) : (s ++ t).length = s.length + t.length := by
  have e : tl (s ++ t) = tl s ++ tl t := TL.tl_append s t
  rw [len_tl, e, List.length_append, len_tl, len_tl]
theorem mem_strs {L : List Str} {v : V} (h : v ∈ L.map V.str) : ∃ s, s ∈ L ∧ v = V.str s := by
  obtain ⟨s, h1, h2⟩ := List.mem_map.mp h
  exact ⟨s, h1, h2.symm⟩
theorem mem_cut {xs : List V} {lo hi : Option Int} {v : V} (h : v ∈ cutV xs lo hi) : v ∈ xs := by
  unfold cutV at h
  exact List.mem_of_mem_drop (List.mem_of_mem_take h)
theorem cut_le (xs : List V) (lo hi : Option Int) : (cutV xs lo hi).length ≤ xs.length := by
  unfold cutV
  rw [List.length_take, List.length_drop]
  omega
theorem for_str {x : Str} {g : TG} {tb : TS} {D : Ends} {σ : L2.St} {H : Hp} (Pv : Nat → L2.St → Hp → Prop) (h0 : Pv 0 σ H)
    (hs : ∀ i c σ H, (tl x)[i]? = some c → Pv i σ H → g (.str ⟨#[c]⟩) σ H fun σ2 H2 => tb { D with nx := Pv (i + 1), ct := Pv (i + 1), bk := D.nx } σ2 H2) (hd : ∀ σ H, Pv (tl x).length σ H → D.nx σ H) :
    ∃ W : Nat → Nat → L2.St → Hp → Prop, (∃ m, W 0 m σ H) ∧ ∀ i m σ H, W i m σ H →
      ((Its x).stop i H ∧ D.nx σ H) ∨ ((Its x).go i H ∧ ∃ N : L2.St → Hp → Prop, (∀ σ' H', N σ' H' → ∃ m', m' < m ∧ W (i + 1) m' σ' H') ∧ ∀ v H', (Its x).yld i H v H' → g v σ H' fun σ2 H2 => tb { D with nx := N, ct := N, bk := D.nx } σ2 H2) := by
  have hx : x.cps.size = (tl x).length := by simp [tl]
  refine ⟨fun i m σ H => m = (tl x).length - i ∧ i ≤ (tl x).length ∧ Pv i σ H, ⟨(tl x).length, by simp, Nat.zero_le _, h0⟩, ?_⟩
  rintro i m σ H ⟨rfl, hi, p⟩
  by_cases hlt : i < (tl x).length
  · refine .inr ⟨(by show i < x.cps.size; omega), Pv (i + 1), fun σ' H' p' => ⟨(tl x).length - (i + 1), by omega, rfl, hlt, p'⟩, fun v H' y => ?_⟩
    obtain ⟨e, c, hc, ev⟩ := y
    subst e
    subst ev
    exact hs i c _ _ (by rw [Array.getElem?_toList]; exact hc) p
  · have e : i = (tl x).length := by omega
    subst e
    exact .inl ⟨(by show x.cps.size ≤ _; omega), hd σ H p⟩
theorem lc_filter {x : Str} {σ : L2.St} {H1 : Hp} {D : Addr} {j : Nat} {bad : Nat → Bool} {tt : TT} {Qd : Hp → Prop} (hx : x.length ≤ sizeLine) (hD : H1 D = none)
    (hw : ∀ v, wipe ((wipe σ [j]).set j (some v)) [j] = wipe σ [j]) (hg : ∀ v, ((wipe σ [j]).set j (some v))[j]? = some (some v))
    (ht : ∀ c H' (R : Bool → Hp → Prop), c ∈ tl x → R (bad c) H' → tt ((wipe σ [j]).set j (some (.str ⟨#[c]⟩))) H' R)
    (hd : ∀ H', Same H1 H' → H' D = some (.lst (((tl x).filter bad).map fun c => V.str ⟨#[c]⟩)) → Qd H') :
    ∃ W : Nat → Nat → Hp → Prop, (∃ m, W 0 m (upd H1 D (.lst []))) ∧ ∀ i m H, W i m H →
      ((Its x).stop i H ∧ Qd H) ∨ ((Its x).go i H ∧ ∃ Nx : Hp → Prop, (∀ H', Nx H' → ∃ m', m' < m ∧ W (i + 1) m' H') ∧ ∀ v H', (Its x).yld i H v H' → gName j v (wipe σ [j]) H' fun σ2 H2 => wipe σ2 [j] = wipe σ [j] ∧ tt σ2 H2 fun b H3 =>
        if b = true then tVar j σ2 H3 fun y H4 => ∃ acc, H4 D = some (.lst acc) ∧ acc.length < sizeLine ∧ Nx (upd H4 D (.lst (acc ++ [y]))) else Nx H3) := by
  have hl : x.length = (tl x).length := len_tl x
  refine lc_str (x := x) (fun i H' => H' D = some (.lst ((((tl x).take i).filter bad).map fun c => V.str ⟨#[c]⟩)) ∧ ∀ b, b ≠ D → H' b = H1 b) ⟨upd_same, fun b hb => upd_ne hb⟩ ?_ ?_
  · rintro i c H' hc ⟨h1, h2⟩
    have hi : i < (tl x).length := (List.getElem?_eq_some_iff.mp hc).1
    have et : (tl x).take (i + 1) = (tl x).take i ++ [c] := take_snoc hc
    refine ⟨hw _, ?_⟩
    refine ht c _ _ (List.mem_of_getElem? hc) ?_
    refine ite2 (fun hb => ?_) (fun hb => ?_)
    · refine ⟨_, hg _, _, h1, ?_, ?_, fun b hb => by rw [upd_ne hb]; exact h2 b hb⟩
      · have := List.length_filter_le bad ((tl x).take i)
        rw [List.length_map]
        rw [List.length_take] at this
        omega
      · rw [upd_same, et, List.filter_append, List.map_append]
        simp [hb]
    · refine ⟨?_, h2⟩
      rw [h1, et, List.filter_append, List.map_append]
      simp [hb]
  · rintro H' ⟨h1, h2⟩
    rw [List.take_length] at h1
    refine hd H' (fun b o e => ?_) h1
    have : b ≠ D := fun z => by rw [z, hD] at e; cases e
    rw [h2 b this]; exact e
theorem filt_empty {l : List Nat} {bad : Nat → Bool} : ((l.filter bad).map fun c => V.str ⟨#[c]⟩).isEmpty = l.all fun c => !bad c := by
  induction l with
  | nil => rfl
  | cons c r ih =>
    rw [List.filter_cons, List.all_cons]
    by_cases h : bad c = true
    · rw [if_pos h, h]; rfl
    · rw [if_neg h, ih]
      have : bad c = false := by simpa using h
      rw [this]; rfl
theorem fmod_nat (a b : Nat) : Int.fmod (a : Int) (b : Int) = ((a % b : Nat) : Int) := by
  rw [Int.fmod_eq_emod_of_nonneg _ (by omega)]; rfl
theorem log_small (n : Nat) (h : n ≤ 10000000) : ((n : Nat) : Int).natAbs.log2 < 1920 := by
  rw [Int.natAbs_natCast]
  by_cases h0 : n = 0
  · subst h0; decide
  · have := (Nat.log2_lt h0 (k := 1920)).mpr (by
      have : (10000000 : Nat) < 2 ^ 1920 := by decide +kernel
      omega)
    exact this
theorem num_len {n : Nat} (h : n ≤ 9999999) : (TL.numL n).length ≤ 7 := TL.numL_len (by decide) (by omega)
theorem iteT' {b : Bool} {p q : Prop} (e : b = true) (h : p) : if b = true then p else q := by
  rw [e]; exact h
theorem joinL_flat : ∀ L : List (List Nat), TL.joinL [] L = L.flatten
  | [] => rfl
  | [p] => by simp [TL.joinL]
  | p :: q :: r => by
    show p ++ ([] ++ TL.joinL [] (q :: r)) = _
    rw [joinL_flat (q :: r)]; simp
theorem join_flat (L : List (List Nat)) : Txt.join (Str.ofString "") (L.map mkS) = mkS L.flatten := by
  refine TL.ext_tl ?_
  rw [TL.join_eq, TL.tl_join, List.map_map]
  show TL.joinL [] (L.map fun l => tl (mkS l)) = L.flatten
  rw [List.map_id'' (f := fun l => tl (mkS l)) (fun _ => rfl), joinL_flat]
theorem sum_le {ys : List Str} {B : Nat} (h : ∀ y ∈ ys, y.length ≤ B) : (ys.map (·.length)).sum ≤ ys.length * B := by
  induction ys with
  | nil => exact Nat.zero_le _
  | cons y r ih =>
    have h1 := h y (List.mem_cons_self ..)
    have h2 := ih fun z hz => h z (List.mem_cons_of_mem _ hz)
    rw [List.map_cons, List.sum_cons, List.length_cons, Nat.add_mul]
    omega
theorem cut_pre (x : Str) (n : Nat) : cutS x none (some (n : Int)) = mkS ((tl x).take n) := by
  have e : cutS x none (some (n : Int)) = cutS x (some ((0 : Nat) : Int)) (some (n : Int)) := by
    have e1 : HT.sIx x.length 0 (some ((0 : Nat) : Int)) = 0 := by
      show (if (((0 : Nat) : Int)) < 0 then (((0 : Nat) : Int) + (x.length : Int)).toNat else min (((0 : Nat) : Int)).toNat x.length) = _
      rw [if_neg (by omega)]
      show min 0 x.length = 0
      omega
    unfold cutS
    rw [e1]
    rfl
  rw [e, cut_any, List.drop_zero, Nat.sub_zero]
theorem fit_cut {z : Str} {l u : Option Int} {n : Nat} (h : z.length ≤ n) : (cutS z l u).length ≤ n := Nat.le_trans (cutS_length z l u) h
theorem fit_app {s t : Str} {a b n : Nat} (h : s.length ≤ a) (g : t.length ≤ b) (k : a + b ≤ n) : (s ++ t).length ≤ n := by rw [app_len]; omega
theorem fit_add {s t : Str} {a b : Nat} (h : s.length ≤ a) (g : t.length ≤ b) (k : a + b ≤ 16777216) : s.length + t.length ≤ sizeLine := by rw [sizeLine_eq]; omega
theorem ne_self (x : V) : (!decide (x = x)) = false := by rw [decide_eq_true rfl]; rfl
theorem ite_val {c : Bool} {x y : V} {A B : VK → Prop} {Q : VK} {H : Hp} (hA : ∀ Q : VK, Q x H → A Q) (hB : ∀ Q : VK, Q y H → B Q) (h : Q (if c = true then x else y) H) : if c = true then A Q else B Q := by
  cases c
  · exact hB _ h
  · exact hA _ h
/-! ### steps: one lemma for each construct, by its head -/
section steps
variable {σ : L2.St} {H : Hp} {D : Ends}
theorem w_start {t : TS} {σ' : L2.St} (e : σ = σ') (h : t D σ' H) : t D σ H := by subst e; exact h
theorem w_seq {t u : TS} (h : t { D with nx := u D } σ H) : tSeq t u D σ H := h
theorem w_asg {te : TE} {g : TG} (h : te σ H fun x H1 => g x σ H1 D.nx) : tAsg te g D σ H := h
theorem w_drop {te : TE} (h : te σ H fun _ H1 => D.nx σ H1) : tDrop te D σ H := h
theorem w_ret {te : TE} (h : te σ H D.rt) : tRet te D σ H := h
theorem w_retN (h : D.rt .non H) : tRetN D σ H := h
theorem w_next (h : D.nx σ H) : tNext D σ H := h
theorem w_break (h : D.bk σ H) : tBreak D σ H := h
theorem w_cont (h : D.ct σ H) : tCont D σ H := h
theorem w_ifS {c : TT} {t u : TS} (h : c σ H fun b H1 => if b = true then t D σ H1 else u D σ H1) : tIfS c t u D σ H := h
theorem w_while {c : TT} {tb : TS} (h : ∃ W : Nat → L2.St → Hp → Prop, (∃ m, W m σ H) ∧ ∀ m σ H, W m σ H → c σ H fun b H1 => if b = true then ∃ N : L2.St → Hp → Prop, (∀ σ' H', N σ' H' → ∃ m', m' < m ∧ W m' σ' H') ∧ tb { D with nx := N, ct := N, bk := D.nx } σ H1 else D.nx σ H1) : tWhile c tb D σ H := h
theorem w_name {i : Nat} {v : V} {σ' : L2.St} {Q : L2.St → Hp → Prop} (e : σ.set i (some v) = σ') (h : Q σ' H) : gName i v σ H Q := by subst e; exact h
theorem w_sub {to ti : TE} {t : TSet} {v : V} {Q : L2.St → Hp → Prop} (h : to σ H fun o H1 => ti σ H1 fun i H2 => t o i v H2 fun H3 => Q σ H3) : gSub to ti t v σ H Q := h
theorem w_var {i : Nat} {v : V} {Q : VK} (h : σ[i]? = some (some v)) (k : Q v H) : tVar i σ H Q := ⟨v, h, k⟩
theorem w_c {v : V} {Q : VK} (k : Q v H) : tC v σ H Q := k
theorem w_op {r : R2} {ta tb : TE} {Q : VK} (h : ta σ H fun x H1 => tb σ H1 fun y H2 => r x y H2 Q) : tOp r ta tb σ H Q := h
theorem w_un {r : V → Hp → VK → Prop} {ta : TE} {Q : VK} (h : ta σ H fun x H1 => r x H1 Q) : tUn r ta σ H Q := h
theorem w_test {t : TE} {Q : Bool → Hp → Prop} (h : t σ H fun x H' => ∃ k, x = .bl k ∧ Q k H') : tTest t σ H Q := h
theorem w_B {t : TE} {Q : Bool → Hp → Prop} (h : t σ H fun x H1 => ∃ c, x = .bl c ∧ Q c H1) : tB t σ H Q := h
theorem w_yes {Q : Bool → Hp → Prop} (h : Q true H) : tYes σ H Q := h
theorem w_not {t : TT} {Q : Bool → Hp → Prop} (h : t σ H fun c H1 => Q (!c) H1) : tNot t σ H Q := h
theorem w_and {t u : TT} {Q : Bool → Hp → Prop} (h : t σ H fun c H1 => if c = true then u σ H1 Q else Q false H1) : tAnd t u σ H Q := h
theorem w_or {t u : TT} {Q : Bool → Hp → Prop} (h : t σ H fun c H1 => if c = true then Q true H1 else u σ H1 Q) : tOr t u σ H Q := h
theorem w_andV {ta tb : TE} {Q : VK} (h : ta σ H fun x H1 => ∃ c, x = .bl c ∧ if c = true then tb σ H1 Q else Q (.bl false) H1) : tAndV ta tb σ H Q := h
theorem w_orV {ta tb : TE} {Q : VK} (h : ta σ H fun x H1 => ∃ c, x = .bl c ∧ if c = true then Q (.bl true) H1 else tb σ H1 Q) : tOrV ta tb σ H Q := h
theorem w_notV {ta : TE} {Q : VK} (h : ta σ H fun x H1 => ∃ c, x = .bl c ∧ Q (.bl (!c)) H1) : tNotV ta σ H Q := h
theorem w_ifE {t : TT} {ta tb : TE} {Q : VK} (h : t σ H fun c H1 => if c = true then ta σ H1 Q else tb σ H1 Q) : tIf t ta tb σ H Q := h
theorem w_nil {Q : List V → Hp → Prop} (h : Q [] H) : tNil σ H Q := h
theorem w_cons {ta : TE} {tr : TA} {Q : List V → Hp → Prop} (h : ta σ H fun x H1 => tr σ H1 fun xs H2 => Q (x :: xs) H2) : tCons ta tr σ H Q := h
theorem w_call {sp : Sp} {dvs : List V} {E : XK} {t : TA} {Q : VK} (h : t σ H fun vs H1 => sp (vs ++ dvs) H1 Q E) : tCall sp dvs E t σ H Q := h
theorem w_callS {sp : Sp} {E : L2.St → XK} {t : TA} {Q : VK} (h : t σ H fun vs H1 => sp vs H1 Q (E σ)) : tCallS sp E t σ H Q := h
theorem w_cB {r : List V → Hp → VK → Prop} {t : TA} {Q : VK} (h : t σ H fun vs H1 => r vs H1 Q) : tCB r t σ H Q := h
theorem w_lst {t : TA} {Q : VK} (h : t σ H fun xs H1 => xs.length ≤ sizeLine ∧ ∀ p, H1 p = none → Q (.ref p) (upd H1 p (.lst xs))) : tLst t σ H Q := h
theorem w_tup {t : TA} {Q : VK} (h : t σ H fun xs H1 => xs.length ≤ sizeLine ∧ ∀ p, H1 p = none → Q (.ref p) (upd H1 p (.tup xs))) : tTup t σ H Q := h
theorem w_sl {r : V → Option Int → Option Int → Hp → VK → Prop} {te : TE} {tl th : TO} {Q : VK} (h : te σ H fun x H1 => tl σ H1 fun l H2 => th σ H2 fun u H3 => r x l u H3 Q) : tSl r te tl th σ H Q := h
theorem w_noPart {Q : Option Int → Hp → Prop} (h : Q none H) : tNoPart σ H Q := h
theorem w_part {t : TE} {Q : Option Int → Hp → Prop} (h : t σ H fun x H1 => ∃ i, x = .int i ∧ Q (some i) H1) : tPart t σ H Q := h
theorem w_bm {K : PySem.W.Frag} {T : String} {r : V → List V → Hp → VK → Prop} {to : TE} {t : TA} {Q : VK} (h : to σ H fun x H1 => tyV K T x H1 ∧ t σ H1 fun xs H2 => r x xs H2 Q) : tBM K T r to t σ H Q := h
theorem w_bm0 {K : PySem.W.Frag} {T : String} {r : V → List V → Hp → VK → Prop} {to : TE} {Q : VK} (h : to σ H fun x H1 => tyV K T x H1 ∧ r x [] H1 Q) : tBM0 K T r to σ H Q := h
theorem w_strTy {K : PySem.W.Frag} {s : Str} {P : Prop} (h : P) : tyV K "str" (.str s) H ∧ P := ⟨rfl, h⟩
theorem w_lstTy {K : PySem.W.Frag} {a : Addr} {xs : List V} {P : Prop} (e : H a = some (.lst xs)) (h : P) : tyV K "list" (.ref a) H ∧ P := ⟨.inl ⟨rfl, _, SqL.of e⟩, h⟩
theorem w_bl {b : Bool} {Q : Bool → Prop} (h : Q b) : ∃ k, V.bl b = V.bl k ∧ Q k := ⟨b, rfl, h⟩
theorem w_int1 {i : Int} {Q : Int → Prop} (h : Q i) : ∃ k, V.int i = V.int k ∧ Q k := ⟨i, rfl, h⟩
theorem w_str1 {i : Str} {Q : Str → Prop} (h : Q i) : ∃ k, V.str i = V.str k ∧ Q k := ⟨i, rfl, h⟩
theorem w_rI0 {g : Int → Int → V} {i j : Int} {Q : VK} (h : Q (g i j) H) : rI0 g (.int i) (.int j) H Q := ⟨i, j, rfl, rfl, h⟩
theorem w_rI {C : Int → Int → Prop} {g : Int → Int → V} {i j : Int} {Q : VK} (c : C i j) (h : Q (g i j) H) : rI C g (.int i) (.int j) H Q := ⟨i, j, rfl, rfl, c, h⟩
theorem w_rU {g : Int → V} {i : Int} {Q : VK} (h : Q (g i) H) : rU g (.int i) H Q := ⟨i, rfl, h⟩
theorem w_eqI {i j : Int} {Q : VK} (h : Q (.bl (decide (V.int i = V.int j))) H) : rEq (.int i) (.int j) H Q := ⟨rfl, h⟩
theorem w_eqS {i j : Str} {Q : VK} (h : Q (.bl (decide (V.str i = V.str j))) H) : rEq (.str i) (.str j) H Q := ⟨rfl, h⟩
theorem w_neI {i j : Int} {Q : VK} (h : Q (.bl (!decide (V.int i = V.int j))) H) : rNe (.int i) (.int j) H Q := ⟨rfl, h⟩
theorem w_neS {i j : Str} {Q : VK} (h : Q (.bl (!decide (V.str i = V.str j))) H) : rNe (.str i) (.str j) H Q := ⟨rfl, h⟩
theorem w_ixL {K : PySem.W.Frag} {p : Addr} {xs : List V} {i : Int} {v : V} {Q : VK} (h : H p = some (.lst xs)) (a : atI xs i = some v) (k : Q v H) : rIxL K (.ref p) (.int i) H Q := ⟨p, xs, i, v, rfl, rfl, SqL.of h, a, k⟩
theorem w_ixT {K : PySem.W.Frag} {p : Addr} {xs : List V} {i : Int} {v : V} {Q : VK} (h : H p = some (.tup xs)) (a : atI xs i = some v) (k : Q v H) : rIxT K (.ref p) (.int i) H Q := ⟨p, xs, i, v, rfl, rfl, SqT.of h, a, k⟩
theorem w_ixS {z : Str} {i : Int} {c : Nat} {Q : VK} (h : z.length ≤ sizeLine) (a : atI z.cps.toList i = some c) (k : Q (.str ⟨#[c]⟩) H) : rIxS (.str z) (.int i) H Q := ⟨z, i, c, rfl, rfl, h, a, k⟩
theorem w_slS {z : Str} {l u : Option Int} {Q : VK} (h : z.length ≤ sizeLine) (k : Q (.str (cutS z l u)) H) : rSlS (.str z) l u H Q := ⟨z, rfl, h, k⟩
theorem w_lenS {K : PySem.W.Frag} {z : Str} {R : Nat → Prop} (h : z.length ≤ sizeLine) (k : R z.length) : ∃ (x : V) (n : Nat), [V.str z] = [x] ∧ LenV K x H n ∧ R n := ⟨_, _, rfl, ⟨h, rfl⟩, k⟩
theorem w_lenL {K : PySem.W.Frag} {p : Addr} {xs : List V} {R : Nat → Prop} (h : H p = some (.lst xs)) (k : R xs.length) : ∃ (x : V) (n : Nat), [V.ref p] = [x] ∧ LenV K x H n ∧ R n := ⟨_, _, rfl, .inl ⟨_, SqL.of h, rfl⟩, k⟩
theorem w_lenT {K : PySem.W.Frag} {p : Addr} {xs : List V} {R : Nat → Prop} (h : H p = some (.tup xs)) (k : R xs.length) : ∃ (x : V) (n : Nat), [V.ref p] = [x] ∧ LenV K x H n ∧ R n := ⟨_, _, rfl, .inr ⟨_, SqT.of h, rfl⟩, k⟩
theorem w_append {p : Addr} {xs : List V} {y : V} {Q : VK} (h : H p = some (.lst xs)) (l : xs.length < sizeLine) (k : Q .non (upd H p (.lst (xs ++ [y])))) : rAppend (.ref p) [y] H Q := ⟨p, xs, y, rfl, rfl, h, l, k⟩
theorem w_addS {i j : Str} {R : Str → Str → Prop} (l : i.length + j.length ≤ sizeLine) (k : R i j) : ∃ x y, V.str i = V.str x ∧ V.str j = V.str y ∧ x.length + y.length ≤ sizeLine ∧ R x y := ⟨i, j, rfl, rfl, l, k⟩
theorem w_bl2 {a b : Bool} {Q : Bool → Bool → Prop} (k : Q a b) : ∃ x y, V.bl a = V.bl x ∧ V.bl b = V.bl y ∧ Q x y := ⟨a, b, rfl, rfl, k⟩
theorem w_isN {P : Prop} (k : P) : V.non = .non ∧ P := ⟨rfl, k⟩
theorem w_listOf {K : PySem.W.Frag} {p : Addr} {ys : List V} {R : List V → Prop} (h : H p = some (.lst ys)) (k : R ys) : ∃ p' ys', [V.ref p] = [.ref p'] ∧ (SqL K H p' ys' ∨ SqT K H p' ys') ∧ R ys' := ⟨p, ys, rfl, .inl (SqL.of h), k⟩
theorem w_strOf {i : Int} {R : Int → Prop} (l : i.natAbs.log2 < 1920) (k : R i) : ∃ j, [V.int i] = [.int j] ∧ j.natAbs.log2 < 1920 ∧ R j := ⟨i, rfl, l, k⟩
theorem w_iT {b : Bool} {p q : Prop} (e : b = true) (h : p) : if b = true then p else q := by rw [e]; exact h
theorem w_iF {b : Bool} {p q : Prop} (e : b = false) (h : q) : if b = true then p else q := by rw [e]; exact h
theorem same_at {H H' : Hp} (s : Same H H') {a : Addr} {o : HO} (h : H a = some o) : H' a = some o := s _ _ h
theorem upd_at {H : Hp} {a b : Addr} {o u : HO} (n : b ≠ a) (h : H b = some u) : upd H a o b = some u := by rw [upd_ne n]; exact h
theorem upd_atN {H : Hp} {a b : Addr} {o u : HO} (f : H a = none) (h : H b = some u) : upd H a o b = some u := by rw [upd_ne (ne_of_none h f)]; exact h
theorem same_new {H H1 : Hp} {p : Addr} {o : HO} (s : Same H H1) (hp : H1 p = none) : Same H (upd H1 p o) := fun b u e => by
  rw [upd_ne (ne_of_none (s b u e) hp)]
  exact s b u e
theorem w_for {wi : TI} {g : TG} {tb : TS} (h : wi σ H fun J H1 => ∃ W : Nat → Nat → L2.St → Hp → Prop, (∃ m, W 0 m σ H1) ∧ ∀ i m σ H, W i m σ H →
  (J.stop i H ∧ D.nx σ H) ∨ (J.go i H ∧ ∃ N : L2.St → Hp → Prop, (∀ σ' H', N σ' H' → ∃ m', m' < m ∧ W (i + 1) m' σ' H') ∧ ∀ x H', J.yld i H x H' → g x σ H' fun σ2 H2 => tb { D with nx := N, ct := N, bk := D.nx } σ2 H2)) : tFor wi g tb D σ H := h
theorem w_lc {wi : TI} {g : TG} {tt : TT} {te : TE} {vs : List Nat} {Q : VK} (h : wi σ H fun J H1 => ∀ D, H1 D = none → ∃ W : Nat → Nat → Hp → Prop, (∃ m, W 0 m (upd H1 D (.lst []))) ∧ ∀ i m H, W i m H →
  (J.stop i H ∧ Q (.ref D) H) ∨ (J.go i H ∧ ∃ Nx : Hp → Prop, (∀ H', Nx H' → ∃ m', m' < m ∧ W (i + 1) m' H') ∧ ∀ x H', J.yld i H x H' → g x (wipe σ vs) H' fun σ2 H2 => wipe σ2 vs = wipe σ vs ∧ tt σ2 H2 fun b H3 =>
    if b = true then te σ2 H3 fun y H4 => ∃ acc, H4 D = some (.lst acc) ∧ acc.length < sizeLine ∧ Nx (upd H4 D (.lst (acc ++ [y]))) else Nx H3)) : tLc wi g tt te vs σ H Q := h
theorem w_iRng1 {ta : TA} {R : L2.It → Hp → Prop} (h : ta σ H fun vs H1 => ∃ j : Int, vs = [.int j] ∧ -(2 ^ 62) ≤ j ∧ j < 2 ^ 62 ∧ R (Itr 0 j.toNat) H1) : iRng1 ta σ H R := h
theorem w_iRng2 {ta : TA} {R : L2.It → Hp → Prop} (h : ta σ H fun vs H1 => ∃ i j : Int, vs = [.int i, .int j] ∧ (-(2 ^ 62) ≤ i ∧ i < 2 ^ 62 ∧ -(2 ^ 62) ≤ j ∧ j < 2 ^ 62) ∧ R (Itr i (j - i).toNat) H1) : iRng2 ta σ H R := h
theorem w_rng1 {i : Int} {R : Int → Prop} (b1 : -(2 ^ 62) ≤ i) (b2 : i < 2 ^ 62) (h : R i) : ∃ j : Int, [V.int i] = [.int j] ∧ -(2 ^ 62) ≤ j ∧ j < 2 ^ 62 ∧ R j := ⟨_, rfl, b1, b2, h⟩
theorem w_iList {K : PySem.W.Frag} {tl : TE} {R : L2.It → Hp → Prop} (h : tl σ H fun x H1 => ∃ a, x = .ref a ∧ (∃ xs, SqL K H1 a xs) ∧ R (Itl K a) H1) : iList K tl σ H R := h
theorem w_iTup {K : PySem.W.Frag} {tl : TE} {R : L2.It → Hp → Prop} (h : tl σ H fun x H1 => ∃ a, x = .ref a ∧ (∃ xs, SqT K H1 a xs) ∧ R (Itt K a) H1) : iTup K tl σ H R := h
theorem w_iStr {te : TE} {R : L2.It → Hp → Prop} (h : te σ H fun v H1 => ∃ x, v = .str x ∧ R (Its x) H1) : iStr te σ H R := h
theorem w_wipe {σ' : L2.St} {vs : List Nat} {P : Prop} (e : wipe σ vs = wipe σ' vs) (h : P) : wipe σ vs = wipe σ' vs ∧ P := ⟨e, h⟩
theorem w_acc {D : Addr} {acc : List V} {R : List V → Prop} (h : H D = some (.lst acc)) (l : acc.length < sizeLine) (k : R acc) : ∃ acc, H D = some (.lst acc) ∧ acc.length < sizeLine ∧ R acc := ⟨acc, h, l, k⟩
theorem w_itl {K : PySem.W.Frag} {a : Addr} {xs : List V} {R : Addr → Prop} (h : H a = some (.lst xs)) (k : R a) : ∃ b, V.ref a = V.ref b ∧ (∃ xs, SqL K H b xs) ∧ R b := ⟨a, rfl, ⟨_, SqL.of h⟩, k⟩
theorem w_itt {K : PySem.W.Frag} {a : Addr} {xs : List V} {R : Addr → Prop} (h : H a = some (.tup xs)) (k : R a) : ∃ b, V.ref a = V.ref b ∧ (∃ xs, SqT K H b xs) ∧ R b := ⟨a, rfl, ⟨_, SqT.of h⟩, k⟩
theorem w_M1 {r : V → List V → Hp → VK → Prop} {to te : TE} {Q : VK} (h : to σ H fun x H1 => (∃ a, x = .str a) ∧ te σ H1 fun y H2 => r x [y] H2 Q) : tM1 r to te σ H Q := h
theorem w_M0 {r : V → List V → Hp → VK → Prop} {to : TE} {Q : VK} (h : to σ H fun x H1 => (∃ a, x = .str a) ∧ r x [] H1 Q) : tM0 r to σ H Q := h
theorem w_isS {s : Str} {P : Prop} (h : P) : (∃ a, V.str s = .str a) ∧ P := ⟨⟨s, rfl⟩, h⟩
theorem w_Fld {K : PySem.W.Frag} {ta : TE} {f : Str} {Q : VK} (h : ta σ H fun x H1 => ∃ a C dx fs v, x = .ref a ∧ H1 a = some (.ins C dx fs) ∧ Cls K C ∧ NoAttr K C f ∧ fs.lookup f = some v ∧ Q v H1) : tFld K ta f σ H Q := h
theorem w_fld1 {K : PySem.W.Frag} {a C dx : Addr} {f : Str} {fs : List (Str × V)} {v : V} {R : V → Prop} (h : H a = some (.ins C dx fs)) (c : Cls K C) (n : NoAttr K C f) (l : fs.lookup f = some v) (k : R v) : ∃ a' C' dx' fs' v', V.ref a = .ref a' ∧ H a' = some (.ins C' dx' fs') ∧ Cls K C' ∧ NoAttr K C' f ∧ fs'.lookup f = some v' ∧ R v' := ⟨a, C, dx, fs, v, rfl, h, c, n, l, k⟩
theorem w_sFld {K : PySem.W.Frag} {ta tv : TE} {f : Str} (h : tv σ H fun y H1 => ta σ H1 fun x H2 => ∃ a C dx fs, x = .ref a ∧ H2 a = some (.ins C dx fs) ∧ Cls K C ∧ NoAttr K C f ∧ fs.length < 1000 ∧ D.nx σ (upd H2 a (.ins C dx (putF f y fs)))) : sFld K ta tv f D σ H := h
theorem w_sfld1 {K : PySem.W.Frag} {a C dx : Addr} {f : Str} {fs : List (Str × V)} {R : Addr → Addr → Addr → List (Str × V) → Prop} (h : H a = some (.ins C dx fs)) (c : Cls K C) (n : NoAttr K C f) (l : fs.length < 1000) (k : R a C dx fs) : ∃ a' C' dx' fs', V.ref a = .ref a' ∧ H a' = some (.ins C' dx' fs') ∧ Cls K C' ∧ NoAttr K C' f ∧ fs'.length < 1000 ∧ R a' C' dx' fs' := ⟨a, C, dx, fs, rfl, h, c, n, l, k⟩
theorem w_dget {td ty : TE} {Q : VK} (h : td σ H fun x H1 => ty σ H1 fun y H2 => ∃ a v, x = .ref a ∧ DGet H2 a y (some v) ∧ Q v H2) : tDGet td ty σ H Q := h
theorem w_dgetS {a : Addr} {kvs : List (Key × V)} {x : Str} {v : V} {R : V → Prop} (h : H a = some (.dK kvs)) (e : valV kvs (Sum.inr x : Key) = some v) (k : R v) : ∃ a' v', V.ref a = .ref a' ∧ DGet H a' (.str x) (some v') ∧ R v' := ⟨a, v, rfl, e ▸ DGet.k (k := Sum.inr x) h, k⟩
theorem w_dgetI {a : Addr} {kvs : List (Key × V)} {x : Int} {v : V} {R : V → Prop} (h : H a = some (.dK kvs)) (e : valV kvs (Sum.inl x : Key) = some v) (k : R v) : ∃ a' v', V.ref a = .ref a' ∧ DGet H a' (.int x) (some v') ∧ R v' := ⟨a, v, rfl, e ▸ DGet.k (k := Sum.inl x) h, k⟩
theorem w_dIn {ty td : TE} {Q : VK} (h : ty σ H fun y H1 => td σ H1 fun x H2 => ∃ a o, x = .ref a ∧ DGet H2 a y o ∧ Q (.bl o.isSome) H2) : tDIn ty td σ H Q := h
theorem w_dNotIn {ty td : TE} {Q : VK} (h : ty σ H fun y H1 => td σ H1 fun x H2 => ∃ a o, x = .ref a ∧ DGet H2 a y o ∧ Q (.bl (!o.isSome)) H2) : tDNotIn ty td σ H Q := h
theorem w_dinS {a : Addr} {kvs : List (Key × V)} {x : Str} {R : Option V → Prop} (h : H a = some (.dK kvs)) (k : R (valV kvs (Sum.inr x : Key))) : ∃ a' o, V.ref a = .ref a' ∧ DGet H a' (.str x) o ∧ R o := ⟨a, _, rfl, DGet.k (k := Sum.inr x) h, k⟩
theorem w_sDPut {td ty tv : TE} (h : tv σ H fun v H1 => td σ H1 fun x H2 => ty σ H2 fun y H3 => ∃ a H4, x = .ref a ∧ DPut H3 a y v H4 ∧ D.nx σ H4) : sDPut td ty tv D σ H := h
theorem w_dputI {a : Addr} {kvs : List (Key × V)} {x : Int} {v : V} {R : Hp → Prop} (h : H a = some (.dK kvs)) (l : kvs.length < sizeLine) (k : R (upd H a (.dK (putK kvs (Sum.inl x : Key) v)))) : ∃ a' H', V.ref a = .ref a' ∧ DPut H a' (.int x) v H' ∧ R H' := ⟨a, _, rfl, DPut.k (k := Sum.inl x) h l, k⟩
theorem w_dputS {a : Addr} {kvs : List (Key × V)} {x : Str} {v : V} {R : Hp → Prop} (h : H a = some (.dK kvs)) (l : kvs.length < sizeLine) (k : R (upd H a (.dK (putK kvs (Sum.inr x : Key) v)))) : ∃ a' H', V.ref a = .ref a' ∧ DPut H a' (.str x) v H' ∧ R H' := ⟨a, _, rfl, DPut.k (k := Sum.inr x) h l, k⟩
theorem w_dnewK {Q : VK} (k : ∀ p, H p = none → Q (.ref p) (upd H p (.dK []))) : tDNewK σ H Q := k
theorem w_meth {C : Addr} {m : Str} {sp : Sp} {dvs : List V} {E : XK} {ta : TE} {t : TA} {Q : VK} (h : ta σ H fun x H1 => ∃ a dx fs, x = .ref a ∧ H1 a = some (.ins C dx fs) ∧ fs.lookup m = none ∧ t σ H1 fun vs H2 => sp (x :: (vs ++ dvs)) H2 Q E) : tMeth C m sp dvs E ta t σ H Q := h
theorem w_meth1 {a C dx : Addr} {m : Str} {fs : List (Str × V)} {P : Prop} (h : H a = some (.ins C dx fs)) (l : fs.lookup m = none) (k : P) : ∃ a' dx' fs', V.ref a = .ref a' ∧ H a' = some (.ins C dx' fs') ∧ fs'.lookup m = none ∧ P := ⟨a, dx, fs, rfl, h, l, k⟩
theorem w_make {C : Addr} {sp : Sp} {dvs : List V} {E : XK} {t : TA} {Q : VK} (h : t σ H fun vs H1 => ∀ x dx, H1 x = none → H1 dx = none → dx ≠ x → sp (.ref x :: (vs ++ dvs)) (upd (upd H1 dx (.own x)) x (.ins C dx [])) (fun v H2 => v = .non ∧ Q (.ref x) H2) E) : tMake C sp dvs E t σ H Q := h
end steps
theorem sc_check_of : FnScope ["text", "found", "sign"] ["text"] (defScope s_check_of) := ⟨rfl, rfl, rfl, by decide +kernel, rfl, by decide +kernel, by decide +kernel⟩
theorem sc_checked_text : FnScope ["text", "sign"] ["text"] (defScope s_checked_text) := ⟨rfl, rfl, rfl, by decide +kernel, rfl, by decide +kernel, by decide +kernel⟩
theorem sc_framed : FnScope ["text"] ["text"] (defScope s_framed) := ⟨rfl, rfl, rfl, by decide +kernel, rfl, by decide +kernel, by decide +kernel⟩
theorem sc__number : FnScope ["text", "at", "end", "word", "sign"] ["text", "at"] (defScope s__number) := ⟨rfl, rfl, rfl, by decide +kernel, rfl, by decide +kernel, by decide +kernel⟩
theorem sc_one_frame : FnScope ["text", "at", "first", "second", "start", "end", "inside"] ["text", "at"] (defScope s_one_frame) := ⟨rfl, rfl, rfl, by decide +kernel, rfl, by decide +kernel, by decide +kernel⟩
theorem sc_is_number : FnScope ["value", "least", "most"] ["value", "least", "most"] (defScope s_is_number) := ⟨rfl, rfl, rfl, by decide +kernel, rfl, by decide +kernel, by decide +kernel⟩
theorem sc_checked_number : FnScope ["value", "least", "most"] ["value", "least", "most"] (defScope s_checked_number) := ⟨rfl, rfl, rfl, by decide +kernel, rfl, by decide +kernel, by decide +kernel⟩
theorem sc_snap_name : FnScope ["number", "word"] ["number"] (defScope s_snap_name) := ⟨rfl, rfl, rfl, by decide +kernel, rfl, by decide +kernel, by decide +kernel⟩
theorem sc_is_snap : FnScope ["name", "figures", "sign"] ["name"] (defScope s_is_snap) := ⟨rfl, rfl, rfl, by decide +kernel, rfl, by decide +kernel, by decide +kernel⟩
theorem sc_snap_names : FnScope ["disk", "name"] ["disk"] (defScope s_snap_names) := ⟨rfl, rfl, rfl, by decide +kernel, rfl, by decide +kernel, by decide +kernel⟩
theorem sc_number_of : FnScope ["name"] ["name"] (defScope s_number_of) := ⟨rfl, rfl, rfl, by decide +kernel, rfl, by decide +kernel, by decide +kernel⟩
theorem sc_write_aside : FnScope ["disk", "text", "body"] ["disk", "text"] (defScope s_write_aside) := ⟨rfl, rfl, rfl, by decide +kernel, rfl, by decide +kernel, by decide +kernel⟩
theorem sc_name_it : FnScope ["disk", "number"] ["disk", "number"] (defScope s_name_it) := ⟨rfl, rfl, rfl, by decide +kernel, rfl, by decide +kernel, by decide +kernel⟩
theorem sc_save : FnScope ["disk", "number", "text"] ["disk", "number", "text"] (defScope s_save) := ⟨rfl, rfl, rfl, by decide +kernel, rfl, by decide +kernel, by decide +kernel⟩
theorem sc_drop_older : FnScope ["disk", "number", "old", "name"] ["disk", "number"] (defScope s_drop_older) := ⟨rfl, rfl, rfl, by decide +kernel, rfl, by decide +kernel, by decide +kernel⟩
theorem sc_whole_snap : FnScope ["disk", "name", "text", "frame"] ["disk", "name"] (defScope s_whole_snap) := ⟨rfl, rfl, rfl, by decide +kernel, rfl, by decide +kernel, by decide +kernel⟩
theorem sc_load : FnScope ["disk", "name", "text"] ["disk"] (defScope s_load) := ⟨rfl, rfl, rfl, by decide +kernel, rfl, by decide +kernel, by decide +kernel⟩
theorem sc_clean : FnScope ["disk", "told", "gone", "name"] ["disk"] (defScope s_clean) := ⟨rfl, rfl, rfl, by decide +kernel, rfl, by decide +kernel, by decide +kernel⟩
theorem sc_Disk___init__ : FnScope ["self"] ["self"] (defScope s_Disk___init__) := ⟨rfl, rfl, rfl, by decide +kernel, rfl, by decide +kernel, by decide +kernel⟩
theorem sc_Disk_names : FnScope ["self"] ["self"] (defScope s_Disk_names) := ⟨rfl, rfl, rfl, by decide +kernel, rfl, by decide +kernel, by decide +kernel⟩
theorem sc_Disk_has : FnScope ["self", "name"] ["self", "name"] (defScope s_Disk_has) := ⟨rfl, rfl, rfl, by decide +kernel, rfl, by decide +kernel, by decide +kernel⟩
theorem sc_Disk__file : FnScope ["self", "name"] ["self", "name"] (defScope s_Disk__file) := ⟨rfl, rfl, rfl, by decide +kernel, rfl, by decide +kernel, by decide +kernel⟩
theorem sc_Disk_read : FnScope ["self", "name", "at"] ["self", "name"] (defScope s_Disk_read) := ⟨rfl, rfl, rfl, by decide +kernel, rfl, by decide +kernel, by decide +kernel⟩
theorem sc_Disk_make : FnScope ["self", "name"] ["self", "name"] (defScope s_Disk_make) := ⟨rfl, rfl, rfl, by decide +kernel, rfl, by decide +kernel, by decide +kernel⟩
theorem sc_Disk__change : FnScope ["self", "row"] ["self", "row"] (defScope s_Disk__change) := ⟨rfl, rfl, rfl, by decide +kernel, rfl, by decide +kernel, by decide +kernel⟩
theorem sc_Disk_write : FnScope ["self", "name", "text", "at"] ["self", "name", "text"] (defScope s_Disk_write) := ⟨rfl, rfl, rfl, by decide +kernel, rfl, by decide +kernel, by decide +kernel⟩
theorem sc_Disk_sync : FnScope ["self", "name", "at"] ["self", "name"] (defScope s_Disk_sync) := ⟨rfl, rfl, rfl, by decide +kernel, rfl, by decide +kernel, by decide +kernel⟩
theorem sc_Disk_sync_names : FnScope ["self"] ["self"] (defScope s_Disk_sync_names) := ⟨rfl, rfl, rfl, by decide +kernel, rfl, by decide +kernel, by decide +kernel⟩
theorem sc_Disk_move : FnScope ["self", "one", "other"] ["self", "one", "other"] (defScope s_Disk_move) := ⟨rfl, rfl, rfl, by decide +kernel, rfl, by decide +kernel, by decide +kernel⟩
theorem sc_Disk_remove : FnScope ["self", "name"] ["self", "name"] (defScope s_Disk_remove) := ⟨rfl, rfl, rfl, by decide +kernel, rfl, by decide +kernel, by decide +kernel⟩
theorem sc_Disk_late_changes : FnScope ["self"] ["self"] (defScope s_Disk_late_changes) := ⟨rfl, rfl, rfl, by decide +kernel, rfl, by decide +kernel, by decide +kernel⟩
theorem sc_Disk_late_size : FnScope ["self", "name"] ["self", "name"] (defScope s_Disk_late_size) := ⟨rfl, rfl, rfl, by decide +kernel, rfl, by decide +kernel, by decide +kernel⟩
theorem sc_Disk_late_files : FnScope ["self", "name"] ["self"] (defScope s_Disk_late_files) := ⟨rfl, rfl, rfl, by decide +kernel, rfl, by decide +kernel, by decide +kernel⟩
theorem sc_Disk_copy : FnScope ["self", "other"] ["self"] (defScope s_Disk_copy) := ⟨rfl, rfl, rfl, by decide +kernel, rfl, by decide +kernel, by decide +kernel⟩
theorem sc_Disk_cut_off : FnScope ["self", "changes", "tears", "rows", "told", "name", "signs", "spoilt", "at", "part", "found"] ["self", "changes", "tears"] (defScope s_Disk_cut_off) := ⟨rfl, rfl, rfl, by decide +kernel, rfl, by decide +kernel, by decide +kernel⟩
theorem sc_applied : FnScope ["names", "changes", "found", "word", "one", "other"] ["names", "changes"] (defScope s_applied) := ⟨rfl, rfl, rfl, by decide +kernel, rfl, by decide +kernel, by decide +kernel⟩
theorem sc_checked_tears : FnScope ["disk", "changes", "tears", "row", "name", "signs", "spoilt"] ["disk", "changes", "tears"] (defScope s_checked_tears) := ⟨rfl, rfl, rfl, by decide +kernel, rfl, by decide +kernel, by decide +kernel⟩
theorem sc_all_lost : FnScope ["disk"] ["disk"] (defScope s_all_lost) := ⟨rfl, rfl, rfl, by decide +kernel, rfl, by decide +kernel, by decide +kernel⟩
theorem sc__law_same : FnScope ["actual", "due", "k"] ["actual", "due"] (defScope s__law_same) := ⟨rfl, rfl, rfl, by decide +kernel, rfl, by decide +kernel, by decide +kernel⟩
theorem sc__law_pool : FnScope ["script"] ["script"] (defScope s__law_pool) := ⟨rfl, rfl, rfl, by decide +kernel, rfl, by decide +kernel, by decide +kernel⟩
theorem sc__law_draw : FnScope ["pool", "many", "found", "cell", "mixed"] ["pool", "many"] (defScope s__law_draw) := ⟨rfl, rfl, rfl, by decide +kernel, rfl, by decide +kernel, by decide +kernel⟩
theorem sc__law_pick : FnScope ["pool", "rows"] ["pool", "rows"] (defScope s__law_pick) := ⟨rfl, rfl, rfl, by decide +kernel, rfl, by decide +kernel, by decide +kernel⟩
theorem sc__law_refusal : FnScope ["problem", "kinds", "found", "k"] ["problem"] (defScope s__law_refusal) := ⟨rfl, rfl, rfl, by decide +kernel, rfl, by decide +kernel, by decide +kernel⟩
theorem sc__law_tears : FnScope ["pool", "disk", "tears", "name", "signs"] ["pool", "disk"] (defScope s__law_tears) := ⟨rfl, rfl, rfl, by decide +kernel, rfl, by decide +kernel, by decide +kernel⟩
theorem sc__law_either : FnScope ["pool", "disk", "old", "new", "k", "changes", "tears", "found", "told"] ["pool", "disk", "old", "new"] (defScope s__law_either) := ⟨rfl, rfl, rfl, by decide +kernel, rfl, by decide +kernel, by decide +kernel⟩
theorem sc__law_refused : FnScope ["choice", "disk", "one", "two", "problem"] ["choice", "disk", "one", "two"] (defScope s__law_refused) := ⟨rfl, rfl, rfl, by decide +kernel, rfl, by decide +kernel, by decide +kernel⟩
theorem sc__law_run : FnScope ["script", "pool", "disk", "old", "number", "k", "text", "new", "had", "figures", "half", "wrong", "before"] ["script"] (defScope s__law_run) := ⟨rfl, rfl, rfl, by decide +kernel, rfl, by decide +kernel, by decide +kernel⟩
theorem sc_law : FnScope ["script"] ["script"] (defScope s_law) := ⟨rfl, rfl, rfl, by decide +kernel, rfl, by decide +kernel, by decide +kernel⟩
/-! ### a comprehension over range(..) where an exception is being handled -/
/-- one more number of a range's iterator; X may be handling something -/
theorem rgH_go {X : Cx} {ps : List (Addr × Obj)} {τ : L2.St} {G : Hp} {z : Shared} {tg : Expr} {j : Addr} {lo : Int} {n i : Nat} {E : Value → Shared → Prop} (J : Inv X ps τ G z) (fr : FpOk X ps G j)
    (at_ : IsRangeIter z.heap j (lo + (i : Nat) * 1) ((n : Int) - (i : Nat)) 1) (lt : i < n) :
    wpAny (model X.prog X.w) X.A (pyNext (.ref j)) (fun r z1 => ∃ u, r = some u ∧ wpAny (model X.prog X.w) X.A (letOwnedTupleGo tg (.ref j) u) (fun _ z2 =>
      Inv X ps τ G z2 ∧ RelV (.int (lo + i)) u ∧ IsRangeIter z2.heap j (lo + ((i + 1 : Nat) : Int) * 1) ((n : Int) - ((i + 1 : Nat) : Int)) 1) E z1) E z := by
  obtain ⟨q0, q1, _, q3, q4, q5⟩ := fr
  refine wpAny_pyNext_range_item at_ (by omega) fun g at2 same => ?_
  rw [show lo + ((i : Nat) : Int) * 1 + 1 = lo + ((i + 1 : Nat) : Int) * 1 by omega, show (n : Int) - ((i : Nat) : Int) - 1 = (n : Int) - ((i + 1 : Nat) : Int) by omega] at at2
  have J2 : Inv X ps τ G { z with heap := g, toks := z.toks + 1 } := J.turned (fun b o nb e => (same.2 b nb).trans e) q0 q1 q3 q4 q5
  refine ⟨_, rfl, ?_⟩
  refine go_of (n := "range_iterator") (s := { z with heap := g, toks := z.toks + 1 }) at2 rfl rfl (by decide) ⟨J2, ⟨z.toks, ?_⟩, at2⟩
  rw [Int.mul_one]
/-- no more of them -/
theorem rgH_end {X : Cx} {ps : List (Addr × Obj)} {τ : L2.St} {G : Hp} {z : Shared} {j x1 : Addr} {lo : Int} {n i : Nat} {E : Value → Shared → Prop} (J : Inv X ps τ G z) (fr : FpOk X ps G j) (hot : HotX.HotAt X.A x1 z.heap)
    (at_ : IsRangeIter z.heap j (lo + (i : Nat) * 1) ((n : Int) - (i : Nat)) 1) (ge : n ≤ i) :
    wpAny (model X.prog X.w) X.A (pyNext (.ref j)) (fun r z1 => r = none ∧ Inv X ps τ G z1) E z := by
  obtain ⟨q0, q1, _, q3, q4, q5⟩ := fr
  exact HotX.pyNext_range_end_hot hot at_ (by omega) fun g all => ⟨rfl, J.turned (t' := z.toks) (fun b o _ e => all b o e) q0 q1 q3 q4 q5⟩
/-- what is pinned outside stands within a comprehension's block, too -/
theorem inv_withPn {X : Cx} {ps : List (Addr × Obj)} {τ : L2.St} {G : Hp} {z : Shared} (J : Inv X ps τ G z) (pn : List (Addr × Obj)) (hp : ∀ p ∈ pn, z.heap.get? p.1 = some p.2 ∧ G p.1 = none ∧ p.1 ≠ X.env.locals ∧ p.1 ∉ X.fs ∧ ∀ v, p.2.data ≠ .cell v) : Inv { X with pn := pn } ps τ G z where
  ok := ⟨J.ok.mod, J.ok.kind, J.ok.glob, J.ok.blt, J.ok.above, J.ok.inj, J.ok.has, J.ok.cab, J.ok.hd, J.ok.frames, J.ok.stk, J.ok.exf, J.ok.bs, J.ok.bsz, J.ok.noex, J.ok.exfs, J.ok.funs, J.ok.frf⟩
  os := J.os
  bare := J.bare
  base := J.base
  loc := J.loc
  cell := J.cell
  free := J.free
  freeC := J.freeC
  pin := fun p m => (List.mem_append.mp m).elim (hp p) fun m2 => J.pin p (List.mem_append_right _ m2)
  hok := J.hok
  len := J.len
theorem inv_noPn {X : Cx} {ps pn : List (Addr × Obj)} {τ : L2.St} {G : Hp} {z : Shared} (J : Inv { X with pn := pn } ps τ G z) (h0 : X.pn = []) : Inv X ps τ G z where
  ok := ⟨J.ok.mod, J.ok.kind, J.ok.glob, J.ok.blt, J.ok.above, J.ok.inj, J.ok.has, J.ok.cab, J.ok.hd, J.ok.frames, J.ok.stk, J.ok.exf, J.ok.bs, J.ok.bsz, J.ok.noex, J.ok.exfs, J.ok.funs, J.ok.frf⟩
  os := J.os
  bare := J.bare
  base := J.base
  loc := J.loc
  cell := J.cell
  free := J.free
  freeC := J.freeC
  pin := fun p m => J.pin p (List.mem_append_right _ (by rw [h0] at m; exact m))
  hok := J.hok
  len := J.len
section
variable {X : Cx}
/-- [elt for tg in iter if ..] while something is handled: what lc_core tells where nothing is -/
theorem hot_core {ps : List (Addr × Obj)} {z : Shared} {τ : L2.St} {G : Hp} {Q : VK} {elt tg iter : Expr} {ifs : List Expr} {scope : Scope} {own : List (Str × Nat)} {pos pos' : Pos} {wi : TI} {g : TG} {tt : TT} {te : TE} {use : Option (Value → Sem Unit)} {Qf : Value → Shared → Prop}
    (hot : L2H.HotC X) (nd : X.N.Nodup) (J : Inv X ps τ G z) (hi : L2H.PIH X tg iter wi) (ok : BlkOk X.N X.env.scope scope own)
    (tgR : ∀ z G C cl fp, PG (X.blk z G scope (compEnvC scope cl C X.env) fp) tg g) (ifR : ∀ z G C cl fp, PTs (X.blk z G scope (compEnvC scope cl C X.env) fp) ifs tt)
    (elR : ∀ z G C cl fp, PE (X.blk z G scope (compEnvC scope cl C X.env) fp) elt te) (fold : ∀ x, foldedSetIterable iter X.env x = pure x) (rd : tLc wi g tt te (own.map (·.2)) τ G Q)
    (fin : ∀ D C z' m G', Inv X ps τ G' z' → Q (.ref D) G' → z'.heap.Ns C m → FpOk X ps G' C → compPost (model X.prog X.w) X.A X.xe use Qf (.ref D) C (.ok .next) z') :
    wpAny (model X.prog X.w) X.A (comprehension (.ListComp elt [⟨tg, iter, ifs, 0⟩] scope pos) scope X.env pos' (newList []) false (eval iter X.env) use) Qf X.xe z := by
  have clo := closure_ok (scope := scope) (env := X.env) fun y hy e => J.ok.has _ ((ok.free y hy e).imp id id)
  refine wpAny_comprehension_free (use := use) rfl fold clo ok.kind (fun y hy e => (ok.uniq y hy).trans (by rw [e])) ?_
  refine thn (hi.run ps z τ G _ J rd) fun _ z1 r1 => thn r1 fun _ z2 ⟨j, fp, tn, It0, G2, ej, J2, T, t2, free2, rd2⟩ => ?_
  subst ej
  refine wpAny_newObj_type (newEnv_comp ?_) (by show 0 ≤ sizeLine; decide)
  have newD : G2 z2.heap.objs.size = none := J2.hok.fresh (Nat.le_refl _)
  obtain ⟨W, ⟨m0, w0⟩, turn⟩ := rd2 _ newD
  -- the block's beginning
  obtain ⟨z3, ez3⟩ : ∃ z3 : Shared, z3 = { z2 with heap := z2.heap.push { cls := .type "list", data := .seq ([] : List Value).toArray } } := ⟨_, rfl⟩
  obtain ⟨G3, eG3⟩ : ∃ G3 : Hp, G3 = upd G2 z2.heap.objs.size (.lst []) := ⟨_, rfl⟩
  have grow : ∀ b o, z2.heap.get? b = some o → z3.heap.get? b = some o := fun b o e => by rw [ez3]; exact Heap.get?_push_of_some _ e
  have J3 : Inv X ps τ G3 z3 := by
    rw [ez3, eG3]
    exact J2.laid (t' := z2.toks) (fun b o e => Heap.get?_push_of_some _ e) (Nat.le_refl _) ⟨Nat.zero_le _, [], 0, .nil, Heap.get?_push_size _ rfl⟩
  have size3 : z3.heap.objs.size = z2.heap.objs.size + 1 := by rw [ez3]; exact Heap.size_push _ _
  have small : ∀ b ∈ fp, b < z2.heap.objs.size := fun b m => (T.obj _ _ t2 b m).elim fun _ e => Heap.lt_size e.1
  have free3 : ∀ b ∈ fp, FpOk X ps G3 b ∧ b < z3.heap.objs.size := fun b m => by
    have lt := small b m
    refine ⟨⟨?_, (free2 b m).2⟩, by rw [size3]; exact Nat.lt_succ_of_lt lt⟩
    rw [eG3, upd_ne (Nat.ne_of_lt lt)]
    exact (free2 b m).1
  have t3 : tn 0 z3.heap := T.keep _ _ _ t2 fun b _ o e => grow b o e
  have B0 := block_start J3 ok nd free3
  have tg1 := tgR z3 G3 z3.heap.objs.size (cellsFrom (z3.heap.objs.size + 1) scope.names (cloFrom X.env.cells scope.names [])) fp
  have if1 := ifR z3 G3 z3.heap.objs.size (cellsFrom (z3.heap.objs.size + 1) scope.names (cloFrom X.env.cells scope.names [])) fp
  have el1 := elR z3 G3 z3.heap.objs.size (cellsFrom (z3.heap.objs.size + 1) scope.names (cloFrom X.env.cells scope.names [])) fp
  rw [← eG3] at w0
  rw [show z2.heap.push { cls := .type "list", data := .seq ([] : List Value).toArray } = z3.heap by rw [ez3]]
  show codeAny _ _ (.compStart (.ListComp elt [⟨tg, iter, ifs, 0⟩] scope pos) 0 (.ref j) (.ref z2.heap.objs.size) (compEnvC scope (cellsFrom (z3.heap.objs.size + 1) scope.names (cloFrom X.env.cells scope.names [])) z3.heap.objs.size X.env)) (compPost (model X.prog X.w) X.A X.xe use Qf (.ref z2.heap.objs.size) z3.heap.objs.size) _
  rw [show ({ z2 with heap := pushCells (z3.heap.push { cls := .type "dict", data := .dict #[] }) scope.names } : Shared) = { z3 with heap := pushCells (z3.heap.push { cls := .type "dict", data := .dict #[] }) scope.names } by rw [ez3]]
  generalize hce : compEnvC scope (cellsFrom (z3.heap.objs.size + 1) scope.names (cloFrom X.env.cells scope.names [])) z3.heap.objs.size X.env = ce at B0 tg1 if1 el1 ⊢
  have ceL : ce.locals = z3.heap.objs.size := by rw [← hce]; rfl
  obtain ⟨z4, ez4⟩ : ∃ z4 : Shared, z4 = { z3 with heap := pushCells (z3.heap.push { cls := .type "dict", data := .dict #[] }) scope.names } := ⟨_, rfl⟩
  rw [← ez4] at B0 ⊢
  have t4 : tn 0 z4.heap := T.keep _ _ _ t3 fun b _ o e => by rw [ez4]; exact pushCells_keeps _ _ _ _ (Heap.get?_push_of_some _ e)
  -- what is pinned outside is pinned in the block
  have pinned : ∀ {τ' : L2.St} {G' : Hp} {z' : Shared}, Inv (X.blk z3 G3 scope ce fp) [] τ' G' z' → Inv { X.blk z3 G3 scope ce fp with pn := X.pn } [] τ' G' z' := fun {τ' G' z'} J' => inv_withPn J' X.pn fun p m => by
    obtain ⟨a1, a2, a3, a4, a5⟩ := J3.pin p (List.mem_append_left _ m)
    have nfs : p.1 ∉ frs X.stack := fun y => (List.mem_cons.mp (J3.stkSub p.1 y)).elim a3 a4
    have nfp : p.1 ∉ fp := fun y => (free3 p.1 y).1.2.2.2.2.2 p (List.mem_append_left _ m) rfl
    exact ⟨J'.base.keep _ _ a1 a2 nfs nfp, J'.base.free _ _ a1 a2 nfp, fun y => absurd (Heap.lt_size a1) (by rw [show p.1 = z3.heap.objs.size from y.trans ceL]; exact Nat.lt_irrefl _), nfs, a5⟩
  have hotB : L2H.HotC { X.blk z3 G3 scope ce fp with pn := X.pn } := hot
  have away : ∀ {τ' : L2.St} {G' : Hp} {z' : Shared}, Inv { X.blk z3 G3 scope ce fp with pn := X.pn } [] τ' G' z' → (∀ b ∈ fp, G' b = none) → ∀ b ∈ fp, FpOk { X.blk z3 G3 scope ce fp with pn := X.pn } [] G' b := fun {τ' G' z'} J' no b m =>
    ⟨no b m, (J'.ok.exf b m).1, J'.ok.exfs b m, .inl m, fun x c e => (J'.ok.exf b m).2 x c e, fun p y => (free3 b m).1.2.2.2.2.2 p (List.mem_append_left _ ((List.mem_append.mp y).elim id fun v => by cases v))⟩
  refine codeAny_compStart_list ?loop (T.self X.A 0 _ _ _ t4 ?loop)
  refine compLoop_any (fun n z' => ∃ i G', Inv (X.blk z3 G3 scope ce fp) [] (wipe τ (own.map (·.2))) G' z' ∧ tn i z'.heap ∧ (∀ b ∈ fp, G' b = none) ∧ W i n G') ?_ m0 ⟨0, G3, B0, t4, fun b m => (free3 b m).1.1, w0⟩
  rintro n z5 ⟨i, G5, J5, t5, no5, w5⟩
  have P5 := pinned J5
  rcases turn i n G5 w5 with ⟨stop, q⟩ | ⟨go, Nx, less, step⟩
  · refine thnF (T.done { X.blk z3 G3 scope ce fp with pn := X.pn } rfl rfl rfl hotB i [] z5 _ G5 (fun _ _ => False) P5 (away P5 no5) t5 stop) fun r z6 ⟨er, J6⟩ => ?_
    subst er
    have back : Inv X ps τ G5 z6 := J3.call' (ch := fp) J6.os J6.base J6.hok J6.bare fun b m => ⟨(free3 b m).1.2.2.2.1, (free3 b m).1.2.1, (free3 b m).1.2.2.2.2.1, (free3 b m).1.2.2.2.2.2⟩
    have noC : G5 z3.heap.objs.size = none := ceL ▸ J6.free
    obtain ⟨m, ns, _⟩ := J6.loc
    exact fin _ z3.heap.objs.size z6 m G5 back q (ceL ▸ ns) (J3.fpOk (Nat.le_refl _) noC)
  · refine thnF (T.item { X.blk z3 G3 scope ce fp with pn := X.pn } rfl rfl rfl hotB i [] z5 _ G5 (fun _ _ => False) P5 (away P5 no5) t5 go) fun r z6 ⟨u, er, h6⟩ => ?_
    subst er
    refine thnF h6 fun _ z7 ⟨x, G7, P7, r7, y7, t7, no7⟩ => ?_
    have J7 := (inv_noPn P7 rfl).pinned (fun b m => let a := away P7 no7 b m; ⟨a.1, a.2.1, a.2.2.1, a.2.2.2.1, a.2.2.2.2.1, fun p y => by cases y⟩) (T.obj _ _ t7)
    refine thnF (tg1.run _ z7 _ G7 x u _ J7 r7 (step x G7 y7)) fun _ z8 ⟨τ8, G8, J8, ew8, q8⟩ => thnF (if1.run _ z8 τ8 G8 _ J8 q8) fun b z9 ⟨G9, J9, q9⟩ => ?_
    have next : ∀ {z' : Shared} {G' : Hp}, Inv (X.blk z3 G3 scope ce fp) ([] ++ pinsAt fp z7.heap) τ8 G' z' → Nx G' → ∃ m, m < n ∧ ∃ i G', Inv (X.blk z3 G3 scope ce fp) [] (wipe τ (own.map (·.2))) G' z' ∧ tn i z'.heap ∧ (∀ b ∈ fp, G' b = none) ∧ W i m G' := fun {z' G'} J' nx => by
      obtain ⟨m', lt, w'⟩ := less G' nx
      have held : ∀ b ∈ fp, ∀ o, z7.heap.get? b = some o → z'.heap.get? b = some o ∧ G' b = none := fun b m o e =>
        ⟨(J'.pin (b, o) (List.mem_append_right _ (List.mem_append_right _ (mem_pinsAt m e)))).1, (J'.pin (b, o) (List.mem_append_right _ (List.mem_append_right _ (mem_pinsAt m e)))).2.1⟩
      refine ⟨m', lt, i + 1, G', (J'.unpinned (pins := [])).weak (by rw [← ew8, wipe_length]) (fun k v e => (wipe_some (ew8 ▸ e)).1), T.keep _ _ _ t7 fun b m o e => (held b m o e).1, fun b m => ?_, w'⟩
      exact (T.obj _ _ t7 b m).elim fun o e => (held b m o e.1).2
    cases b with
    | false => exact next J9 (by simpa using q9)
    | true =>
      have q9' : te τ8 G9 fun y H4 => ∃ acc, H4 z2.heap.objs.size = some (.lst acc) ∧ acc.length < sizeLine ∧ Nx (upd H4 z2.heap.objs.size (.lst (acc ++ [y]))) := by simpa using q9
      refine thnF (el1.run _ z9 τ8 G9 _ J9 q9') fun v z10 ⟨y, G10, J10, r10, acc, eD, sz, nx⟩ => ?_
      exact app_ok (X := X.blk z3 G3 scope ce fp) J10 eD sz r10 fun z11 J11 => next J11 nx
end
section
variable {X : Cx}
/-- y = [..] on one line, y a local, while something is handled -/
theorem ps_hotLc {i : Nat} {y : Str} {yp : Pos} {elt tg iter : Expr} {ifs : List Expr} {scope : Scope} {own : List (Str × Nat)} {pos spos : Pos} {wi : TI} {g : TG} {tt : TT} {te : TE} (hot : L2H.HotC X) (nd : X.N.Nodup) (at_ : X.N[i]? = some y) (loc : X.env.scope.names.lookup y = some .local)
    (sw : swapsWith (.ListComp elt [⟨tg, iter, ifs, 0⟩] scope pos) (some (.Name y yp)) spos.line X.env = pure true) (hi : L2H.PIH X tg iter wi) (ok : BlkOk X.N X.env.scope scope own)
    (tgR : ∀ z G C cl fp, PG (X.blk z G scope (compEnvC scope cl C X.env) fp) tg g) (ifR : ∀ z G C cl fp, PTs (X.blk z G scope (compEnvC scope cl C X.env) fp) ifs tt)
    (elR : ∀ z G C cl fp, PE (X.blk z G scope (compEnvC scope cl C X.env) fp) elt te) (fold : ∀ x, foldedSetIterable iter X.env x = pure x := by intro _; rfl) :
    PS X (.Assign [.Name y yp] (.ListComp elt [⟨tg, iter, ifs, 0⟩] scope pos) spos) (tAsg (tLc wi g tt te (own.map (·.2))) (gName i)) := ⟨fun ps z τ G D J rd => by
  rw [exec_Assign_Name_used _ _ _ _ sw]
  refine wpAny_bind (wpAny_standAt (wpAny_bind ?_))
  refine wpAny_bind (thn (hot_core (use := some (assign (.Name y yp) X.env)) (Qf := fun _ z' => SP X ps D .next z') (Q := fun x G1 => gName i x τ G1 D.nx) hot nd J hi ok tgR ifR elR fold rd fun L C z' m G' J' q ns free => ?_) fun _ z' e => wpAny_pure (wpAny_pure e))
  obtain ⟨c0, c1, _, c3, c4, c5⟩ := free
  refine wpAny_assign_Name (store_ok2 (v := V.ref L) J' nd at_ (.inl loc) rfl (fun z2 J2 st => ?_) (.inr loc))
  obtain ⟨b, same, where_⟩ := st
  have ne : C ≠ b := where_.elim (fun e => by rw [e]; exact c1) fun e k => c4 y b e k.symm
  exact ⟨m, ns.sameBut same ne, fun g3 s3 => ⟨_, G', J2.turned (t' := z2.toks) (fun b o nb e => (s3.2 b nb).trans e) c0 c1 c3 c4 c5, q⟩⟩⟩
end
/-! ### a def that an except suite hands its exception -/
/-- called with the exception that is being handled, of the class C, it gives r, and what stood stands -/
structure FnE (P : Program) (w : World) (K : PySem.W.Frag) (mg : Str → Option Value) (base : Heap) (C : Addr) (k : Nat) (f : Addr) (fd : FuncData) (ps : List Str) (r : V) : Prop where
  run : ∀ (A : Around) (outer : List Env) (z : Shared) (G : Hp) (args : Args) (us : List Value) (p : Addr × Obj) (Q : VK), L2H.RoomH k A → L2H.Hot1 A p → Zc (.ref C) none p.2 → L2H.PinOk outer G z p → Env0 P w K mg base A outer z G →
    BindsTo z fd args (ps.zip us) → Vals [V.ref p.1] us → (∀ G', Same G G' → Q r G') → codeAny (model P w) A (.call (.ref f) args) (CR CX0 outer P w G z Q E0) z
theorem fnE_of {P : Program} {w : World} {K : PySem.W.Frag} {mg : Str → Option Value} {base : Heap} {C : Addr} {k : Nat} {f : Addr} {x qual : Str} {st : Stmt} {fd : FuncData} {N ps : List Str} {r : V} (F : Fun K x qual st f fd) (S : FnScope N ps (defScope st)) (one : ps.length = 1)
    (rd : ∀ (cd : Value) (A : Around) (outer : List Env) (z : Shared) (G : Hp) (Q : VK) (p : Addr × Obj), L2H.Hot1 A p → Zc (.ref C) none p.2 → L2H.RoomH k (A.deeper (envOfC qual (defScope st) z.heap.objs.size f cd)) → (∀ G', Same G G' → Q r G') →
      ∃ t, PSs (L2H.cxH CX0 P w K mg base N qual (defScope st) f cd A outer z G E0 p) (defBody st) t ∧ t { nx := fun _ G' => Q .non G', rt := Q } (L2.start N [V.ref p.1]) G) :
    FnE P w K mg base C (k + 1) f fd ps r := by
  obtain ⟨oc, od, kV, doc, pm, an, cd, ct, sl, rfl, lk, hcd⟩ := F.ex
  refine ⟨fun A outer z G args us p Q room hot zc pin e0 bind vals q => ?_⟩
  have kz : K.In z.heap := e0.mod.kin.keeps fun b o e => (e0.bs b o e).1
  have nl : z.heap.NoLimit := e0.mod.nolimit.keeps fun b o e => (e0.bs b o e).1
  have kinds : ∀ y ∈ ps.zip us, (defScope st).names.lookup y.1 = some .local ∨ ((defScope st).names.lookup y.1 = some .cell ∧ ((cellsFrom (z.heap.objs.size + 1) (defScope st).names []).lookup y.1).isSome = true) :=
    fun y m => (S.par y.1 (List.of_mem_zip (show (y.1, y.2) ∈ ps.zip us from m)).1).imp id fun c => ⟨c, PySem.W.cellsFrom_some _ _ _ (.inl c)⟩
  refine codeAny_call_function room.depth (kz _ _ lk) rfl S.co S.gen rfl (PySem.W.codeRec_of kz hcd) (bind _ _ _ _ ?_)
  refine wpAny_newFunctionEnv_cells S.kind kinds fun env ee z1 ic => ?_
  subst ee
  obtain ⟨t, ht, hq⟩ := rd cd A outer z G Q p hot zc (room.deeper _) q
  have J := L2H.inv_startH (vs := [V.ref p.1]) (CX := CX0) (P := P) (w := w) (K := K) (mg := mg) (base := base) (E := E0) S pin e0 one.symm vals ic
  refine ⟨nl.keeps ic.toInCall.keep, codeAny_func (wpAny_mono (ht.run [] z1 _ G _ J hq) (fun fl z' e => ?_) fun _ _ e => e)⟩
  match fl, e with
  | .ret _, ⟨v, τ, G', J', rv, q'⟩ => exact ⟨v, G', J'.os, J'.bare, J'.base, J'.hok, rv, q'⟩
  | .next, ⟨τ, G', J', q'⟩ => exact ⟨.non, G', J'.os, J'.bare, J'.base, J'.hok, rfl, q'⟩
  | .brk, ⟨_, _, _, q'⟩ => exact q'.elim
  | .cont, ⟨_, _, _, q'⟩ => exact q'.elim
/-- f(problem) in the suite -/
theorem pe_handed {X : Cx} {C a : Addr} {oe : Obj} {pn : List (Addr × Obj)} {k i : Nat} {f : Addr} {fd : FuncData} {pp : Str} {r : V} {x y : Str} {p q pos : Pos} (F : FnE X.prog X.w X.K X.mg X.base C k f fd [pp] r) (room : L2H.RoomH k (X.suite a ((a, oe) :: pn)).A)
    (zc : Zc (.ref C) none oe) (hot : L2H.Hot1 (X.suite a ((a, oe) :: pn)).A (a, oe)) (hg : Gl X x) (hm : X.mg x = some (.ref f)) (hk : PySem.W.keepIn X.K (.ref f) = true) (hb : Binds X.K fd [pp] []) (hi : X.N[i]? = some y) (hv : Vis X.env.scope y)
    (hd : (x == ("__debug__" : Str)) = false := by decide) (hd2 : (y == ("__debug__" : Str)) = false := by decide) (hd3 : (y == ("__classdict__" : Str)) = false := by decide) :
    PE (X.suite a ((a, oe) :: pn)) (.Call (.Name x p) [.Name y q] [] pos) (fun σ H Q => σ[i]? = some (some (.ref a)) ∧ ∀ H', Same H H' → Q r H') := ⟨fun ps z τ G Q J rd => by
  have ha : PA (X.suite a ((a, oe) :: pn)) [.Name y q] (tCons (tVar i) tNil) := pa_cons (pe_var hi hv (hd := hd2) (hcd := hd3)) pa_nil
  refine wpAny_Call_Name_kw (ld_glob J hg hm ?_ hd)
  refine PySem.W.callWith_K (h₀ := X.base) J.ok.mod.kin hk (thn (ha.run pos ps z τ G (fun vs G' => vs = [V.ref a] ∧ G' = G) J ⟨_, rd.1, rfl, rfl⟩) fun us z1 ⟨vs, G1, J1, rv, e1, e2⟩ => ⟨J1.kIn, ?_⟩) rfl rfl
  subst e1 e2
  have bind := hb z1 us J1.kIn (by rw [List.append_nil]; exact rv.length.symm)
  rw [List.append_nil] at bind
  have P1 := J1.pin (a, oe) (List.mem_append_left _ (List.mem_cons_self ..))
  have pin : L2H.PinOk X.stack G1 z1 (a, oe) := ⟨P1.1, P1.2.1, fun m => (List.mem_cons.mp (J1.stkSub a m)).elim P1.2.2.1 P1.2.2.2.1, P1.2.2.2.2⟩
  refine wpAny_call (codeAny_mono (F.run _ X.stack z1 G1 ⟨us, []⟩ us (a, oe) Q room hot zc pin J1.env0 bind rv rd.2) fun res z2 e => ?_)
  match res, e with
  | .ok (.ret _), e => exact J1.after e
  | .ok .next, e => exact e.elim
  | .ok .brk, e => exact e.elim
  | .ok .cont, e => exact e.elim
  | .error _, e => exact e.elim⟩
/-- isinstance(e, c), e pinned: an exception of an own class -/
theorem call_isP {X : Cx} {a D : Addr} {oe : Obj} (ec : ExcC X.K D) (zc : Zc (.ref D) none oe) (flds : ∃ vs, oe.data = .fields vs) (m : (a, oe) ∈ X.pn) : CallR X (.builtin "isinstance") (rIsE X.K D a) := fun ps z τ G xs us Q J rv rd => by
  obtain ⟨c, cv, b, rfl, only, kit, q⟩ := rd
  match rv with
  | .cons ra (.cons rc .nil) =>
    obtain rfl := ra
    obtain rfl := only _ rc
    have there : z.heap.get? a = some oe := (J.pin (a, oe) (List.mem_append_left _ m)).1
    have inst : PySem.W.InstAt z.heap a oe D none := by
      obtain ⟨vs, ev⟩ := flds
      match oe, zc, ev with
      | ⟨_, _, _, _⟩, ⟨rfl, rfl⟩, rfl => exact ⟨there, rfl, rfl, trivial⟩
    exact PySem.W.kia_one (PySem.W.handS_kitx_exc ec.hg ec.hk ec.hs ec.hd ec.ha ec.hn ec.ht ec.hm) J.kIn inst kit (fun y => nomatch y) fun tk => ⟨.bl b, G, J.kept (t' := tk) fun _ _ y => y, rfl, q⟩
/-! ### _law_pool, _law_draw, _law_pick -/
/-- a pool at p: its cells at l, how many are taken, what is left of the last great one, the last small one, how many were drawn of it -/
def PoolL (H : Hp) (p l : Addr) : Prop := ∃ (ns : List Int) (a b c d : Int), H p = some (.lst [.ref l, .int a, .int b, .int c, .int d]) ∧ H l = some (.lst (ns.map V.int)) ∧ ns.length ≤ 63 ∧ 0 ≤ a ∧ 0 ≤ b ∧ l ≠ p
/-- all but p is as it was -/
def SameBut (p : Addr) (H H' : Hp) : Prop := ∀ b o, b ≠ p → H b = some o → H' b = some o
theorem SameBut.refl (p : Addr) (H : Hp) : SameBut p H H := fun _ _ _ e => e
theorem SameBut.trans {p : Addr} {H H1 H2 : Hp} (a : SameBut p H H1) (b : SameBut p H1 H2) : SameBut p H H2 := fun c o n e => b c o n (a c o n e)
theorem SameBut.upd {p : Addr} {H H1 : Hp} {o : HO} (a : SameBut p H H1) : SameBut p H (upd H1 p o) := fun b u n e => by rw [upd_ne n]; exact a b u n e
theorem SameBut.of {p : Addr} {H H1 : Hp} (a : Same H H1) : SameBut p H H1 := fun b u _ e => a b u e
theorem SameBut.new {p q : Addr} {H H1 : Hp} {o : HO} (a : SameBut p H H1) (hq : H1 q = none) : SameBut p H (L2.upd H1 q o) := fun b u n e => by
  rw [upd_ne (ne_of_none (a b u n e) hq)]
  exact a b u n e
def spPool (K : PySem.W.Frag) : Sp := fun vs H Q _ => ∃ (a : Addr) (ns : List Int), vs = [.ref a] ∧ SqL K H a (ns.map V.int) ∧ ns.length ≤ 63 ∧ ∀ H' p l, Same H H' → H p = none → H l = none → PoolL H' p l → Q (.ref p) H'
def spDraw : Sp := fun vs H Q _ => ∃ (p l : Addr) (m : Int), vs = [.ref p, .int m] ∧ PoolL H p l ∧ 1 ≤ m ∧ m ≤ 1000000000000000000 ∧ ∀ v H', 0 ≤ v → v < m → PoolL H' p l → SameBut p H H' → Q (.int v) H'
def spPick : Sp := fun vs H Q _ => ∃ (p r l : Addr) (xs : List V), vs = [.ref p, .ref r] ∧ PoolL H p l ∧ H r = some (.lst xs) ∧ r ≠ p ∧ 1 ≤ xs.length ∧ xs.length ≤ sizeLine ∧ ∀ v H', v ∈ xs → PoolL H' p l → SameBut p H H' → Q v H'
section
variable {P : Program} {w : World} {K : PySem.W.Frag} {mg : Str → Option Value} {base : Heap}
theorem ok_pool {f : Addr} {fd : FuncData} (F : Fun K "_law_pool" "_law_pool" s__law_pool f fd) (T : Blt mg) : FnOk P w K mg base CX0 1 f fd ["script"] (spPool K) := by
  refine F.ok sc__law_pool (fun vs H Q E h => ?_) (fun cdv A outer s H vs Q E hr h => ?_)
  · obtain ⟨a, ns, rfl, _⟩ := h
    rfl
  · obtain ⟨a, ns, rfl, hS, hn, k⟩ := h
    refine ⟨_, (pss_one (ps_ret (pe_lst (pa_cons (pe_callTy call_list_of (by rfl) T.b_list (by decide +kernel) (pa_cons (pv 0) pa_nil)) (pa_cons pe_int (pa_cons pe_int (pa_cons pe_int (pa_cons pe_int pa_nil)))))))), ?_⟩
    refine ⟨_, rfl, a, _, rfl, .inl hS, fun l hl => ⟨(by show 5 ≤ sizeLine; decide), fun p hp => ?_⟩⟩
    have nlp : l ≠ p := ne_of_none upd_same hp
    have hp0 : H p = Option.none := by rw [upd_ne (Ne.symm nlp)] at hp; exact hp
    exact k _ p l (same_upd (same_upd (Same.refl _) hl) hp) hp0 hl ⟨ns, 0, 0, 0, 0, upd_same, by rw [upd_ne nlp, upd_same], hn, by omega, by omega, nlp⟩
theorem ok_draw {f : Addr} {fd : FuncData} (F : Fun K "_law_draw" "_law_draw" s__law_draw f fd) (T : Blt mg) : FnOk P w K mg base CX0 1 f fd ["pool", "many"] spDraw := by
  refine F.ok sc__law_draw (fun vs H Q E h => ?_) (fun cdv A outer s H vs Q E hr h => ?_)
  · obtain ⟨p, l, m, rfl, _⟩ := h
    rfl
  · obtain ⟨p, l, m, rfl, ⟨ns, a, b, c, d, hp, hl, hn, ha, hb, nlp⟩, h1, h2, k⟩ := h
    refine ⟨_, (pss_cons (ps_if (pt_cmpR op_gt (pe_ix (r := rIxL K) ix_list (pv 0) pe_int (fun _ _ => rfl)) pe_int (nomark _)) (pss_cons (ps_set (i := 2) sc__law_draw.nd rfl (Or.inl rfl) (pe_op op_modN (pe_callTy call_int1 (by rfl) T.b_int (by decide +kernel) (pa_cons (pe_ix (r := rIxL K) ix_list (pv 0) pe_int (fun _ _ => rfl)) pa_nil)) (pv 1)))
    (pss_cons (ps_asg (pe_op op_fdivW (pe_ix (r := rIxL K) ix_list (pv 0) pe_int (fun _ _ => rfl)) (pv 1)) (pg_sub (pv 0) pe_int set_list))
    (pss_one (ps_ret (pv 2))))) pss_nil)
    (pss_cons (ps_if (PW.pt (pw_and (pt_cmpR op_eq (pe_op op_modN (pe_callTy call_int1 (by rfl) T.b_int (by decide +kernel) (pa_cons (pe_ix (r := rIxL K) ix_list (pv 0) pe_int (fun _ _ => rfl)) pa_nil)) pe_int) pe_int (nomark _)) (pw_and1 (pt_cmpR op_lt (pe_ix (r := rIxL K) ix_list (pv 0) pe_int (fun _ _ => rfl)) (pe_callB call_len (by rfl) T.b_len (by decide +kernel) (pa_cons (pe_ix (r := rIxL K) ix_list (pv 0) pe_int (fun _ _ => rfl)) pa_nil)) (nomark _))))) (pss_cons (ps_set (i := 3) sc__law_draw.nd rfl (Or.inl rfl) (pe_callB call_abs (by rfl) T.b_abs (by decide +kernel) (pa_cons (pe_ix (r := rIxL K) ix_list (pe_ix (r := rIxL K) ix_list (pv 0) pe_int (fun _ _ => rfl)) (pe_ix (r := rIxL K) ix_list (pv 0) pe_int (fun _ _ => rfl)) (fun _ _ => rfl)) pa_nil)))
    (pss_cons (ps_asg (pe_op op_add (pe_ix (r := rIxL K) ix_list (pv 0) pe_int (fun _ _ => rfl)) pe_int) (pg_sub (pv 0) pe_int set_list))
    (pss_cons (ps_if (pt_cmpR op_ge (pv 3) (pe_op op_pow pe_int pe_int) (nomark _)) (pss_cons (ps_asg (pe_op op_fdivW (pv 3) (pv 1)) (pg_sub (pv 0) pe_int set_list))
    (pss_one (ps_ret (pe_op op_modN (pe_callTy call_int1 (by rfl) T.b_int (by decide +kernel) (pa_cons (pv 3) pa_nil)) (pv 1))))) pss_nil)
    (pss_one (ps_asg (pv 3) (pg_sub (pv 0) pe_int set_list)))))) pss_nil)
    (pss_cons (ps_asg (pe_op op_add (pe_ix (r := rIxL K) ix_list (pv 0) pe_int (fun _ _ => rfl)) pe_int) (pg_sub (pv 0) pe_int set_list))
    (pss_cons (ps_set (i := 4) sc__law_draw.nd rfl (Or.inl rfl) (pe_op op_modN (pe_callTy call_int1 (by rfl) T.b_int (by decide +kernel) (pa_cons (pe_op op_add (pe_op op_add (pe_op op_mul (pe_ix (r := rIxL K) ix_list (pv 0) pe_int (fun _ _ => rfl)) pe_int) (pe_op op_mul (pe_ix (r := rIxL K) ix_list (pv 0) pe_int (fun _ _ => rfl)) pe_int)) pe_int) pa_nil)) pe_int))
    (pss_cons (ps_set (i := 4) sc__law_draw.nd rfl (Or.inl rfl) (pe_op op_modN (pe_callTy call_int1 (by rfl) T.b_int (by decide +kernel) (pa_cons (pe_op op_add (pe_op op_mul (pv 4) (pv 4)) (pe_op op_mul (pe_ix (r := rIxL K) ix_list (pv 0) pe_int (fun _ _ => rfl)) pe_int)) pa_nil)) pe_int))
    (pss_one (ps_ret (pe_op op_modN (pe_callTy call_int1 (by rfl) T.b_int (by decide +kernel) (pa_cons (pv 4) pa_nil)) (pv 1))))))))), ?_⟩
    have m0 : (0 : Int) < m := by omega
    have mne : m ≠ 0 := by omega
    have hw : CDivW 0 m := by
      have z := wide_div (i := 0) (j := m) (b := 63) m0 (by omega) (by omega) (by omega)
      exact z
    have hw' : ∀ i : Int, CDivW i m := fun i => hw
    -- the end: pool[4] = pool[4] + 1 .. return
    have fin : ∀ (a b c d : Int) (x y : Option V) (H' : Hp), H' p = some (.lst [.ref l, .int a, .int b, .int c, .int d]) → H' l = some (.lst (ns.map V.int)) → 0 ≤ a → 0 ≤ b → SameBut p H H' →
        tSeq (tAsg (tOp (rI0 fun i j => .int (i + j)) (tOp (rIxL K) (tVar 0) (tC (.int 4))) (tC (.int 1))) (gSub (tVar 0) (tC (.int 4)) rSetL))
          (tSeq (tAsg (tOp (rI (fun i j => j ≠ 0) fun i j => .int (i.fmod j)) (tCB (fun xs H Q => (∃ i, xs = [.int i] ∧ Q (.int i) H) ∨ ∃ k, xs = [.bl k] ∧ Q (.int (if k then 1 else 0)) H)
            (tCons (tOp (rI0 fun i j => .int (i + j)) (tOp (rI0 fun i j => .int (i + j)) (tOp (rI CMul fun i j => .int (i * j)) (tOp (rIxL K) (tVar 0) (tC (.int 3))) (tC (.int 48271))) (tOp (rI CMul fun i j => .int (i * j)) (tOp (rIxL K) (tVar 0) (tC (.int 4))) (tC (.int 69621)))) (tC (.int 7919))) tNil)) (tC (.int 2147483647))) (gName 4))
          (tSeq (tAsg (tOp (rI (fun i j => j ≠ 0) fun i j => .int (i.fmod j)) (tCB (fun xs H Q => (∃ i, xs = [.int i] ∧ Q (.int i) H) ∨ ∃ k, xs = [.bl k] ∧ Q (.int (if k then 1 else 0)) H)
            (tCons (tOp (rI0 fun i j => .int (i + j)) (tOp (rI CMul fun i j => .int (i * j)) (tVar 4) (tVar 4)) (tOp (rI CMul fun i j => .int (i * j)) (tOp (rIxL K) (tVar 0) (tC (.int 4))) (tC (.int 40692)))) tNil)) (tC (.int 2147483399))) (gName 4))
          (tRet (tOp (rI (fun i j => j ≠ 0) fun i j => .int (i.fmod j)) (tCB (fun xs H Q => (∃ i, xs = [.int i] ∧ Q (.int i) H) ∨ ∃ k, xs = [.bl k] ∧ Q (.int (if k then 1 else 0)) H) (tCons (tVar 4) tNil)) (tVar 1)))))
          { nx := fun _ H' => Q .non H', rt := Q } [some (.ref p), some (.int m), x, y, none] H' := by
      intro a b c d x y H' hp hl ha hb sb
      refine ⟨_, rfl, p, _, _, _, rfl, rfl, SqL.of hp, atI_nat (j := 4) rfl, _, _, rfl, rfl, _, rfl, p, _, _, 4, rfl, rfl, hp, rfl, ?_⟩
      have hl' : upd H' p (.lst [.ref l, .int a, .int b, .int c, .int (d + 1)]) l = some (.lst (ns.map V.int)) := by rw [upd_ne nlp]; exact hl
      show tSeq _ _ _ _ (upd H' p (.lst [.ref l, .int a, .int b, .int c, .int (d + 1)]))
      have hp2 : upd H' p (.lst [V.ref l, V.int a, V.int b, V.int c, V.int (d + 1)]) p = some (.lst [V.ref l, V.int a, V.int b, V.int c, V.int (d + 1)]) := upd_same
      have sb2 : SameBut p H (upd H' p (.lst [V.ref l, V.int a, V.int b, V.int c, V.int (d + 1)])) := sb.upd
      generalize upd H' p (.lst [V.ref l, V.int a, V.int b, V.int c, V.int (d + 1)]) = H2 at *
      refine ⟨_, rfl, p, _, _, _, rfl, rfl, SqL.of hp2, atI_nat (j := 3) rfl, _, _, rfl, rfl, .inr ⟨by decide, by decide⟩, ?_⟩
      refine ⟨_, rfl, p, _, _, _, rfl, rfl, SqL.of hp2, atI_nat (j := 4) rfl, _, _, rfl, rfl, .inr ⟨by decide, by decide⟩, ?_⟩
      refine ⟨_, _, rfl, rfl, _, _, rfl, rfl, .inl ⟨_, rfl, _, _, rfl, rfl, (show (2147483647 : Int) ≠ 0 by decide), ?_⟩⟩
      have q0 := Int.fmod_nonneg_of_pos (c * 48271 + (d + 1) * 69621 + 7919) (show (0 : Int) < 2147483647 by decide)
      have q1 := Int.fmod_lt_of_pos (c * 48271 + (d + 1) * 69621 + 7919) (show (0 : Int) < 2147483647 by decide)
      refine ⟨_, rfl, _, rfl, _, _, rfl, rfl, .inl ⟨by omega, by omega⟩, ?_⟩
      refine ⟨_, rfl, p, _, _, _, rfl, rfl, SqL.of hp2, atI_nat (j := 4) rfl, _, _, rfl, rfl, .inr ⟨by decide, by decide⟩, ?_⟩
      refine ⟨_, _, rfl, rfl, .inl ⟨_, rfl, _, _, rfl, rfl, (show (2147483399 : Int) ≠ 0 by decide), ?_⟩⟩
      refine ⟨_, rfl, .inl ⟨_, rfl, _, rfl, _, _, rfl, rfl, mne, ?_⟩⟩
      exact k _ _ (Int.fmod_nonneg_of_pos _ m0) (Int.fmod_lt_of_pos _ m0) ⟨ns, a, b, c, d + 1, hp2, hl', hn, ha, hb, nlp⟩ sb2
    refine ⟨_, rfl, p, _, _, _, rfl, rfl, SqL.of hp, atI_nat (j := 2) rfl, _, _, rfl, rfl, _, rfl, ?_⟩
    refine ite2 (fun hb0 => ?_) (fun hb0 => ?_)
    · -- what is left of a great cell
      refine ⟨_, rfl, p, _, _, _, rfl, rfl, SqL.of hp, atI_nat (j := 2) rfl, .inl ⟨_, rfl, _, rfl, _, _, rfl, rfl, mne, ?_⟩⟩
      refine ⟨_, rfl, p, _, _, _, rfl, rfl, SqL.of hp, atI_nat (j := 2) rfl, _, rfl, _, _, rfl, rfl, hw' _, _, rfl, p, _, _, 2, rfl, rfl, hp, rfl, ?_⟩
      refine ⟨_, rfl, ?_⟩
      exact k _ _ (Int.fmod_nonneg_of_pos _ m0) (Int.fmod_lt_of_pos _ m0) ⟨ns, a, b / m, c, d, upd_same, by rw [upd_ne nlp]; exact hl, hn, ha, Int.ediv_nonneg hb (by omega), nlp⟩ (SameBut.refl p H).upd
    · refine ⟨_, rfl, p, _, _, _, rfl, rfl, SqL.of hp, atI_nat (j := 4) rfl, .inl ⟨_, rfl, _, _, rfl, rfl, (show (8 : Int) ≠ 0 by decide), rfl, _, rfl, ?_⟩⟩
      refine ite2 (fun h8 => ?_) (fun h8 => ?_)
      · refine ⟨_, rfl, p, _, _, _, rfl, rfl, SqL.of hp, atI_nat (j := 1) rfl, _, rfl, p, _, _, _, rfl, rfl, SqL.of hp, atI_nat (j := 0) rfl, _, _, rfl, .inl ⟨_, SqL.of hl, rfl⟩, _, _, rfl, rfl, _, rfl, ?_⟩
        refine ite2 (fun hlt => ?_) (fun hlt => ?_)
        · have hlt' := of_decide_eq_true hlt
          rw [List.length_map] at hlt'
          obtain ⟨n, rfl⟩ := Int.eq_ofNat_of_zero_le ha
          have hn' : n < ns.length := by omega
          refine ⟨_, rfl, p, _, _, _, rfl, rfl, SqL.of hp, atI_nat (j := 0) rfl, _, rfl, p, _, _, _, rfl, rfl, SqL.of hp, atI_nat (j := 1) rfl, l, _, _, _, rfl, rfl, SqL.of hl, atI_nat (v := V.int ns[n]) (by simp [hn']), _, rfl, ?_⟩
          have hcell : 0 ≤ (if ns[n] < 0 then -ns[n] else ns[n]) := by split <;> omega
          generalize (if ns[n] < 0 then -ns[n] else ns[n]) = cell at *
          refine ⟨_, rfl, p, _, _, _, rfl, rfl, SqL.of hp, atI_nat (j := 1) rfl, _, _, rfl, rfl, _, rfl, p, _, _, 1, rfl, rfl, hp, rfl, ?_⟩
          have hp2 : upd H p (.lst [V.ref l, V.int ((n : Int) + 1), V.int b, V.int c, V.int d]) p = some (.lst [V.ref l, V.int ((n : Int) + 1), V.int b, V.int c, V.int d]) := upd_same
          have hl2 : upd H p (.lst [V.ref l, V.int ((n : Int) + 1), V.int b, V.int c, V.int d]) l = some (.lst (ns.map V.int)) := by rw [upd_ne nlp]; exact hl
          have sb2 : SameBut p H (upd H p (.lst [V.ref l, V.int ((n : Int) + 1), V.int b, V.int c, V.int d])) := (SameBut.refl p H).upd
          show tSeq _ _ _ _ (upd H p (.lst [V.ref l, V.int ((n : Int) + 1), V.int b, V.int c, V.int d]))
          generalize upd H p (.lst [V.ref l, V.int ((n : Int) + 1), V.int b, V.int c, V.int d]) = H2 at *
          refine ⟨_, rfl, _, _, rfl, rfl, ⟨by decide, by decide, by decide⟩, _, _, rfl, rfl, _, rfl, ?_⟩
          refine ite2 (fun hg => ?_) (fun hg => ?_)
          · refine ⟨_, rfl, _, rfl, _, _, rfl, rfl, hw' _, _, rfl, p, _, _, 2, rfl, rfl, hp2, rfl, ?_⟩
            refine ⟨_, rfl, .inl ⟨_, rfl, _, rfl, _, _, rfl, rfl, mne, ?_⟩⟩
            exact k _ _ (Int.fmod_nonneg_of_pos _ m0) (Int.fmod_lt_of_pos _ m0) ⟨ns, (n : Int) + 1, cell / m, c, d, upd_same, by rw [upd_ne nlp]; exact hl2, hn, by omega, Int.ediv_nonneg hcell (by omega), nlp⟩ sb2.upd
          · refine ⟨_, rfl, _, rfl, p, _, _, 3, rfl, rfl, hp2, rfl, ?_⟩
            exact fin ((n : Int) + 1) b cell d none (some (.int cell)) _ upd_same (by rw [upd_ne nlp]; exact hl2) (by omega) hb sb2.upd
        · exact fin a b c d none none H hp hl ha hb (SameBut.refl p H)
      · refine iteF ?_
        exact fin a b c d none none H hp hl ha hb (SameBut.refl p H)
theorem ok_pick {f fD : Addr} {fd fdD : FuncData} (F : Fun K "_law_pick" "_law_pick" s__law_pick f fd) (T : Blt mg)
    (FD : FnOk P w K mg base CX0 1 fD fdD ["pool", "many"] spDraw) (mgD : mg "_law_draw" = some (.ref fD)) (kD : PySem.W.keepIn K (.ref fD) = true) (bD : Binds K fdD ["pool", "many"] []) : FnOk P w K mg base CX0 2 f fd ["pool", "rows"] spPick := by
  refine F.ok sc__law_pick (fun vs H Q E h => ?_) (fun cdv A outer s H vs Q E hr h => ?_)
  · obtain ⟨p, r, l, xs, rfl, _⟩ := h
    rfl
  · obtain ⟨p, r, l, xs, rfl, hP, hr1, nrp, hx, hz, k⟩ := h
    refine ⟨_, (pss_one (ps_ret (pe_ix (r := rIxL K) ix_list (pv 1) (pe_call FD hr rfl mgD kD bD .nil pass0 (pa_cons (pv 0) (pa_cons (pe_callB call_len (by rfl) T.b_len (by decide +kernel) (pa_cons (pv 1) pa_nil)) pa_nil))) (fun _ _ => rfl)))), ?_⟩
    refine ⟨_, rfl, _, rfl, _, rfl, _, _, rfl, .inl ⟨_, SqL.of hr1, rfl⟩, p, l, (xs.length : Int), rfl, hP, by omega, ?_, fun v H' h0 hv hP' sb => ?_⟩
    · rw [sizeLine_eq] at hz; omega
    · obtain ⟨n, rfl⟩ := Int.eq_ofNat_of_zero_le h0
      have hn : n < xs.length := by omega
      refine ⟨r, xs, _, xs[n], rfl, rfl, SqL.of (sb _ _ nrp hr1), atI_nat (by simp [hn]), ?_⟩
      exact k _ _ (List.getElem_mem hn) hP' sb
end
/-! ### _law_same: of the same data it says True -/
/-- data without dicts, so deep at most -/
def okD : Nat → PyData → Prop
  | 0, _ => False
  | n + 1, d => match d with
    | .dict _ => False
    | .list ds => ds.length ≤ 1000000 ∧ ∀ e ∈ ds, okD n e
    | .tuple ds => ds.length ≤ 1000000 ∧ ∀ e ∈ ds, okD n e
    | _ => True
theorem seqT {K : PySem.W.Frag} {H H' : Hp} {a : Addr} {xs : List V} (s : Same H H') (h : SqT K H a xs) : SqT K H' a xs := by
  rcases h with (h | ⟨o, h⟩) | h
  · exact .inl (.inl (s _ _ h))
  · exact .inl (.inr ⟨o, s _ _ h⟩)
  · exact .inr h
mutual
theorem dp_keep {K : PySem.W.Frag} {H H' : Hp} (s : Same H H') : ∀ {d : PyData} {v : V}, Dp K H v d → Dp K H' v d
  | _, _, .non => .non
  | _, _, .bl b => .bl b
  | _, _, .int i => .int i
  | _, _, .str x => .str x
  | _, _, .lst h t => .lst (s.seq h) (dpAll_keep s t)
  | _, _, .tup h t => .tup (by
      rcases h with (h | ⟨o, h⟩) | h
      · exact .inl (.inl (s _ _ h))
      · exact .inl (.inr ⟨o, s _ _ h⟩)
      · exact .inr h) (dpAll_keep s t)
theorem dpAll_keep {K : PySem.W.Frag} {H H' : Hp} (s : Same H H') : ∀ {ds : List PyData} {vs : List V}, DpAll K H vs ds → DpAll K H' vs ds
  | _, _, .nil => .nil
  | _, _, .cons h t => .cons (dp_keep s h) (dpAll_keep s t)
end
theorem dpAll_at {K : PySem.W.Frag} {H : Hp} : ∀ {ds : List PyData} {vs : List V} {i : Nat} {d : PyData}, DpAll K H vs ds → ds[i]? = some d → ∃ v, vs[i]? = some v ∧ Dp K H v d
  | _, _, _, _, .nil, e => by simp at e
  | _, _, 0, _, .cons h _, e => by
    have := Option.some.inj e
    subst this
    exact ⟨_, rfl, h⟩
  | _, _, i + 1, _, .cons _ t, e => by
    obtain ⟨x, e1, e2⟩ := dpAll_at (i := i) t (by simpa using e)
    exact ⟨x, by simpa using e1, e2⟩
theorem dpAll_len {K : PySem.W.Frag} {H : Hp} : ∀ {ds : List PyData} {vs : List V}, DpAll K H vs ds → vs.length = ds.length
  | _, _, .nil => rfl
  | _, _, .cons _ t => by rw [List.length_cons, List.length_cons, dpAll_len t]
/-- the type of a list, a tuple as the heap tells it -/
theorem tyL {K : PySem.W.Frag} {H : Hp} {a : Addr} {xs : List V} (h : SqL K H a xs) : TyX K H (.ref a) (.type "list") := by
  rcases h with (h | ⟨o, h⟩) | ⟨o, its, n, h, c, _⟩
  · exact .base (.lst h)
  · exact .base (.frz h)
  · exact .kList h c
theorem tyT {K : PySem.W.Frag} {H : Hp} {a : Addr} {xs : List V} (h : SqT K H a xs) : TyX K H (.ref a) (.type "tuple") := by
  rcases h with (h | ⟨o, h⟩) | ⟨o, its, n, h, c, _⟩
  · exact .base (.tup h)
  · exact .fTuple h
  · exact .kTuple h c
theorem any_no {K : PySem.W.Frag} {t : String} (h1 : kitB t "tuple" = some false) (h2 : kitB t "list" = some false) : PySem.W.kitAny K (.type t) [.type "tuple", .type "list"] = some false :=
  kitAny_cons (kit_ty h1) (fun _ => kitAny_cons (kit_ty h2) (fun _ => kitAny_nil) (fun z => by cases z)) (fun z => by cases z)
theorem any_list {K : PySem.W.Frag} : PySem.W.kitAny K (.type "list") [.type "tuple", .type "list"] = some true :=
  kitAny_cons (b := false) (kit_ty (by decide +kernel)) (fun _ => kitAny_cons (b := true) (kit_ty (by decide +kernel)) (fun z => by cases z) (fun _ => rfl)) (fun z => by cases z)
theorem any_tuple {K : PySem.W.Frag} : PySem.W.kitAny K (.type "tuple") [.type "tuple", .type "list"] = some true :=
  kitAny_cons (b := true) (kit_ty (by decide +kernel)) (fun z => by cases z) (fun _ => rfl)
def spSame (K : PySem.W.Frag) (n : Nat) : Sp := fun vs H Q _ => ∃ (v1 v2 : V) (d : PyData), vs = [v1, v2] ∧ Dp K H v1 d ∧ Dp K H v2 d ∧ okD n d ∧ ∀ H', Same H H' → Q (.bl true) H'
section
variable {P : Program} {w : World} {K : PySem.W.Frag} {mg : Str → Option Value} {base : Heap}
theorem ok_same {f : Addr} {fd : FuncData} (F : Fun K "_law_same" "_law_same" s__law_same f fd) (T : Blt mg) (mgS : mg "_law_same" = some (.ref f)) (kS : PySem.W.keepIn K (.ref f) = true) (bS : Binds K fd ["actual", "due"] []) :
    ∀ n : Nat, FnOk P w K mg base CX0 (n + 1) f fd ["actual", "due"] (spSame K n)
  | 0 => by
    refine F.ok sc__law_same (fun vs H Q E h => ?_) (fun cdv A outer s H vs Q E hr h => ?_)
    · obtain ⟨v1, v2, d, rfl, _⟩ := h
      rfl
    · obtain ⟨v1, v2, d, rfl, _, _, z, _⟩ := h
      exact z.elim
  | n + 1 => by
    have FS := ok_same F T mgS kS bS n
    refine F.ok sc__law_same (fun vs H Q E h => ?_) (fun cdv A outer s H vs Q E hr h => ?_)
    · obtain ⟨v1, v2, d, rfl, _⟩ := h
      rfl
    · obtain ⟨v1, v2, d, rfl, h1, h2, hd, k⟩ := h
      refine ⟨_, (pss_cons (ps_if (pt_cmpR op_isN (pv 1) pe_non (nomark _)) (pss_one (ps_ret (pe_cmpR op_isN (pv 0) pe_non (nomark _)))) pss_nil)
    (pss_cons (ps_if (pt_val (pe_callB call_isiT (by rfl) T.b_isinstance (by decide +kernel) (pa_cons (pv 1) (pa_cons (pe_tup (pa_cons (pe_bltn (v := .ty "tuple") (u := .type "tuple") (by rfl) T.b_tuple (by decide +kernel) rfl) (pa_cons (pe_bltn (v := .ty "list") (u := .type "list") (by rfl) T.b_list (by decide +kernel) rfl) pa_nil))) pa_nil)))) (pss_cons (ps_if (PW.pt (pw_or (pt_cmpR op_ne (pe_callB call_isi (by rfl) T.b_isinstance (by decide +kernel) (pa_cons (pv 1) (pa_cons (pe_bltn (v := .ty "tuple") (u := .type "tuple") (by rfl) T.b_tuple (by decide +kernel) rfl) pa_nil))) (pe_callB call_isi (by rfl) T.b_isinstance (by decide +kernel) (pa_cons (pv 0) (pa_cons (pe_bltn (v := .ty "tuple") (u := .type "tuple") (by rfl) T.b_tuple (by decide +kernel) rfl) pa_nil))) (nomark _)) (pw_or1 (pt_cmpR op_ne (pe_callB call_isi (by rfl) T.b_isinstance (by decide +kernel) (pa_cons (pv 1) (pa_cons (pe_bltn (v := .ty "list") (u := .type "list") (by rfl) T.b_list (by decide +kernel) rfl) pa_nil))) (pe_callB call_isi (by rfl) T.b_isinstance (by decide +kernel) (pa_cons (pv 0) (pa_cons (pe_bltn (v := .ty "list") (u := .type "list") (by rfl) T.b_list (by decide +kernel) rfl) pa_nil))) (nomark _))))) (pss_one (ps_ret pe_bl)) pss_nil)
    (pss_cons (ps_if (pt_cmpR op_ne (pe_callB call_len (by rfl) T.b_len (by decide +kernel) (pa_cons (pv 0) pa_nil)) (pe_callB call_len (by rfl) T.b_len (by decide +kernel) (pa_cons (pv 1) pa_nil)) (nomark _)) (pss_one (ps_ret pe_bl)) pss_nil)
    (pss_cons (ps_for PassesOwn.never rfl (pi_range1 (by rfl) T.b_range (pa_cons (pe_callB call_len (by rfl) T.b_len (by decide +kernel) (pa_cons (pv 1) pa_nil)) pa_nil)) (pg_name (i := 2) sc__law_same.nd rfl (Or.inl rfl)) (pss_one (ps_if (pt_not (pt_val (pe_call FS hr rfl mgS kS bS .nil pass0 (pa_cons (pe_ix (r := rIx K) ix_seq (pv 0) (pv 2) (fun _ _ => rfl)) (pa_cons (pe_ix (r := rIx K) ix_seq (pv 1) (pv 2) (fun _ _ => rfl)) pa_nil))))) (pss_one (ps_ret pe_bl)) pss_nil)))
    (pss_one (ps_ret pe_bl))))) pss_nil)
    (pss_cons (ps_if (pt_val (pe_callB call_isi (by rfl) T.b_isinstance (by decide +kernel) (pa_cons (pv 1) (pa_cons (pe_bltn (v := .ty "bool") (u := .type "bool") (by rfl) T.b_bool (by decide +kernel) rfl) pa_nil)))) (pss_one (ps_ret (pe_and (pe_callB call_isi (by rfl) T.b_isinstance (by decide +kernel) (pa_cons (pv 0) (pa_cons (pe_bltn (v := .ty "bool") (u := .type "bool") (by rfl) T.b_bool (by decide +kernel) rfl) pa_nil))) (pe_one (pe_cmpR op_eq (pv 0) (pv 1) (nomark _)))))) pss_nil)
    (pss_cons (ps_if (pt_val (pe_callB call_isi (by rfl) T.b_isinstance (by decide +kernel) (pa_cons (pv 1) (pa_cons (pe_bltn (v := .ty "int") (u := .type "int") (by rfl) T.b_int (by decide +kernel) rfl) pa_nil)))) (pss_one (ps_ret (pe_and (pe_callB call_isi (by rfl) T.b_isinstance (by decide +kernel) (pa_cons (pv 0) (pa_cons (pe_bltn (v := .ty "int") (u := .type "int") (by rfl) T.b_int (by decide +kernel) rfl) pa_nil))) (pe_and (pe_not (pe_callB call_isi (by rfl) T.b_isinstance (by decide +kernel) (pa_cons (pv 0) (pa_cons (pe_bltn (v := .ty "bool") (u := .type "bool") (by rfl) T.b_bool (by decide +kernel) rfl) pa_nil)))) (pe_one (pe_cmpR op_eq (pv 0) (pv 1) (nomark _))))))) pss_nil)
    (pss_one (ps_ret (pe_and (pe_callB call_isi (by rfl) T.b_isinstance (by decide +kernel) (pa_cons (pv 0) (pa_cons (pe_bltn (v := .ty "str") (u := .type "str") (by rfl) T.b_str (by decide +kernel) rfl) pa_nil))) (pe_one (pe_cmpR op_eq (pv 0) (pv 1) (nomark _)))))))))), ?_⟩
      cases d with
      | dict _ => exact hd.elim
      | none =>
        cases h1; cases h2
        refine ⟨_, rfl, rfl, _, rfl, ?_⟩
        refine iteT ?_
        refine ⟨_, rfl, rfl, ?_⟩
        exact k _ (Same.refl _)
      | bool b =>
        cases h1; cases h2
        refine ⟨_, rfl, rfl, _, rfl, ?_⟩
        refine iteF ?_
        refine ⟨_, rfl, (by show 2 ≤ sizeLine; decide), fun p hp => ?_⟩
        refine ⟨_, p, _, .type "bool", _, false, rfl, upd_same, .cons (.ty "tuple") (.cons (.ty "list") .nil), .base (.bl _), any_no (by decide +kernel) (by decide +kernel), false, rfl, ?_⟩
        refine iteF ?_
        refine ⟨_, rfl, _, _, .type "bool", _, true, rfl, .ty "bool", .base (.bl _), kit_ty (by decide +kernel), true, rfl, ?_⟩
        refine iteT ?_
        refine ⟨_, rfl, _, _, .type "bool", _, true, rfl, .ty "bool", .base (.bl _), kit_ty (by decide +kernel), true, rfl, ?_⟩
        refine iteT ?_
        refine ⟨_, rfl, _, rfl, rfl, ?_⟩
        rw [decide_eq_true rfl]
        exact k _ (same_upd (Same.refl _) hp)
      | int i =>
        cases h1; cases h2
        refine ⟨_, rfl, rfl, _, rfl, ?_⟩
        refine iteF ?_
        refine ⟨_, rfl, (by show 2 ≤ sizeLine; decide), fun p hp => ?_⟩
        refine ⟨_, p, _, .type "int", _, false, rfl, upd_same, .cons (.ty "tuple") (.cons (.ty "list") .nil), .base (.int _), any_no (by decide +kernel) (by decide +kernel), false, rfl, ?_⟩
        refine iteF ?_
        refine ⟨_, rfl, _, _, .type "int", _, false, rfl, .ty "bool", .base (.int _), kit_ty (by decide +kernel), false, rfl, ?_⟩
        refine iteF ?_
        refine ⟨_, rfl, _, _, .type "int", _, true, rfl, .ty "int", .base (.int _), kit_ty (by decide +kernel), true, rfl, ?_⟩
        refine iteT ?_
        refine ⟨_, rfl, _, _, .type "int", _, true, rfl, .ty "int", .base (.int _), kit_ty (by decide +kernel), true, rfl, ?_⟩
        refine iteT ?_
        refine ⟨_, rfl, _, _, .type "int", _, false, rfl, .ty "bool", .base (.int _), kit_ty (by decide +kernel), false, rfl, true, rfl, ?_⟩
        refine iteT ?_
        refine ⟨_, rfl, _, rfl, rfl, ?_⟩
        rw [decide_eq_true rfl]
        exact k _ (same_upd (Same.refl _) hp)
      | str x =>
        cases h1; cases h2
        refine ⟨_, rfl, rfl, _, rfl, ?_⟩
        refine iteF ?_
        refine ⟨_, rfl, (by show 2 ≤ sizeLine; decide), fun p hp => ?_⟩
        refine ⟨_, p, _, .type "str", _, false, rfl, upd_same, .cons (.ty "tuple") (.cons (.ty "list") .nil), .base (.str _), any_no (by decide +kernel) (by decide +kernel), false, rfl, ?_⟩
        refine iteF ?_
        refine ⟨_, rfl, _, _, .type "str", _, false, rfl, .ty "bool", .base (.str _), kit_ty (by decide +kernel), false, rfl, ?_⟩
        refine iteF ?_
        refine ⟨_, rfl, _, _, .type "str", _, false, rfl, .ty "int", .base (.str _), kit_ty (by decide +kernel), false, rfl, ?_⟩
        refine iteF ?_
        refine ⟨_, rfl, _, _, .type "str", _, true, rfl, .ty "str", .base (.str _), kit_ty (by decide +kernel), true, rfl, ?_⟩
        refine iteT ?_
        refine ⟨_, rfl, _, rfl, rfl, ?_⟩
        rw [decide_eq_true rfl]
        exact k _ (same_upd (Same.refl _) hp)
      | list ds =>
        cases h1 with
        | lst q1 t1 =>
        cases h2 with
        | lst q2 t2 =>
        rename_i a1 xs1 a2 xs2
        have l1 := dpAll_len t1
        have l2 := dpAll_len t2
        refine ⟨_, rfl, rfl, _, rfl, ?_⟩
        refine iteF ?_
        refine ⟨_, rfl, (by show 2 ≤ sizeLine; decide), fun p hp => ?_⟩
        refine ⟨_, p, _, .type "list", _, true, rfl, upd_same, .cons (.ty "tuple") (.cons (.ty "list") .nil), tyL (Same.seq (same_upd (Same.refl _) hp) q2), any_list, true, rfl, ?_⟩
        refine iteT ?_
        have s0 : Same H (upd H p (.tup [.ty "tuple", .ty "list"])) := same_upd (Same.refl _) hp
        show tSeq _ _ _ _ (upd H p (.tup [.ty "tuple", .ty "list"]))
        generalize upd H p (.tup [V.ty "tuple", V.ty "list"]) = H1 at *
        have p1 := Same.seq s0 q1
        have p2 := Same.seq s0 q2
        refine ⟨_, rfl, _, _, .type "list", _, false, rfl, .ty "tuple", tyL p2, kit_ty (by decide +kernel), _, rfl, _, _, .type "list", _, false, rfl, .ty "tuple", tyL p1, kit_ty (by decide +kernel), rfl, _, rfl, ?_⟩
        refine iteF ?_
        refine ⟨_, rfl, _, _, .type "list", _, true, rfl, .ty "list", tyL p2, kit_ty (by decide +kernel), _, rfl, _, _, .type "list", _, true, rfl, .ty "list", tyL p1, kit_ty (by decide +kernel), rfl, _, rfl, ?_⟩
        refine iteF ?_
        refine ⟨_, rfl, _, _, rfl, .inl ⟨_, p1, rfl⟩, _, rfl, _, _, rfl, .inl ⟨_, p2, rfl⟩, rfl, _, rfl, ?_⟩
        rw [l1, l2]
        refine iteNS rfl ?_
        refine ⟨_, rfl, _, _, rfl, .inl ⟨_, p2, rfl⟩, _, rfl, ?_, ?_, ?_⟩
        · rw [l2]; have := hd.1; omega
        · rw [l2]; have := hd.1; omega
        rw [l2]
        refine for_range (lo := 0) (n := ((ds.length : Nat) : Int).toNat) (fun i σ H' => ∃ v, σ = [some (.ref a1), some (.ref a2), v] ∧ Same H1 H') ⟨none, rfl, Same.refl _⟩ ?_ ?_
        · rintro i σ H' hi ⟨v, rfl, sH⟩
          have hi' : i < ds.length := by simpa using hi
          obtain ⟨x1, e1, d1⟩ := dpAll_at t1 (List.getElem?_eq_getElem hi')
          obtain ⟨x2, e2, d2⟩ := dpAll_at t2 (List.getElem?_eq_getElem hi')
          have s3 := s0.trans sH
          have ei : ((0 : Int) + (i : Int)) = (i : Int) := by omega
          refine ⟨_, rfl, _, rfl, .inl ⟨a1, xs1, _, x1, rfl, rfl, Same.seq sH p1, by rw [ei]; exact atI_nat e1, ?_⟩⟩
          refine ⟨_, rfl, _, rfl, .inl ⟨a2, xs2, _, x2, rfl, rfl, Same.seq sH p2, by rw [ei]; exact atI_nat e2, ?_⟩⟩
          refine ⟨x1, x2, ds[i], rfl, dp_keep s3 d1, dp_keep s3 d2, hd.2 _ (List.getElem_mem hi'), fun H2 s2 => ⟨true, rfl, ?_⟩⟩
          refine iteF ?_
          exact ⟨_, rfl, sH.trans s2⟩
        · rintro σ H' ⟨v, rfl, sH⟩
          exact k _ (s0.trans sH)
      | tuple ds =>
        cases h1 with
        | tup q1 t1 =>
        cases h2 with
        | tup q2 t2 =>
        rename_i a1 xs1 a2 xs2
        have l1 := dpAll_len t1
        have l2 := dpAll_len t2
        refine ⟨_, rfl, rfl, _, rfl, ?_⟩
        refine iteF ?_
        refine ⟨_, rfl, (by show 2 ≤ sizeLine; decide), fun p hp => ?_⟩
        refine ⟨_, p, _, .type "tuple", _, true, rfl, upd_same, .cons (.ty "tuple") (.cons (.ty "list") .nil), tyT (seqT (same_upd (Same.refl _) hp) q2), any_tuple, true, rfl, ?_⟩
        refine iteT ?_
        have s0 : Same H (upd H p (.tup [.ty "tuple", .ty "list"])) := same_upd (Same.refl _) hp
        show tSeq _ _ _ _ (upd H p (.tup [.ty "tuple", .ty "list"]))
        generalize upd H p (.tup [V.ty "tuple", V.ty "list"]) = H1 at *
        have p1 := seqT s0 q1
        have p2 := seqT s0 q2
        refine ⟨_, rfl, _, _, .type "tuple", _, true, rfl, .ty "tuple", tyT p2, kit_ty (by decide +kernel), _, rfl, _, _, .type "tuple", _, true, rfl, .ty "tuple", tyT p1, kit_ty (by decide +kernel), rfl, _, rfl, ?_⟩
        refine iteF ?_
        refine ⟨_, rfl, _, _, .type "tuple", _, false, rfl, .ty "list", tyT p2, kit_ty (by decide +kernel), _, rfl, _, _, .type "tuple", _, false, rfl, .ty "list", tyT p1, kit_ty (by decide +kernel), rfl, _, rfl, ?_⟩
        refine iteF ?_
        refine ⟨_, rfl, _, _, rfl, .inr ⟨_, p1, rfl⟩, _, rfl, _, _, rfl, .inr ⟨_, p2, rfl⟩, rfl, _, rfl, ?_⟩
        rw [l1, l2]
        refine iteNS rfl ?_
        refine ⟨_, rfl, _, _, rfl, .inr ⟨_, p2, rfl⟩, _, rfl, ?_, ?_, ?_⟩
        · rw [l2]; have := hd.1; omega
        · rw [l2]; have := hd.1; omega
        rw [l2]
        refine for_range (lo := 0) (n := ((ds.length : Nat) : Int).toNat) (fun i σ H' => ∃ v, σ = [some (.ref a1), some (.ref a2), v] ∧ Same H1 H') ⟨none, rfl, Same.refl _⟩ ?_ ?_
        · rintro i σ H' hi ⟨v, rfl, sH⟩
          have hi' : i < ds.length := by simpa using hi
          obtain ⟨x1, e1, d1⟩ := dpAll_at t1 (List.getElem?_eq_getElem hi')
          obtain ⟨x2, e2, d2⟩ := dpAll_at t2 (List.getElem?_eq_getElem hi')
          have s3 := s0.trans sH
          have ei : ((0 : Int) + (i : Int)) = (i : Int) := by omega
          refine ⟨_, rfl, _, rfl, .inr (.inl ⟨a1, xs1, _, x1, rfl, rfl, seqT sH p1, by rw [ei]; exact atI_nat e1, ?_⟩)⟩
          refine ⟨_, rfl, _, rfl, .inr (.inl ⟨a2, xs2, _, x2, rfl, rfl, seqT sH p2, by rw [ei]; exact atI_nat e2, ?_⟩)⟩
          refine ⟨x1, x2, ds[i], rfl, dp_keep s3 d1, dp_keep s3 d2, hd.2 _ (List.getElem_mem hi'), fun H2 s2 => ⟨true, rfl, ?_⟩⟩
          refine iteF ?_
          exact ⟨_, rfl, sH.trans s2⟩
        · rintro σ H' ⟨v, rfl, sH⟩
          exact k _ (s0.trans sH)
end
theorem PoolL.keep {H H' : Hp} {p l : Addr} (h : PoolL H p l) (s : Same H H') : PoolL H' p l := by
  obtain ⟨ns, a, b, c, d, h1, h2, h3⟩ := h
  exact ⟨ns, a, b, c, d, s _ _ h1, s _ _ h2, h3⟩
theorem PoolL.ne {H : Hp} {p l q : Addr} (h : PoolL H p l) (hq : H q = none) : q ≠ p := by
  obtain ⟨ns, a, b, c, d, h1, _⟩ := h
  exact fun z => by rw [z, h1] at hq; cases hq
theorem PoolL.nel {H : Hp} {p l q : Addr} (h : PoolL H p l) (hq : H q = none) : q ≠ l := by
  obtain ⟨ns, a, b, c, d, _, h2, _⟩ := h
  exact fun z => by rw [z, h2] at hq; cases hq
theorem PoolL.new {H : Hp} {p l q : Addr} {o : HO} (h : PoolL H p l) (hq : H q = none) : PoolL (upd H q o) p l := h.keep (same_upd (Same.refl _) hq)
theorem PoolL.put {H : Hp} {p l q : Addr} {o : HO} (h : PoolL H p l) (n1 : q ≠ p) (n2 : q ≠ l) : PoolL (upd H q o) p l := by
  obtain ⟨ns, a, b, c, d, h1, h2, h3⟩ := h
  exact ⟨ns, a, b, c, d, by rw [upd_ne n1.symm]; exact h1, by rw [upd_ne n2.symm]; exact h2, h3⟩
theorem okD_flat {n : Nat} {ds : List PyData} (hl : ds.length ≤ 1000000) (h : ∀ e ∈ ds, okD (n + 1) e) : okD (n + 2) (.list ds) ∧ okD (n + 2) (.tuple ds) := ⟨⟨hl, h⟩, ⟨hl, h⟩⟩
theorem okD_two {n : Nat} {a b : PyData} (ha : okD (n + 1) a) (hb : okD (n + 1) b) : okD (n + 2) (.tuple [a, b]) := ⟨by simp, fun e he => by
  rcases List.mem_cons.mp he with rfl | he
  · exact ha
  · rw [List.mem_singleton.mp he]; exact hb⟩
/-! ### methods and makings that may raise; text times a number; X(e) -/
theorem ok_low {P : Program} {w : World} {K : PySem.W.Frag} {mg : Str → Option Value} {base : Heap} {k : Nat} {f : Addr} {fd : FuncData} {ps : List Str} {sp sp' : Sp} (F : FnOk P w K mg base (L2N.CX P w) k f fd ps sp)
    (h : ∀ vs H Q E, sp' vs H Q E → sp vs H Q fun _ _ _ => False) : FnOk P w K mg base CX0 k f fd ps sp' :=
  ⟨fun vs H Q E z => F.len _ _ _ _ (h _ _ _ _ z), fun A outer s H args us vs Q E hr e0 b r z => codeAny_mono (F.run A outer s H args us vs Q _ hr e0 b r (h _ _ _ _ z)) fun res s' q => by
    match res, q with
    | .ok (.ret _), q => exact q
    | .ok .next, q => exact q.elim
    | .ok .brk, q => exact q.elim
    | .ok .cont, q => exact q.elim
    | .error _, ⟨_, _, _, _, _, _, _, _, _, _, _, _, z⟩ => exact z.elim⟩
def tMethS (C : Addr) (m : Str) (sp : Sp) (E : L2.St → XK) (ta : TE) (t : TA) : TE := fun σ H Q => ta σ H fun x H1 => ∃ a dx fs, x = .ref a ∧ H1 a = some (.ins C dx fs) ∧ fs.lookup m = none ∧ t σ H1 fun vs H2 => sp (x :: vs) H2 Q (E σ)
def tMakeS (C : Addr) (sp : Sp) (E : L2.St → XK) (t : TA) : TE := fun σ H Q => t σ H fun vs H1 => ∀ x dx, H1 x = none → H1 dx = none → dx ≠ x →
  sp (.ref x :: vs) (upd (upd H1 dx (.own x)) x (.ins C dx [])) (fun v H2 => v = .non ∧ Q (.ref x) H2) (E σ)
section
variable {X : Cx} {CX : CXT} {k : Nat} {f C : Addr} {fd : FuncData} {ps : List Str} {sp : Sp} {E : L2.St → XK} {x m : Str} {p pos apos : Pos} {e o : Expr} {es : List Expr} {ta : TE} {t : TA}
theorem pe_methS1 {pl : Sem Bool} (he : PE X o ta) (c : Cls X.K C) (hm : Meth X.K C m f) (F : FnOk X.prog X.w X.K X.mg X.base CX k f fd ps sp) (hr : Room k X.A) (hb : Binds X.K fd ps []) (hx : ∀ σ, PassesAt CX X σ (E σ)) (ha : PA X (e :: es) t)
    (hst : starEach (e :: es) X.env = (false, eval e X.env) :: starEach es X.env := by rfl) (hpl : (backTo pos (starEach es X.env)).any (·.1) = false := by rfl)
    (ht : eval (.Call (.Attribute o m apos) (e :: es) [] pos) X.env = (do
      let ov ← eval o X.env
      standAt apos.atName
      let (f, first) ← holding [ov] (getMethod ov m pl)
      callWith pos f first (backTo pos (starEach (e :: es) X.env)) (backToKw pos (keywordEach [] X.env))) := by rfl) :
    PE X (.Call (.Attribute o m apos) (e :: es) [] pos) (tMethS C m sp E ta t) := by
  refine ⟨fun pins s σ H Q I h => ?_⟩
  refine PySem.W.methodCall_KW (pl := pl) (thn (he.run pins s σ H _ I h) fun u s1 ⟨x, H1, I1, rx, a, dx, fs, ex, ea, l, q⟩ => ?_) ht
  subst ex
  obtain rfl : u = Value.ref a := rx
  refine getmeth_ok I1 ea c hm l ?_
  refine PySem.W.callWith_K (first := [.ref a]) (h₀ := X.base) I.ok.mod.kin hm.kp (thn (ha.run pos pins s1 σ H1 _ I1 q) fun us s2 ⟨vs, H2, I2, r, q2⟩ => ⟨I2.kIn, ?_⟩) hst hpl
  exact run_fnS (us := .ref a :: us) (vs := .ref a :: vs) F hr hb (hx σ) I2 (.cons rfl r) q2
theorem pe_methS0 {pl : Sem Bool} (he : PE X o ta) (c : Cls X.K C) (hm : Meth X.K C m f) (F : FnOk X.prog X.w X.K X.mg X.base CX k f fd ps sp) (hr : Room k X.A) (hb : Binds X.K fd ps []) (hx : ∀ σ, PassesAt CX X σ (E σ))
    (ht : eval (.Call (.Attribute o m apos) [] [] pos) X.env = (do
      let ov ← eval o X.env
      standAt apos.atName
      let (f, first) ← holding [ov] (getMethod ov m pl)
      callWith pos f first (backTo pos (starEach [] X.env)) (backToKw pos (keywordEach [] X.env))) := by rfl) :
    PE X (.Call (.Attribute o m apos) [] [] pos) (tMethS C m sp E ta tNil) := by
  refine ⟨fun pins s σ H Q I h => ?_⟩
  refine PySem.W.methodCall_KW (pl := pl) (thn (he.run pins s σ H _ I h) fun u s1 ⟨x, H1, I1, rx, a, dx, fs, ex, ea, l, q⟩ => ?_) ht
  subst ex
  obtain rfl : u = Value.ref a := rx
  refine getmeth_ok I1 ea c hm l ?_
  exact PySem.W.callWith_K0 (first := [.ref a]) I1.kIn hm.kp (run_fnS (us := [.ref a]) (vs := [.ref a]) F hr hb (hx σ) I1 (.cons rfl .nil) q)
theorem run_makeS {pins : List (Addr × Obj)} {σ : L2.St} {H : Hp} {s : Shared} {Q : VK} {us : List Value} {vs : List V} (M : Mk X.K C f) (F : FnOk X.prog X.w X.K X.mg X.base CX k f fd ps sp) (hr : Room (k + 1) X.A) (hb : Binds X.K fd ps [])
    (hx : PassesAt CX X σ (E σ)) (I : Inv X pins σ H s) (r : Vals vs us)
    (h : ∀ x dx, H x = none → H dx = none → dx ≠ x → sp (.ref x :: vs) (upd (upd H dx (.own x)) x (.ins C dx [])) (fun v H2 => v = .non ∧ Q (.ref x) H2) (E σ)) :
    wpAny (model X.prog X.w) X.A (call (.ref C) us) (EP X pins σ Q) X.xe s := by
  have hq := h (s.heap.objs.size + 1) s.heap.objs.size (I.hok.fresh (Nat.le_succ _)) (I.hok.fresh (Nat.le_refl _)) (Nat.ne_of_lt (Nat.lt_succ_self _))
  have I2 := Inv.made (C := C) I
  have r2 : Vals (V.ref (s.heap.objs.size + 1) :: vs) (Value.ref (s.heap.objs.size + 1) :: us) := .cons rfl r
  have hl : (Value.ref (s.heap.objs.size + 1) :: us ++ []).length = ps.length := by
    have e := r2.length
    rw [F.len _ _ _ _ hq] at e
    rw [List.append_nil]
    exact e.symm
  have b := hb _ (Value.ref (s.heap.objs.size + 1) :: us) I2.kIn hl
  rw [List.append_nil] at b
  refine wpAny_call (make_map (f := f) I.kIn M.makes M.init (beq_iff_eq.mp M.fn) (codeAny_mono (F.run _ X.stack _ _ ⟨Value.ref (s.heap.objs.size + 1) :: us, []⟩ (Value.ref (s.heap.objs.size + 1) :: us) _ _ (E σ) (hr.make C us [])
    (I2.env0.make C us []) b r2 hq) fun r s' hq' => ?_))
  cases r with
  | error e => exact hx pins _ _ e s' I2 hq'
  | ok fl =>
    cases fl with
    | ret u =>
      obtain ⟨v, H', I3, rv, ev, q3⟩ := I2.after hq'
      subst ev
      exact ⟨rv, ⟨V.ref (s.heap.objs.size + 1), H', I3, rfl, q3⟩⟩
    | next => exact False.elim hq'
    | brk => exact False.elim hq'
    | cont => exact False.elim hq'
theorem pe_makeS1 (M : Mk X.K C f) (F : FnOk X.prog X.w X.K X.mg X.base CX k f fd ps sp) (hr : Room (k + 1) X.A) (hg : Gl X x) (hm : X.mg x = some (.ref C)) (hb : Binds X.K fd ps []) (hx : ∀ σ, PassesAt CX X σ (E σ))
    (ha : PA X (e :: es) t) (hdb : (x == ("__debug__" : Str)) = false := by decide) (he : starEach (e :: es) X.env = (false, eval e X.env) :: starEach es X.env := by rfl) (hpl : (backTo pos (starEach es X.env)).any (·.1) = false := by rfl) :
    PE X (.Call (.Name x p) (e :: es) [] pos) (tMakeS C sp E t) := by
  refine ⟨fun pins s σ H Q I h => ?_⟩
  refine wpAny_Call_Name_kw (ld_glob I hg hm ?_ hdb)
  refine PySem.W.callWith_K (h₀ := X.base) I.ok.mod.kin M.kp (thn (ha.run pos pins s σ H _ I h) fun us s1 ⟨vs, H1, I1, r, q⟩ => ⟨I1.kIn, ?_⟩) he hpl
  exact run_makeS M F hr hb (hx σ) I1 r q
/-- X(e), where what is made keeps no context -/
theorem pmk_own1N {bmB : List Value} {B newId initId : String} (F : ExcBaseFacts B newId initId bmB) (q : PySem.W.excIn X.K C bmB newId = true) (gC : X.mg x = some (.ref C)) (kC : PySem.W.keepIn X.K (.ref C) = true) (r : Raises X (.ref C)) (hg : Gl X x)
    (he : PE X e ta) (hs : starEach [e] X.env = (false, eval e X.env) :: starEach [] X.env := by rfl) (hdb : (x == ("__debug__" : Str)) = false := by decide) :
    L2N.PMk X (.Call (.Name x p) [e] [] pos) (fun σ H Q => ta σ H fun _ H1 => Q (.ref C) none H1) := by
  intro pins s σ H Q I h
  refine wpAny_Call_Name_kw (ld_glob I hg gC ?_ hdb)
  refine PySem.W.callWith_K (h₀ := X.base) I.ok.mod.kin kC ?_ hs (by rfl)
  rw [hs]
  show wpAny _ _ (spliced ((false, eval e X.env) :: backTo pos (starEach [] X.env))) _ _ s
  refine Calls.spliced_cons (thn (he.run pins s σ H _ I h) fun u s1 ⟨v, H1, I1, r1, q1⟩ => ?_)
  refine Calls.spliced_nil ⟨I1.kIn, ?_⟩
  show wpAny _ _ (call (.ref C) [u]) _ _ _
  obtain ⟨bm, N, nm, qn, bs, hdct, sn, sub, ab, col, dd, k0, k1, k2, k3, k5, mN, hC, hN, hni, T⟩ := exc_obj I1.kIn q
  refine wpAny_call_exc_subT F T hC hN hni (fun h' e hm => ?_) (by show 1 ≤ sizeLine; rw [sizeLine_eq]; omega)
  exact L2N.mk_of I1 hm r q1 (I1.hok.gone hm.new)
theorem op_mul_str : OpR X (binaryOp .Mult) (fun x y H Q => ∃ (z : Str) (n : Int), x = .str z ∧ y = .int n ∧ MulOk z n ∧ Q (.str (Txt.mul z n)) H) := by
  intro pins s σ H x y v u Q I rx ry h
  obtain ⟨z, n, rfl, rfl, ok, q⟩ := h
  obtain ⟨t, rfl⟩ := rx
  obtain ⟨t', rfl⟩ := ry
  exact PySem.SB.mul ok fun t2 k => ⟨.str _, H, I.kept (t' := k) fun _ _ e => e, ⟨_, rfl⟩, q⟩
end
section steps
variable {σ : L2.St} {H : Hp} {D : Ends}
theorem w_methS {C : Addr} {m : Str} {sp : Sp} {E : L2.St → XK} {ta : TE} {t : TA} {Q : VK} (h : ta σ H fun x H1 => ∃ a dx fs, x = .ref a ∧ H1 a = some (.ins C dx fs) ∧ fs.lookup m = none ∧ t σ H1 fun vs H2 => sp (x :: vs) H2 Q (E σ)) : tMethS C m sp E ta t σ H Q := h
theorem w_makeS {C : Addr} {sp : Sp} {E : L2.St → XK} {t : TA} {Q : VK} (h : t σ H fun vs H1 => ∀ x dx, H1 x = none → H1 dx = none → dx ≠ x → sp (.ref x :: vs) (upd (upd H1 dx (.own x)) x (.ins C dx [])) (fun v H2 => v = .non ∧ Q (.ref x) H2) (E σ)) : tMakeS C sp E t σ H Q := h
theorem w_dictD {a : Addr} {kvs : List (Key × V)} {R : List (Key × V) → Addr → Prop} (h : H a = some (.dK kvs)) (k : ∀ p, H p = none → R kvs p) : ∃ (b : Addr) (ks : List (Key × V)), [V.ref a] = [.ref b] ∧ Rd H b (.dK ks) ∧ ∀ p, H p = none → R ks p := ⟨a, kvs, rfl, Rd.of h, k⟩
theorem w_isD {a : Addr} {kvs : List (Key × V)} {P : Addr → Prop} (h : H a = some (.dK kvs)) (k : P a) : ∃ b, V.ref a = .ref b ∧ IsD H b ∧ P b := ⟨a, rfl, .inl ⟨kvs, Rd.of h⟩, k⟩
theorem w_dpop {td ty : TE} {Q : VK} (h : td σ H fun x H1 => ∃ a, x = .ref a ∧ IsD H1 a ∧ ty σ H1 fun y H2 => ∃ kvs k v, H2 a = some (.dK kvs) ∧ y = kV k ∧ valV kvs k = some v ∧ Q v (upd H2 a (.dK (dropK kvs k)))) : tDPop1 td ty σ H Q := h
theorem w_dpopS {a : Addr} {kvs : List (Key × V)} {x : Str} {v : V} {R : List (Key × V) → Key → V → Prop} (h : H a = some (.dK kvs)) (e : valV kvs (Sum.inr x : Key) = some v) (k : R kvs (Sum.inr x) v) :
    ∃ kvs k v, H a = some (.dK kvs) ∧ V.str x = kV k ∧ valV kvs k = some v ∧ R kvs k v := ⟨kvs, Sum.inr x, v, h, rfl, e, k⟩
end steps
theorem _root_.L2.Fun.okN {P : Program} {w : World} {K : PySem.W.Frag} {mg : Str → Option Value} {base : Heap} {x qual : Str} {st : Stmt} {f : Addr} {fd : FuncData} {N ps : List Str} {k : Nat} {sp : Sp} (F : Fun K x qual st f fd) (S : FnScope N ps (defScope st)) (len : ∀ vs H Q E, sp vs H Q E → vs.length = ps.length)
    (hbody : ∀ (cdv : Value) (A : Around) (outer : List Env) (s : Shared) (H : Hp) (vs : List V) (Q : VK) (E : XK), Room k (A.deeper (envOfC qual (defScope st) s.heap.objs.size f cdv)) → sp vs H Q E →
      ∃ t, PSs (cxOf (L2N.CX P w) P w K mg base N qual (defScope st) f cdv A outer s H E) (defBody st) t ∧ t { nx := fun _ H' => Q .non H', rt := Q } (start N vs) H) : FnOk P w K mg base (L2N.CX P w) (k + 1) f fd ps sp := by
  obtain ⟨oc, od, kV, doc, pm, an, cdv, ct, osl, rfl, lk, hcd⟩ := F.ex
  exact fn_of lk hcd S len fun A outer s H vs Q E hr hsp => hbody cdv A outer s H vs Q E hr hsp
theorem w_notT {K : PySem.W.Frag} {ta : TE} {σ : L2.St} {H : Hp} {Q : VK} (h : ta σ H fun x H1 => ∃ k, TruV K x H1 k ∧ Q (.bl (!k)) H1) : tNotT K ta σ H Q := h
section steps
variable {H : Hp} {K : PySem.W.Frag}
theorem w_isiI {i : Int} {n : String} {b : Bool} {Q : VK} (k : kitB "int" n = some b) (q : Q (.bl b) H) : rIsi K [.int i, .ty n] H Q := ⟨_, _, .type "int", .type n, b, rfl, .ty n, .base (.int _), kit_ty k, q⟩
theorem w_isiB {i : Bool} {n : String} {b : Bool} {Q : VK} (k : kitB "bool" n = some b) (q : Q (.bl b) H) : rIsi K [.bl i, .ty n] H Q := ⟨_, _, .type "bool", .type n, b, rfl, .ty n, .base (.bl _), kit_ty k, q⟩
theorem w_isiS {i : Str} {n : String} {b : Bool} {Q : VK} (k : kitB "str" n = some b) (q : Q (.bl b) H) : rIsi K [.str i, .ty n] H Q := ⟨_, _, .type "str", .type n, b, rfl, .ty n, .base (.str _), kit_ty k, q⟩
theorem w_isiN {n : String} {b : Bool} {Q : VK} (k : kitB "NoneType" n = some b) (q : Q (.bl b) H) : rIsi K [.non, .ty n] H Q := ⟨_, _, .type "NoneType", .type n, b, rfl, .ty n, .base .non, kit_ty k, q⟩
theorem w_isiL {a : Addr} {xs : List V} {n : String} {b : Bool} {Q : VK} (h : H a = some (.lst xs)) (k : kitB "list" n = some b) (q : Q (.bl b) H) : rIsi K [.ref a, .ty n] H Q := ⟨_, _, .type "list", .type n, b, rfl, .ty n, .base (.lst h), kit_ty k, q⟩
theorem w_isiT {a : Addr} {xs : List V} {n : String} {b : Bool} {Q : VK} (h : H a = some (.tup xs)) (k : kitB "tuple" n = some b) (q : Q (.bl b) H) : rIsi K [.ref a, .ty n] H Q := ⟨_, _, .type "tuple", .type n, b, rfl, .ty n, tyT (SqT.of h), kit_ty k, q⟩
theorem w_trL {a : Addr} {xs : List V} {P : Bool → Prop} (h : H a = some (.lst xs)) (k : P (!xs.isEmpty)) : ∃ c, TruV K (.ref a) H c ∧ P c := ⟨_, .inl ⟨_, SqL.of h, rfl⟩, k⟩
end steps
theorem w_chain {r r' : R2} {ta tb tc : TE} {σ : L2.St} {H : Hp} {Q : VK} (h : ta σ H fun x H1 => tb σ H1 fun y H2 => r x y H2 fun z H3 => ∃ k, z = .bl k ∧ (if k = true then tc σ H3 fun w' H4 => r' y w' H4 Q else Q (.bl false) H3)) : tChain r r' ta tb tc σ H Q := h
theorem mkS_app (a b : List Nat) : mkS a ++ mkS b = mkS (a ++ b) := TL.ext_tl (by rw [TL.tl_append])
section steps
variable {σ : L2.St} {H : Hp} {K : PySem.W.Frag}
theorem w_gTup {n : Nat} {g : TGs} {a : Addr} {xs : List V} {Q : L2.St → Hp → Prop} (h : H a = some (.tup xs)) (l : xs.length = n) (k : g xs σ H Q) : gTup K n g (.ref a) σ H Q := ⟨a, xs, rfl, SqT.of h, l, k⟩
theorem w_gLst {n : Nat} {g : TGs} {a : Addr} {xs : List V} {Q : L2.St → Hp → Prop} (h : H a = some (.lst xs)) (l : xs.length = n) (k : g xs σ H Q) : gLst K n g (.ref a) σ H Q := ⟨a, xs, rfl, SqL.of h, l, k⟩
theorem w_gCons {t : TG} {u : TGs} {v : V} {r : List V} {Q : L2.St → Hp → Prop} (h : t v σ H fun σ' H' => u r σ' H' Q) : gCons t u (v :: r) σ H Q := ⟨v, r, rfl, h⟩
theorem w_gNil {Q : L2.St → Hp → Prop} (h : Q σ H) : gNil [] σ H Q := ⟨rfl, h⟩
end steps
/-! ### dicts by index, dicts of texts -/
def kvI (l : List V) : List (Key × V) := l.zipIdx.map fun p => ((Sum.inl (p.2 : Int) : Key), p.1)
def kvIn (n : Nat) (l : List V) : List (Key × V) := (l.zipIdx n).map fun p => ((Sum.inl (p.2 : Int) : Key), p.1)
theorem kvIn_cons (n : Nat) (a : V) (r : List V) : kvIn n (a :: r) = ((Sum.inl (n : Int) : Key), a) :: kvIn (n + 1) r := rfl
theorem kvIn_val : ∀ (l : List V) (n i : Nat), valV (kvIn n l) (Sum.inl ((n + i : Nat) : Int)) = l[i]?
  | [], _, _ => rfl
  | a :: r, n, 0 => valV_pos rfl
  | a :: r, n, i + 1 => by
    rw [kvIn_cons, valV_neg (by intro z; have := Sum.inl.inj z; omega), show n + (i + 1) = (n + 1) + i by omega, kvIn_val r (n + 1) i]
    rfl
theorem kvI_val (l : List V) (i : Nat) : valV (kvI l) (Sum.inl (i : Int)) = l[i]? := by
  have := kvIn_val l 0 i
  rw [Nat.zero_add] at this
  exact this
theorem kvI_get {l : List V} {i : Nat} {v : V} (h : l[i]? = some v) : valV (kvI l) (Sum.inl (i : Int)) = some v := by rw [kvI_val]; exact h
theorem kvI_len (l : List V) : (kvI l).length = l.length := by unfold kvI; rw [List.length_map, List.length_zipIdx]
theorem kvIn_any : ∀ (l : List V) (n i : Nat), ((kvIn n l).any fun kv => decide (kv.1 = (Sum.inl ((n + i : Nat) : Int) : Key))) = decide (i < l.length)
  | [], _, _ => rfl
  | a :: r, n, 0 => by rw [kvIn_cons, List.any_cons]; simp
  | a :: r, n, i + 1 => by
    rw [kvIn_cons, List.any_cons, show n + (i + 1) = (n + 1) + i by omega, kvIn_any r (n + 1) i, List.length_cons]
    have : decide ((Sum.inl (n : Int) : Key) = Sum.inl ((n + 1 + i : Nat) : Int)) = false := decide_eq_false fun z => by have := Sum.inl.inj z; omega
    rw [this, Bool.false_or]
    rw [Bool.eq_iff_iff, decide_eq_true_eq, decide_eq_true_eq]
    omega
theorem kvIn_map : ∀ (l : List V) (n i : Nat) (v : V), (kvIn n l).map (fun kv => if kv.1 = (Sum.inl ((n + i : Nat) : Int) : Key) then (kv.1, v) else kv) = kvIn n (l.set i v)
  | [], _, _, _ => rfl
  | a :: r, n, 0, v => by
    rw [kvIn_cons, List.map_cons, List.set_cons_zero, kvIn_cons, if_pos (show (Sum.inl (n : Int) : Key) = Sum.inl ((n + 0 : Nat) : Int) from rfl)]
    congr 1
    have : ∀ (r : List V) (m : Nat), n + 0 < m → (kvIn m r).map (fun kv => if kv.1 = (Sum.inl ((n + 0 : Nat) : Int) : Key) then (kv.1, v) else kv) = kvIn m r := by
      intro r
      induction r with
      | nil => intro m _; rfl
      | cons b s ih =>
        intro m hm
        rw [kvIn_cons, List.map_cons, if_neg (by intro z; have := Sum.inl.inj z; omega), ih (m + 1) (by omega)]
    exact this r (n + 1) (by omega)
  | a :: r, n, i + 1, v => by
    rw [kvIn_cons, List.map_cons, List.set_cons_succ, kvIn_cons, if_neg (by intro z; have := Sum.inl.inj z; omega), show n + (i + 1) = (n + 1) + i by omega, kvIn_map r (n + 1) i v]
theorem kvI_put {l : List V} {i : Nat} {v : V} (h : i < l.length) : putK (kvI l) (Sum.inl (i : Int)) v = kvI (l.set i v) := by
  have e1 := kvIn_any l 0 i
  have e2 := kvIn_map l 0 i v
  rw [Nat.zero_add] at e1 e2
  unfold putK
  show (if ((kvIn 0 l).any fun kv => decide (kv.1 = (Sum.inl ((i : Nat) : Int) : Key))) = true then (kvIn 0 l).map (fun kv => if kv.1 = (Sum.inl ((i : Nat) : Int) : Key) then (kv.1, v) else kv) else _) = kvIn 0 (l.set i v)
  rw [e1, if_pos (decide_eq_true h), e2]
theorem kvI_end {l : List V} {v : V} : putK (kvI l) (Sum.inl (l.length : Int)) v = kvI (l ++ [v]) := by
  have e1 := kvIn_any l 0 l.length
  rw [Nat.zero_add] at e1
  unfold putK
  show (if ((kvIn 0 l).any fun kv => decide (kv.1 = (Sum.inl ((l.length : Nat) : Int) : Key))) = true then _ else kvIn 0 l ++ [(Sum.inl ((l.length : Nat) : Int), v)]) = kvIn 0 (l ++ [v])
  rw [e1, if_neg (by simp)]
  unfold kvIn
  rw [List.zipIdx_append, List.map_append]
  simp
def kvN (l : List (List Nat × Nat)) : List (Key × V) := l.map fun p => ((Sum.inr (mkS p.1) : Key), V.int p.2)
theorem mkS_inj {a b : List Nat} (h : mkS a = mkS b) : a = b := by
  have := congrArg tl h
  exact this
theorem kvN_val : ∀ (l : List (List Nat × Nat)) (x : List Nat), valV (kvN l) (Sum.inr (mkS x)) = (l.lookup x).map fun n => V.int n
  | [], _ => rfl
  | (y, n) :: r, x => by
    show valV (((Sum.inr (mkS y) : Key), V.int n) :: kvN r) _ = _
    by_cases e : y = x
    · subst e
      rw [valV_pos rfl, List.lookup_cons, show (y == y) = true by simp]
      rfl
    · rw [valV_neg (by intro z; exact e (mkS_inj (Sum.inr.inj z))), kvN_val r x, List.lookup_cons, show (x == y) = false by simpa using fun z : x = y => e z.symm]
theorem kvN_len (l : List (List Nat × Nat)) : (kvN l).length = l.length := by unfold kvN; rw [List.length_map]
theorem kvN_put {l : List (List Nat × Nat)} {x : List Nat} {n : Nat} (h : l.lookup x = none) : putK (kvN l) (Sum.inr (mkS x)) (.int n) = kvN (l ++ [(x, n)]) := by
  unfold putK
  rw [valV_any, kvN_val, h, if_neg (by simp)]
  unfold kvN
  rw [List.map_append]; rfl
theorem kvN_drop (l : List (List Nat × Nat)) (x : List Nat) : dropK (kvN l) (Sum.inr (mkS x)) = kvN (l.filter fun p => decide (p.1 ≠ x)) := by
  unfold dropK kvN
  rw [List.filter_map]
  congr 1
  apply List.filter_congr
  intro p _
  show decide ((Sum.inr (mkS p.1) : Key) ≠ Sum.inr (mkS x)) = decide (p.1 ≠ x)
  rw [Bool.eq_iff_iff, decide_eq_true_eq, decide_eq_true_eq]
  exact ⟨fun z y => z (by rw [y]), fun z y => z (mkS_inj (Sum.inr.inj y))⟩
theorem kvN_keys (l : List (List Nat × Nat)) : (kvN l).map (·.1) = (l.map fun p => mkS p.1).map Sum.inr := by
  unfold kvN
  rw [List.map_map, List.map_map]
  rfl
/-- what the top holds -/
structure Nms (K : PySem.W.Frag) (mg : Str → Option Value) where
  T : Blt mg
  a_check_of : Addr
  d_check_of : FuncData
  b_check_of : Binds K d_check_of ["text"] []
  k_check_of : PySem.W.keepIn K (.ref a_check_of) = true
  F_check_of : Fun K "check_of" "check_of" s_check_of a_check_of d_check_of
  g_check_of : mg "check_of" = some (.ref a_check_of)
  a_checked_text : Addr
  d_checked_text : FuncData
  b_checked_text : Binds K d_checked_text ["text"] []
  k_checked_text : PySem.W.keepIn K (.ref a_checked_text) = true
  F_checked_text : Fun K "checked_text" "checked_text" s_checked_text a_checked_text d_checked_text
  g_checked_text : mg "checked_text" = some (.ref a_checked_text)
  a_framed : Addr
  d_framed : FuncData
  b_framed : Binds K d_framed ["text"] []
  k_framed : PySem.W.keepIn K (.ref a_framed) = true
  F_framed : Fun K "framed" "framed" s_framed a_framed d_framed
  g_framed : mg "framed" = some (.ref a_framed)
  a__number : Addr
  d__number : FuncData
  b__number : Binds K d__number ["text", "at"] []
  k__number : PySem.W.keepIn K (.ref a__number) = true
  F__number : Fun K "_number" "_number" s__number a__number d__number
  g__number : mg "_number" = some (.ref a__number)
  a_one_frame : Addr
  d_one_frame : FuncData
  b_one_frame : Binds K d_one_frame ["text", "at"] []
  k_one_frame : PySem.W.keepIn K (.ref a_one_frame) = true
  F_one_frame : Fun K "one_frame" "one_frame" s_one_frame a_one_frame d_one_frame
  g_one_frame : mg "one_frame" = some (.ref a_one_frame)
  a_is_number : Addr
  d_is_number : FuncData
  b_is_number : Binds K d_is_number ["value", "least", "most"] []
  k_is_number : PySem.W.keepIn K (.ref a_is_number) = true
  F_is_number : ∃ dvs, FunD K "is_number" "is_number" (defArgs s_is_number) (defBody s_is_number) (defScope s_is_number) dvs [] a_is_number d_is_number
  g_is_number : mg "is_number" = some (.ref a_is_number)
  a_checked_number : Addr
  d_checked_number : FuncData
  b_checked_number : Binds K d_checked_number ["value", "least", "most"] []
  k_checked_number : PySem.W.keepIn K (.ref a_checked_number) = true
  F_checked_number : ∃ dvs, FunD K "checked_number" "checked_number" (defArgs s_checked_number) (defBody s_checked_number) (defScope s_checked_number) dvs [] a_checked_number d_checked_number
  g_checked_number : mg "checked_number" = some (.ref a_checked_number)
  a_snap_name : Addr
  d_snap_name : FuncData
  b_snap_name : Binds K d_snap_name ["number"] []
  k_snap_name : PySem.W.keepIn K (.ref a_snap_name) = true
  F_snap_name : Fun K "snap_name" "snap_name" s_snap_name a_snap_name d_snap_name
  g_snap_name : mg "snap_name" = some (.ref a_snap_name)
  a_is_snap : Addr
  d_is_snap : FuncData
  b_is_snap : Binds K d_is_snap ["name"] []
  k_is_snap : PySem.W.keepIn K (.ref a_is_snap) = true
  F_is_snap : Fun K "is_snap" "is_snap" s_is_snap a_is_snap d_is_snap
  g_is_snap : mg "is_snap" = some (.ref a_is_snap)
  a_snap_names : Addr
  d_snap_names : FuncData
  b_snap_names : Binds K d_snap_names ["disk"] []
  k_snap_names : PySem.W.keepIn K (.ref a_snap_names) = true
  F_snap_names : Fun K "snap_names" "snap_names" s_snap_names a_snap_names d_snap_names
  g_snap_names : mg "snap_names" = some (.ref a_snap_names)
  a_number_of : Addr
  d_number_of : FuncData
  b_number_of : Binds K d_number_of ["name"] []
  k_number_of : PySem.W.keepIn K (.ref a_number_of) = true
  F_number_of : Fun K "number_of" "number_of" s_number_of a_number_of d_number_of
  g_number_of : mg "number_of" = some (.ref a_number_of)
  a_write_aside : Addr
  d_write_aside : FuncData
  b_write_aside : Binds K d_write_aside ["disk", "text"] []
  k_write_aside : PySem.W.keepIn K (.ref a_write_aside) = true
  F_write_aside : Fun K "write_aside" "write_aside" s_write_aside a_write_aside d_write_aside
  g_write_aside : mg "write_aside" = some (.ref a_write_aside)
  a_name_it : Addr
  d_name_it : FuncData
  b_name_it : Binds K d_name_it ["disk", "number"] []
  k_name_it : PySem.W.keepIn K (.ref a_name_it) = true
  F_name_it : Fun K "name_it" "name_it" s_name_it a_name_it d_name_it
  g_name_it : mg "name_it" = some (.ref a_name_it)
  a_save : Addr
  d_save : FuncData
  b_save : Binds K d_save ["disk", "number", "text"] []
  k_save : PySem.W.keepIn K (.ref a_save) = true
  F_save : Fun K "save" "save" s_save a_save d_save
  g_save : mg "save" = some (.ref a_save)
  a_drop_older : Addr
  d_drop_older : FuncData
  b_drop_older : Binds K d_drop_older ["disk", "number"] []
  k_drop_older : PySem.W.keepIn K (.ref a_drop_older) = true
  F_drop_older : Fun K "drop_older" "drop_older" s_drop_older a_drop_older d_drop_older
  g_drop_older : mg "drop_older" = some (.ref a_drop_older)
  a_whole_snap : Addr
  d_whole_snap : FuncData
  b_whole_snap : Binds K d_whole_snap ["disk", "name"] []
  k_whole_snap : PySem.W.keepIn K (.ref a_whole_snap) = true
  F_whole_snap : Fun K "whole_snap" "whole_snap" s_whole_snap a_whole_snap d_whole_snap
  g_whole_snap : mg "whole_snap" = some (.ref a_whole_snap)
  a_load : Addr
  d_load : FuncData
  b_load : Binds K d_load ["disk"] []
  k_load : PySem.W.keepIn K (.ref a_load) = true
  F_load : Fun K "load" "load" s_load a_load d_load
  g_load : mg "load" = some (.ref a_load)
  a_clean : Addr
  d_clean : FuncData
  b_clean : Binds K d_clean ["disk"] []
  k_clean : PySem.W.keepIn K (.ref a_clean) = true
  F_clean : Fun K "clean" "clean" s_clean a_clean d_clean
  g_clean : mg "clean" = some (.ref a_clean)
  a_Disk___init__ : Addr
  d_Disk___init__ : FuncData
  b_Disk___init__ : Binds K d_Disk___init__ ["self"] []
  k_Disk___init__ : PySem.W.keepIn K (.ref a_Disk___init__) = true
  F_Disk___init__ : Fun K "__init__" "Disk.__init__" s_Disk___init__ a_Disk___init__ d_Disk___init__
  a_Disk_names : Addr
  d_Disk_names : FuncData
  b_Disk_names : Binds K d_Disk_names ["self"] []
  k_Disk_names : PySem.W.keepIn K (.ref a_Disk_names) = true
  F_Disk_names : Fun K "names" "Disk.names" s_Disk_names a_Disk_names d_Disk_names
  a_Disk_has : Addr
  d_Disk_has : FuncData
  b_Disk_has : Binds K d_Disk_has ["self", "name"] []
  k_Disk_has : PySem.W.keepIn K (.ref a_Disk_has) = true
  F_Disk_has : Fun K "has" "Disk.has" s_Disk_has a_Disk_has d_Disk_has
  a_Disk__file : Addr
  d_Disk__file : FuncData
  b_Disk__file : Binds K d_Disk__file ["self", "name"] []
  k_Disk__file : PySem.W.keepIn K (.ref a_Disk__file) = true
  F_Disk__file : Fun K "_file" "Disk._file" s_Disk__file a_Disk__file d_Disk__file
  a_Disk_read : Addr
  d_Disk_read : FuncData
  b_Disk_read : Binds K d_Disk_read ["self", "name"] []
  k_Disk_read : PySem.W.keepIn K (.ref a_Disk_read) = true
  F_Disk_read : Fun K "read" "Disk.read" s_Disk_read a_Disk_read d_Disk_read
  a_Disk_make : Addr
  d_Disk_make : FuncData
  b_Disk_make : Binds K d_Disk_make ["self", "name"] []
  k_Disk_make : PySem.W.keepIn K (.ref a_Disk_make) = true
  F_Disk_make : Fun K "make" "Disk.make" s_Disk_make a_Disk_make d_Disk_make
  a_Disk__change : Addr
  d_Disk__change : FuncData
  b_Disk__change : Binds K d_Disk__change ["self", "row"] []
  k_Disk__change : PySem.W.keepIn K (.ref a_Disk__change) = true
  F_Disk__change : Fun K "_change" "Disk._change" s_Disk__change a_Disk__change d_Disk__change
  a_Disk_write : Addr
  d_Disk_write : FuncData
  b_Disk_write : Binds K d_Disk_write ["self", "name", "text"] []
  k_Disk_write : PySem.W.keepIn K (.ref a_Disk_write) = true
  F_Disk_write : Fun K "write" "Disk.write" s_Disk_write a_Disk_write d_Disk_write
  a_Disk_sync : Addr
  d_Disk_sync : FuncData
  b_Disk_sync : Binds K d_Disk_sync ["self", "name"] []
  k_Disk_sync : PySem.W.keepIn K (.ref a_Disk_sync) = true
  F_Disk_sync : Fun K "sync" "Disk.sync" s_Disk_sync a_Disk_sync d_Disk_sync
  a_Disk_sync_names : Addr
  d_Disk_sync_names : FuncData
  b_Disk_sync_names : Binds K d_Disk_sync_names ["self"] []
  k_Disk_sync_names : PySem.W.keepIn K (.ref a_Disk_sync_names) = true
  F_Disk_sync_names : Fun K "sync_names" "Disk.sync_names" s_Disk_sync_names a_Disk_sync_names d_Disk_sync_names
  a_Disk_move : Addr
  d_Disk_move : FuncData
  b_Disk_move : Binds K d_Disk_move ["self", "one", "other"] []
  k_Disk_move : PySem.W.keepIn K (.ref a_Disk_move) = true
  F_Disk_move : Fun K "move" "Disk.move" s_Disk_move a_Disk_move d_Disk_move
  a_Disk_remove : Addr
  d_Disk_remove : FuncData
  b_Disk_remove : Binds K d_Disk_remove ["self", "name"] []
  k_Disk_remove : PySem.W.keepIn K (.ref a_Disk_remove) = true
  F_Disk_remove : Fun K "remove" "Disk.remove" s_Disk_remove a_Disk_remove d_Disk_remove
  a_Disk_late_changes : Addr
  d_Disk_late_changes : FuncData
  b_Disk_late_changes : Binds K d_Disk_late_changes ["self"] []
  k_Disk_late_changes : PySem.W.keepIn K (.ref a_Disk_late_changes) = true
  F_Disk_late_changes : Fun K "late_changes" "Disk.late_changes" s_Disk_late_changes a_Disk_late_changes d_Disk_late_changes
  a_Disk_late_size : Addr
  d_Disk_late_size : FuncData
  b_Disk_late_size : Binds K d_Disk_late_size ["self", "name"] []
  k_Disk_late_size : PySem.W.keepIn K (.ref a_Disk_late_size) = true
  F_Disk_late_size : Fun K "late_size" "Disk.late_size" s_Disk_late_size a_Disk_late_size d_Disk_late_size
  a_Disk_late_files : Addr
  d_Disk_late_files : FuncData
  b_Disk_late_files : Binds K d_Disk_late_files ["self"] []
  k_Disk_late_files : PySem.W.keepIn K (.ref a_Disk_late_files) = true
  F_Disk_late_files : Fun K "late_files" "Disk.late_files" s_Disk_late_files a_Disk_late_files d_Disk_late_files
  a_Disk_copy : Addr
  d_Disk_copy : FuncData
  b_Disk_copy : Binds K d_Disk_copy ["self"] []
  k_Disk_copy : PySem.W.keepIn K (.ref a_Disk_copy) = true
  F_Disk_copy : Fun K "copy" "Disk.copy" s_Disk_copy a_Disk_copy d_Disk_copy
  a_Disk_cut_off : Addr
  d_Disk_cut_off : FuncData
  b_Disk_cut_off : Binds K d_Disk_cut_off ["self", "changes", "tears"] []
  k_Disk_cut_off : PySem.W.keepIn K (.ref a_Disk_cut_off) = true
  F_Disk_cut_off : Fun K "cut_off" "Disk.cut_off" s_Disk_cut_off a_Disk_cut_off d_Disk_cut_off
  a_applied : Addr
  d_applied : FuncData
  b_applied : Binds K d_applied ["names", "changes"] []
  k_applied : PySem.W.keepIn K (.ref a_applied) = true
  F_applied : Fun K "applied" "applied" s_applied a_applied d_applied
  g_applied : mg "applied" = some (.ref a_applied)
  a_checked_tears : Addr
  d_checked_tears : FuncData
  b_checked_tears : Binds K d_checked_tears ["disk", "changes", "tears"] []
  k_checked_tears : PySem.W.keepIn K (.ref a_checked_tears) = true
  F_checked_tears : Fun K "checked_tears" "checked_tears" s_checked_tears a_checked_tears d_checked_tears
  g_checked_tears : mg "checked_tears" = some (.ref a_checked_tears)
  a_all_lost : Addr
  d_all_lost : FuncData
  b_all_lost : Binds K d_all_lost ["disk"] []
  k_all_lost : PySem.W.keepIn K (.ref a_all_lost) = true
  F_all_lost : Fun K "all_lost" "all_lost" s_all_lost a_all_lost d_all_lost
  g_all_lost : mg "all_lost" = some (.ref a_all_lost)
  a__law_same : Addr
  d__law_same : FuncData
  b__law_same : Binds K d__law_same ["actual", "due"] []
  k__law_same : PySem.W.keepIn K (.ref a__law_same) = true
  F__law_same : Fun K "_law_same" "_law_same" s__law_same a__law_same d__law_same
  g__law_same : mg "_law_same" = some (.ref a__law_same)
  a__law_pool : Addr
  d__law_pool : FuncData
  b__law_pool : Binds K d__law_pool ["script"] []
  k__law_pool : PySem.W.keepIn K (.ref a__law_pool) = true
  F__law_pool : Fun K "_law_pool" "_law_pool" s__law_pool a__law_pool d__law_pool
  g__law_pool : mg "_law_pool" = some (.ref a__law_pool)
  a__law_draw : Addr
  d__law_draw : FuncData
  b__law_draw : Binds K d__law_draw ["pool", "many"] []
  k__law_draw : PySem.W.keepIn K (.ref a__law_draw) = true
  F__law_draw : Fun K "_law_draw" "_law_draw" s__law_draw a__law_draw d__law_draw
  g__law_draw : mg "_law_draw" = some (.ref a__law_draw)
  a__law_pick : Addr
  d__law_pick : FuncData
  b__law_pick : Binds K d__law_pick ["pool", "rows"] []
  k__law_pick : PySem.W.keepIn K (.ref a__law_pick) = true
  F__law_pick : Fun K "_law_pick" "_law_pick" s__law_pick a__law_pick d__law_pick
  g__law_pick : mg "_law_pick" = some (.ref a__law_pick)
  a__law_refusal : Addr
  d__law_refusal : FuncData
  b__law_refusal : Binds K d__law_refusal ["problem"] []
  k__law_refusal : PySem.W.keepIn K (.ref a__law_refusal) = true
  F__law_refusal : Fun K "_law_refusal" "_law_refusal" s__law_refusal a__law_refusal d__law_refusal
  g__law_refusal : mg "_law_refusal" = some (.ref a__law_refusal)
  a__law_tears : Addr
  d__law_tears : FuncData
  b__law_tears : Binds K d__law_tears ["pool", "disk"] []
  k__law_tears : PySem.W.keepIn K (.ref a__law_tears) = true
  F__law_tears : Fun K "_law_tears" "_law_tears" s__law_tears a__law_tears d__law_tears
  g__law_tears : mg "_law_tears" = some (.ref a__law_tears)
  a__law_either : Addr
  d__law_either : FuncData
  b__law_either : Binds K d__law_either ["pool", "disk", "old", "new"] []
  k__law_either : PySem.W.keepIn K (.ref a__law_either) = true
  F__law_either : Fun K "_law_either" "_law_either" s__law_either a__law_either d__law_either
  g__law_either : mg "_law_either" = some (.ref a__law_either)
  a__law_refused : Addr
  d__law_refused : FuncData
  b__law_refused : Binds K d__law_refused ["choice", "disk", "one", "two"] []
  k__law_refused : PySem.W.keepIn K (.ref a__law_refused) = true
  F__law_refused : Fun K "_law_refused" "_law_refused" s__law_refused a__law_refused d__law_refused
  g__law_refused : mg "_law_refused" = some (.ref a__law_refused)
  a__law_run : Addr
  d__law_run : FuncData
  b__law_run : Binds K d__law_run ["script"] []
  k__law_run : PySem.W.keepIn K (.ref a__law_run) = true
  F__law_run : Fun K "_law_run" "_law_run" s__law_run a__law_run d__law_run
  g__law_run : mg "_law_run" = some (.ref a__law_run)
  a_law : Addr
  d_law : FuncData
  b_law : Binds K d_law ["script"] []
  k_law : PySem.W.keepIn K (.ref a_law) = true
  F_law : Fun K "law" "law" s_law a_law d_law
  g_law : mg "law" = some (.ref a_law)
  CD : Addr
  gD : mg "Disk" = some (.ref CD)
  clD : Cls K CD
  nD_kept : NoAttr K CD "_kept"
  nD_late : NoAttr K CD "_late"
  nD_names : NoAttr K CD "_names"
  nD_sure : NoAttr K CD "_sure"
  nD_changes : NoAttr K CD "_changes"
  nD_next : NoAttr K CD "_next"
  mkD : Mk K CD a_Disk___init__
  m_Disk_names : Meth K CD "names" a_Disk_names
  m_Disk_has : Meth K CD "has" a_Disk_has
  m_Disk__file : Meth K CD "_file" a_Disk__file
  m_Disk_read : Meth K CD "read" a_Disk_read
  m_Disk_make : Meth K CD "make" a_Disk_make
  m_Disk__change : Meth K CD "_change" a_Disk__change
  m_Disk_write : Meth K CD "write" a_Disk_write
  m_Disk_sync : Meth K CD "sync" a_Disk_sync
  m_Disk_sync_names : Meth K CD "sync_names" a_Disk_sync_names
  m_Disk_move : Meth K CD "move" a_Disk_move
  m_Disk_remove : Meth K CD "remove" a_Disk_remove
  m_Disk_late_changes : Meth K CD "late_changes" a_Disk_late_changes
  m_Disk_late_size : Meth K CD "late_size" a_Disk_late_size
  m_Disk_late_files : Meth K CD "late_files" a_Disk_late_files
  m_Disk_copy : Meth K CD "copy" a_Disk_copy
  m_Disk_cut_off : Meth K CD "cut_off" a_Disk_cut_off
  CE : Addr
  CP : Addr
  CU : Addr
  CN : Addr
  XP : ErrT K mg "InvalidPaper" CP
  XU : ErrT K mg "UnknownName" CU
  XN : ErrT K mg "InvalidNumber" CN
  YP : CatchT K mg CE CP
  YU : CatchT K mg CE CU
  YN : CatchT K mg CE CN
  notUP : PySem.W.kitOne K (.ref CP) (.ref CU) = some false
  notPU : PySem.W.kitOne K (.ref CU) (.ref CP) = some false
  notNP : PySem.W.kitOne K (.ref CP) (.ref CN) = some false
  notPN : PySem.W.kitOne K (.ref CN) (.ref CP) = some false
  notNU : PySem.W.kitOne K (.ref CU) (.ref CN) = some false
  notUN : PySem.W.kitOne K (.ref CN) (.ref CU) = some false
  cSP : ∃ t, mg "SPOILT" = some (.str (Str.ofString "?") t)
  cAS : ∃ t, mg "ASIDE" = some (.str (Str.ofString "snap.new") t)
  cGREAT : ∃ t, mg "GREAT" = some (.int 1000003 t)
  cSTEP : ∃ t, mg "STEP" = some (.int 8191 t)
  cMO : ∃ t, mg "MOST" = some (.int 1000000 t)
end K54

namespace K54
open PySem PySem.Spec PyProof.Rows L2
abbrev sCheck : Stmt := s_check_of
abbrev sChecked : Stmt := s_checked_text
abbrev sFramed : Stmt := s_framed
abbrev sNumber : Stmt := s__number
abbrev sOneF : Stmt := s_one_frame
def chkF (a : Nat) (l : List Nat) : Nat := l.foldl (fun f c => (f * 8191 + c) % 1000003) a
def chk (l : List Nat) : Nat := chkF 7 l
theorem chkF_lt : ∀ (l : List Nat) (a : Nat), a < 1000003 → chkF a l < 1000003
  | [], a, h => h
  | c :: r, a, h => chkF_lt r _ (Nat.mod_lt _ (by decide))
theorem chk_lt (l : List Nat) : chk l < 1000003 := chkF_lt l 7 (by decide)
theorem chkF_snoc (a : Nat) (l : List Nat) (c : Nat) : chkF a (l ++ [c]) = (chkF a l * 8191 + c) % 1000003 := by
  unfold chkF; rw [List.foldl_append]; rfl
structure Con51 (mg : Str → Option Value) : Prop where
  gG : ∃ t, mg "GREAT" = some (.int 1000003 t)
  gS : ∃ t, mg "STEP" = some (.int 8191 t)
  gM : ∃ t, mg "MOST" = some (.int 1000000 t)
theorem scCheck : FnScope ["text", "found", "sign"] ["text"] (defScope sCheck) := ⟨rfl, rfl, rfl, by decide +kernel, rfl, by decide +kernel, by decide +kernel⟩
def spCheck : Sp := fun vs H Q _ => ∃ x : Str, vs = [.str x] ∧ Q (.int ((chk (tl x) : Nat) : Int)) H
section
variable {P : Program} {w : World} {K : PySem.W.Frag} {mg : Str → Option Value} {base : Heap}
theorem ok_check {f : Addr} {fd : FuncData} (F : Fun K "check_of" "check_of" sCheck f fd) (T : Blt mg) (G : Con51 mg) : FnOk P w K mg base CX0 1 f fd ["text"] spCheck := by
  obtain ⟨tG, GG⟩ := G.gG
  obtain ⟨tS, GS⟩ := G.gS
  refine F.ok scCheck (fun vs H Q E h => ?_) (fun cdv A outer s H vs Q E hr h => ?_)
  · obtain ⟨x, rfl, _⟩ := h
    rfl
  · obtain ⟨x, rfl, k⟩ := h
    refine ⟨_, (pss_cons (ps_set (i := 1) scCheck.nd rfl (Or.inl rfl) pe_int)
    (pss_cons (ps_for PassesOwn.never rfl (pi_str (pv 0)) (pg_name (i := 2) scCheck.nd rfl (Or.inl rfl)) (pss_one (ps_set (i := 1) scCheck.nd rfl (Or.inl rfl) (pe_op op_modN (pe_op op_add (pe_op op_mul (pv 1) (pe_glob (v := .int 8191) rfl GS ⟨_, rfl⟩)) (pe_callB call_ord (by rfl) T.b_ord (by decide +kernel) (pa_cons (pv 2) pa_nil))) (pe_glob (v := .int 1000003) rfl GG ⟨_, rfl⟩)))))
    (pss_one (ps_ret (pv 1))))), ?_⟩
    refine ⟨_, rfl, x, rfl, for_str (x := x) (fun i σ H' => ∃ v : Option V, σ = [some (.str x), some (.int ((chk ((tl x).take i) : Nat) : Int)), v] ∧ H' = H) ⟨_, rfl, rfl⟩ ?_ ?_⟩
    · rintro i c σ H' hc ⟨v, rfl, rfl⟩
      refine ⟨_, rfl, _, _, rfl, rfl, .inr ⟨by decide, by decide⟩, _, rfl, _, rfl, rfl, _, _, rfl, rfl, _, _, rfl, rfl, (show (1000003 : Int) ≠ 0 by decide), ?_⟩
      refine ⟨some (.str ⟨#[c]⟩), ?_, rfl⟩
      have e : Int.fmod (((chk ((tl x).take i) : Nat) : Int) * 8191 + ((c : Nat) : Int)) 1000003 = ((chk ((tl x).take (i + 1)) : Nat) : Int) := by
        rw [take_snoc hc]
        unfold chk
        rw [chkF_snoc, ← fmod_nat]
        congr 1
      rw [← e]
      rfl
    · rintro σ H' ⟨v, rfl, rfl⟩
      rw [List.take_length]
      exact ⟨_, rfl, k⟩
end
def okSign (c : Nat) : Bool := !(decide (c = 63) || (!decide (c = 10) && !(decide (32 ≤ c) && decide (c ≤ 126))))
def goodT (l : List Nat) : Prop := l.all okSign = true
def frameL (l : List Nat) : List Nat := TL.numL l.length ++ 58 :: (TL.numL (chk l) ++ 58 :: (l ++ [10]))
theorem frame_txt (x : Str) : Str.ofString (toString ((x.length : Nat) : Int)) ++ Str.ofString ":" ++ Str.ofString (toString ((chk (tl x) : Nat) : Int)) ++ Str.ofString ":" ++ x ++ Str.ofString "\n" = mkS (frameL (tl x)) := by
  refine TL.ext_tl ?_
  rw [TL.tl_append, TL.tl_append, TL.tl_append, TL.tl_append, TL.tl_append, TL.tl_num, TL.tl_num, len_tl]
  show TL.numL _ ++ [58] ++ TL.numL _ ++ [58] ++ tl x ++ [10] = frameL (tl x)
  unfold frameL
  simp
theorem frame_len (l : List Nat) (h : l.length ≤ 1000000) : (frameL l).length ≤ l.length + 17 := by
  have h1 := num_len (n := l.length) (by omega)
  have h2 := num_len (n := chk l) (by have := chk_lt l; omega)
  unfold frameL
  simp only [List.length_append, List.length_cons, List.length_nil]
  omega
theorem scChecked : FnScope ["text", "sign"] ["text"] (defScope sChecked) := ⟨rfl, rfl, rfl, by decide +kernel, rfl, by decide +kernel, by decide +kernel⟩
theorem scFramed : FnScope ["text"] ["text"] (defScope sFramed) := ⟨rfl, rfl, rfl, by decide +kernel, rfl, by decide +kernel, by decide +kernel⟩
def spChk : Sp := fun vs H Q _ => ∃ x : Str, vs = [.str x] ∧ x.length ≤ 1000000 ∧ goodT (tl x) ∧ ∀ H', Same H H' → Q (.str x) H'
def spFrm : Sp := fun vs H Q _ => ∃ x : Str, vs = [.str x] ∧ x.length ≤ 1000000 ∧ goodT (tl x) ∧ ∀ H', Same H H' → Q (.str (mkS (frameL (tl x)))) H'
section
variable {P : Program} {w : World} {K : PySem.W.Frag} {mg : Str → Option Value} {base : Heap}
theorem all_nn (l : List Nat) : (l.all fun c => !!okSign c) = l.all okSign := by
  congr 1
  funext c
  exact Bool.not_not _
theorem bad_test {c : Nat} {a b d : Bool} (ha : a = decide (c = 63)) (hb : b = !decide (c = 10)) (hd : d = (decide (32 ≤ c) && decide (c ≤ 126))) : (!okSign c) = (a || (b && !d)) := by
  subst ha hb hd
  unfold okSign
  rw [Bool.not_not]
end
def isDig (c : Nat) : Bool := decide (48 ≤ c) && decide (c ≤ 57)
theorem dig_in (c : Nat) : decide (c ∈ tl (Str.ofString "0123456789")) = isDig c := by
  have e : tl (Str.ofString "0123456789") = [48, 49, 50, 51, 52, 53, 54, 55, 56, 57] := by decide +kernel
  rw [e]
  unfold isDig
  rw [Bool.eq_iff_iff, Bool.and_eq_true, decide_eq_true_eq, decide_eq_true_eq, decide_eq_true_eq]
  simp only [List.mem_cons, List.not_mem_nil, or_false]
  omega
def wordAt (l : List Nat) : List Nat := if (upto 58 l).length < l.length ∧ 0 < (upto 58 l).length ∧ (upto 58 l).length ≤ 7 then upto 58 l else []
def numOk (w : List Nat) : Bool := !w.isEmpty && w.all isDig && !(decide (1 < w.length) && decide (w.head? = some 48))
def numAt (l : List Nat) : Option (Nat × Nat) := if numOk (wordAt l) = true then some (NumText.digitsVal (wordAt l), (wordAt l).length + 1) else none
def bodyOk (n c : Nat) (r : List Nat) : Prop := n ≤ 1000000 ∧ (r.take n).length = n ∧ (r.drop n).take 1 = [10] ∧ ¬ 63 ∈ r.take n ∧ chk (r.take n) = c
instance {n c : Nat} {r : List Nat} : Decidable (bodyOk n c r) := by unfold bodyOk; exact inferInstance
def oneFr (l : List Nat) : Option (List Nat × Nat) := match numAt l with
  | none => none
  | some (n, k) => match numAt (l.drop k) with
    | none => none
    | some (c, k2) => if bodyOk n c (l.drop (k + k2)) then some ((l.drop (k + k2)).take n, k + k2 + n + 1) else none
theorem word_lt {l : List Nat} (h : numOk (wordAt l) = true) : (wordAt l).length < l.length ∧ 0 < (wordAt l).length ∧ (wordAt l).length ≤ 7 ∧ wordAt l = upto 58 l := by
  by_cases z : (upto 58 l).length < l.length ∧ 0 < (upto 58 l).length ∧ (upto 58 l).length ≤ 7
  · have e : wordAt l = upto 58 l := by unfold wordAt; rw [if_pos z]
    rw [e]
    exact ⟨z.1, z.2.1, z.2.2, rfl⟩
  · have e : wordAt l = [] := by unfold wordAt; rw [if_neg z]
    rw [e] at h
    exact absurd h (by decide)
theorem numAt_some {l : List Nat} {n k : Nat} (h : numAt l = some (n, k)) : numOk (wordAt l) = true ∧ n = NumText.digitsVal (wordAt l) ∧ k = (wordAt l).length + 1 ∧ 1 ≤ k ∧ k ≤ l.length := by
  unfold numAt at h
  by_cases z : numOk (wordAt l) = true
  · rw [if_pos z] at h
    cases h
    have := word_lt z
    exact ⟨z, rfl, rfl, by omega, by omega⟩
  · rw [if_neg z] at h; cases h
theorem oneFr_some {l t : List Nat} {k : Nat} (h : oneFr l = some (t, k)) : 1 ≤ k ∧ k ≤ l.length ∧ t.length < k := by
  unfold oneFr at h
  split at h
  · cases h
  · rename_i n k1 e1
    split at h
    · cases h
    · rename_i c k2 e2
      split at h
      · rename_i b
        cases h
        obtain ⟨_, b2, b3, _⟩ := b
        have l3 : (((l.drop (k1 + k2)).drop n).take 1).length = 1 := by rw [b3]; rfl
        rw [List.length_take, List.length_drop, List.length_drop] at l3
        refine ⟨by omega, by omega, ?_⟩
        rw [b2]; omega
      · cases h
def readF : Nat → List Nat → List (List Nat) × Nat
  | 0, _ => ([], 0)
  | n + 1, l => match oneFr l with
    | none => ([], 0)
    | some (t, k) => (t :: (readF n (l.drop k)).1, k + (readF n (l.drop k)).2)
def readL (l : List Nat) : List (List Nat) × Nat := readF l.length l
theorem oneFr_nil : oneFr [] = none := by decide +kernel
theorem readF_more : ∀ (n m : Nat) (l : List Nat), l.length ≤ n → l.length ≤ m → readF n l = readF m l
  | 0, 0, l, _, _ => rfl
  | 0, m + 1, l, h, _ => by
    have : l = [] := List.length_eq_zero_iff.mp (by omega)
    subst this
    show ([], 0) = readF (m + 1) []
    unfold readF
    rw [oneFr_nil]
  | n + 1, 0, l, _, h => by
    have : l = [] := List.length_eq_zero_iff.mp (by omega)
    subst this
    show readF (n + 1) [] = ([], 0)
    unfold readF
    rw [oneFr_nil]
  | n + 1, m + 1, l, h1, h2 => by
    unfold readF
    split
    · rfl
    · rename_i t k e
      have := oneFr_some e
      have hd : (l.drop k).length = l.length - k := List.length_drop
      rw [readF_more n m (l.drop k) (by omega) (by omega)]
theorem readL_none {l : List Nat} (h : oneFr l = none) : readL l = ([], 0) := by
  unfold readL
  cases hl : l.length with
  | zero => rfl
  | succ n => unfold readF; rw [h]
theorem readL_some {l t : List Nat} {k : Nat} (h : oneFr l = some (t, k)) : readL l = (t :: (readL (l.drop k)).1, k + (readL (l.drop k)).2) := by
  have hk := oneFr_some h
  have hd : (l.drop k).length = l.length - k := List.length_drop
  unfold readL
  obtain ⟨n, hn⟩ : ∃ n, l.length = n + 1 := ⟨l.length - 1, by omega⟩
  rw [hn]
  show readF (n + 1) l = _
  rw [readF, h]
  dsimp only
  rw [readF_more n (l.drop k).length (l.drop k) (by omega) (Nat.le_refl _)]
theorem readL_le : ∀ (n : Nat) (l : List Nat), l.length ≤ n → (readL l).2 ≤ l.length ∧ (readL l).1.length ≤ l.length
  | n, l, h => by
    cases e : oneFr l with
    | none => rw [readL_none e]; exact ⟨Nat.zero_le _, Nat.zero_le _⟩
    | some p =>
      obtain ⟨t, k⟩ := p
      have hk := oneFr_some e
      have hd : (l.drop k).length = l.length - k := List.length_drop
      cases n with
      | zero => omega
      | succ n =>
        have ih := readL_le n (l.drop k) (by omega)
        rw [readL_some e]
        refine ⟨by show k + _ ≤ _; omega, by rw [List.length_cons]; omega⟩
theorem scNumber : FnScope ["text", "at", "end", "word", "sign"] ["text", "at"] (defScope sNumber) := ⟨rfl, rfl, rfl, by decide +kernel, rfl, by decide +kernel, by decide +kernel⟩
theorem scOneF : FnScope ["text", "at", "first", "second", "start", "end", "inside"] ["text", "at"] (defScope sOneF) := ⟨rfl, rfl, rfl, by decide +kernel, rfl, by decide +kernel, by decide +kernel⟩
def spNum : Sp := fun vs H Q _ => ∃ (x : Str) (a : Nat), vs = [.str x, .int (a : Int)] ∧ x.length ≤ 1000000 ∧ a ≤ (tl x).length ∧
  (∀ n k, numAt ((tl x).drop a) = some (n, k) → ∀ H' p, Same H H' → H' p = some (.tup [.int ((n : Nat) : Int), .int ((a + k : Nat) : Int)]) → Q (.ref p) H') ∧ (numAt ((tl x).drop a) = none → ∀ H', Same H H' → Q .non H')
def spOneF : Sp := fun vs H Q _ => ∃ (x : Str) (a : Nat), vs = [.str x, .int (a : Int)] ∧ x.length ≤ 1000000 ∧ a ≤ (tl x).length ∧
  (∀ t k, oneFr ((tl x).drop a) = some (t, k) → ∀ H' p, Same H H' → H' p = some (.tup [.str (mkS t), .int ((a + k : Nat) : Int)]) → Q (.ref p) H') ∧ (oneFr ((tl x).drop a) = none → ∀ H', Same H H' → Q .non H')
def vT (ts : List (List Nat)) : List V := ts.map fun t => V.str (mkS t)
section
variable {P : Program} {w : World} {K : PySem.W.Frag} {mg : Str → Option Value} {base : Heap}
theorem ok_number {f : Addr} {fd : FuncData} (F : Fun K "_number" "_number" sNumber f fd) (T : Blt mg) : FnOk P w K mg base CX0 1 f fd ["text", "at"] spNum := by
  refine F.ok scNumber (fun vs H Q E h => ?_) (fun cdv A outer s H vs Q E hr h => ?_)
  · obtain ⟨x, a, rfl, _⟩ := h
    rfl
  · obtain ⟨x, a, rfl, hx, ha, kS, kN⟩ := h
    have hx' : x.length ≤ sizeLine := by rw [sizeLine_eq]; omega
    refine ⟨_, (pss_cons (ps_set (i := 2) scNumber.nd rfl (Or.inl rfl) (pe_bm PySem.F.plainAttrs_str PySem.F.slot_str_find PySem.F.type_str_find mt_find3 (pv 0) (pa_cons pe_str (pa_cons (pv 1) pa_nil))))
    (pss_cons (ps_set (i := 3) scNumber.nd rfl (Or.inl rfl) (pe_ifExp (pt_chain op_lt op_le (pv 1) (pv 2) (pe_op op_add (pv 1) pe_int)) (pe_slice sl_str (pv 0) (po_some (pv 1)) (po_some (pv 2))) pe_str))
    (pss_cons (ps_if (PW.pt (pw_or (pt_cmpR op_eq (pv 3) pe_str (nomark _)) (pw_or1 (pt_truth (pe_lc (own := [("sign", 4)]) rfl scNumber.nd (pi_str (pv 3)) (blkOk_by (N := ["text", "at", "end", "word", "sign"]) (sc := defScope sNumber) (own := [("sign", 4)]) (by decide +kernel)) (fun _ _ _ _ _ => (pg_name (i := 4) scNumber.nd rfl (Or.inl rfl))) (fun _ _ _ _ _ => pts_one (pt_cmpR op_notIn_sign (pv 4) pe_str rfl)) (fun _ _ _ _ _ => (pv 4))) (by intro _; rfl))))) (pss_one (ps_ret pe_non)) pss_nil)
    (pss_cons (ps_if (PW.pt (pw_and (pt_cmpR op_gt (pe_callB call_len (by rfl) T.b_len (by decide +kernel) (pa_cons (pv 3) pa_nil)) pe_int (nomark _)) (pw_and1 (pt_cmpR op_eq (pe_ix ix_str (pv 3) pe_int (fun _ _ => rfl)) pe_str (nomark _))))) (pss_one (ps_ret pe_non)) pss_nil)
    (pss_one (ps_ret (pe_tup (pa_cons (pe_callTy call_int_str (by rfl) T.b_int (by decide +kernel) (pa_cons (pv 3) pa_nil)) (pa_cons (pe_op op_add (pv 2) pe_int) pa_nil))))))))), ?_⟩
    have ef : Txt.find3 x (Str.ofString ":") (a : Int) = _ := find_one x 58 a ha
    refine ⟨_, rfl, rfl, _, rfl, _, _, _, rfl, rfl, ?_⟩
    rw [ef]
    have none_of : wordAt ((tl x).drop a) = [] → numAt ((tl x).drop a) = none := fun e => by
      unfold numAt
      rw [e]; rfl
    have hdl : ((tl x).drop a).length = (tl x).length - a := List.length_drop
    have hlx : x.length = (tl x).length := len_tl x
    by_cases h1 : (upto 58 ((tl x).drop a)).length < ((tl x).drop a).length
    · rw [if_pos h1]
      refine ⟨_, rfl, _, rfl, _, _, rfl, rfl, _, rfl, ?_⟩
      by_cases h2 : 0 < (upto 58 ((tl x).drop a)).length
      · rw [decide_eq_true (show (a : Int) < ((a + (upto 58 ((tl x).drop a)).length : Nat) : Int) by omega)]
        refine iteT ?_
        refine ⟨_, rfl, _, _, rfl, rfl, _, _, rfl, rfl, _, rfl, ?_⟩
        by_cases h3 : (upto 58 ((tl x).drop a)).length ≤ 7
        · refine iteT' (decide_eq_true (show ((a + (upto 58 ((tl x).drop a)).length : Nat) : Int) ≤ (a : Int) + 7 by omega)) ?_
          have ew : wordAt ((tl x).drop a) = upto 58 ((tl x).drop a) := by unfold wordAt; rw [if_pos ⟨h1, h2, h3⟩]
          refine ⟨_, rfl, _, rfl, _, rfl, _, rfl, _, rfl, _, rfl, hx', ?_⟩
          have ec : cutS x (some (a : Int)) (some ((a + (upto 58 ((tl x).drop a)).length : Nat) : Int)) = mkS (upto 58 ((tl x).drop a)) := by
            rw [cut_any, Nat.add_sub_cancel_left, upto_take]
          rw [ec]
          generalize hu : upto 58 ((tl x).drop a) = u at *
          have lu : (mkS u).length = u.length := by rw [len_tl]
          have lu' : (mkS u).length ≤ sizeLine := by rw [lu, sizeLine_eq]; omega
          have hne : u.isEmpty = false := by
            cases u with
            | nil => exact absurd h2 (by decide)
            | cons _ _ => rfl
          have e0 : decide (V.str (mkS u) = V.str (Str.ofString "")) = false := decide_eq_false fun z => by
            have e := V.str.inj z
            have : (mkS u).length = 0 := by rw [e]; rfl
            omega
          refine ⟨_, rfl, rfl, _, rfl, ?_⟩
          refine iteF' e0 ?_
          refine ⟨_, rfl, mkS u, rfl, fun D hD => lc_filter (bad := fun c => !isDig c) lu' hD (fun _ => rfl) (fun _ => rfl) ?_ ?_⟩
          · intro c H' R hc hR
            refine ⟨_, rfl, c, Str.ofString "0123456789", rfl, rfl, _, rfl, ?_⟩
            rw [dig_in]
            exact hR
          intro H' s1 g1
          refine ⟨_, .inl ⟨_, SqL.of g1, rfl⟩, ?_⟩
          rw [filt_empty]
          have ea : ((tl (mkS u)).all fun c => !!isDig c) = u.all isDig := by
            congr 1
            funext c
            exact Bool.not_not _
          rw [ea]
          by_cases hd : u.all isDig = true
          · refine iteF' (by rw [hd]; rfl) ?_
            refine ⟨_, rfl, _, _, rfl, ⟨lu', rfl⟩, _, _, rfl, rfl, _, rfl, ?_⟩
            have fin : numOk u = true → tRet
                (tTup
                  (tCons
                    (tCB
                      (fun xs H Q => ∃ a n, xs = [V.str a] ∧ intText? a = some n ∧ a.length ≤ 640 ∧ Q (V.int n) H)
                      (tCons (tVar 3) tNil))
                    (tCons (tOp (rI0 fun i j => V.int (i + j)) (tVar 2) (tC (V.int 1))) tNil)))
                { nx := fun x H' => Q V.non H', rt := Q } [some (.str x), some (.int (a : Int)), some (.int ((a + u.length : Nat) : Int)), some (.str (mkS u)), none] H' := by
              intro hk
              have hAll : NumText.AllDigits (mkS u).cps.toList := fun c hc => by
                have := List.all_eq_true.mp hd c hc
                unfold isDig at this
                rw [Bool.and_eq_true, decide_eq_true_eq, decide_eq_true_eq] at this
                exact this
              refine ⟨_, rfl, _, _, rfl, intText_digits hAll (by intro z; rw [show (mkS u).cps.toList = u from rfl] at z; rw [z] at h2; exact absurd h2 (by decide)) (by rw [lu]; omega), by rw [lu]; omega, _, rfl, _, _, rfl, rfl, by show 2 ≤ sizeLine; decide, fun p hp => ?_⟩
              refine kS (NumText.digitsVal u) (u.length + 1) (by unfold numAt; rw [ew, if_pos hk]) _ p (same_upd s1 hp) ?_
              rw [upd_same]
              rfl
            refine ite2 (fun h5 => ?_) (fun h5 => ?_)
            · have h5' : 1 < u.length := by have := of_decide_eq_true h5; omega
              obtain ⟨c, r, hcr⟩ : ∃ c r, u = c :: r := by
                cases u with
                | nil => exact absurd h2 (by decide)
                | cons c r => exact ⟨c, r, rfl⟩
              refine ⟨_, rfl, _, _, _, rfl, rfl, lu', atI_nat (j := 0) (show (tl (mkS u))[0]? = some c by rw [hcr]; rfl), rfl, _, rfl, ?_⟩
              rw [show decide (V.str ⟨#[c]⟩ = V.str (Str.ofString "0")) = decide (c = 48) from one_eq c 48]
              refine ite2 (fun h6 => ?_) (fun h6 => ?_)
              · refine kN ?_ _ s1
                have h6' : c = 48 := of_decide_eq_true h6
                have : numOk u = false := by
                  unfold numOk
                  rw [decide_eq_true h5', hcr, h6']
                  simp
                unfold numAt
                rw [ew, this]; rfl
              · refine fin ?_
                have h6' : decide (c = 48) = false := by simpa using h6
                unfold numOk
                rw [hne, hd, decide_eq_true h5', hcr]
                simpa using h6
            · refine iteF ?_
              refine fin ?_
              have h5' : ¬ 1 < u.length := fun z => h5 (decide_eq_true (by omega))
              unfold numOk
              rw [hne, hd, decide_eq_false h5']; rfl
          · have hd' : u.all isDig = false := by simpa using hd
            rw [hd']
            refine iteT ?_
            refine kN ?_ _ s1
            unfold numAt numOk
            rw [ew, hd', Bool.and_false, Bool.false_and]; rfl
        · refine iteF' (decide_eq_false (show ¬ ((a + (upto 58 ((tl x).drop a)).length : Nat) : Int) ≤ (a : Int) + 7 by omega)) ?_
          refine ⟨_, rfl, rfl, _, rfl, ?_⟩
          refine iteT ?_
          exact kN (none_of (by unfold wordAt; rw [if_neg (by omega)])) _ (Same.refl _)
      · rw [decide_eq_false (show ¬ (a : Int) < ((a + (upto 58 ((tl x).drop a)).length : Nat) : Int) by omega)]
        refine iteF ?_
        refine ⟨_, rfl, ?_⟩
        refine iteF ?_
        refine ⟨_, rfl, rfl, _, rfl, ?_⟩
        refine iteT ?_
        exact kN (none_of (by unfold wordAt; rw [if_neg (by omega)])) _ (Same.refl _)
    · rw [if_neg h1]
      refine ⟨_, rfl, _, rfl, _, _, rfl, rfl, _, rfl, ?_⟩
      rw [decide_eq_false (show ¬ (a : Int) < -1 by omega)]
      refine iteF ?_
      refine ⟨_, rfl, ?_⟩
      refine iteF ?_
      refine ⟨_, rfl, rfl, _, rfl, ?_⟩
      refine iteT ?_
      exact kN (none_of (by unfold wordAt; rw [if_neg (by omega)])) _ (Same.refl _)
end
section
variable {P : Program} {w : World} {K : PySem.W.Frag} {mg : Str → Option Value} {base : Heap}
theorem ok_oneF {f fN fK : Addr} {fd gN gK : FuncData} (F : Fun K "one_frame" "one_frame" sOneF f fd) (T : Blt mg) (G : Con51 mg)
    (FN : FnOk P w K mg base CX0 1 fN gN ["text", "at"] spNum) (mgN : mg "_number" = some (.ref fN)) (kN : PySem.W.keepIn K (.ref fN) = true) (bN : Binds K gN ["text", "at"] [])
    (FK : FnOk P w K mg base CX0 1 fK gK ["text"] spCheck) (mgK : mg "check_of" = some (.ref fK)) (kK : PySem.W.keepIn K (.ref fK) = true) (bK : Binds K gK ["text"] []) : FnOk P w K mg base CX0 2 f fd ["text", "at"] spOneF := by
  obtain ⟨tM, GM⟩ := G.gM
  refine F.ok scOneF (fun vs H Q E h => ?_) (fun cdv A outer s H vs Q E hr h => ?_)
  · obtain ⟨x, a, rfl, _⟩ := h
    rfl
  · obtain ⟨x, a, rfl, hx, ha, qS, qN⟩ := h
    have hx' : x.length ≤ sizeLine := by rw [sizeLine_eq]; omega
    have hlx : x.length = (tl x).length := len_tl x
    refine ⟨_, (pss_cons (ps_set (i := 2) scOneF.nd rfl (Or.inl rfl) (pe_call FN (hr.mono (by decide)) rfl mgN kN bN .nil pass0 (pa_cons (pv 0) (pa_cons (pv 1) pa_nil))))
    (pss_cons (ps_set (i := 3) scOneF.nd rfl (Or.inl rfl) (pe_ifExp (pt_cmpR op_isN (pv 2) pe_non (nomark _)) pe_non (pe_call FN (hr.mono (by decide)) rfl mgN kN bN .nil pass0 (pa_cons (pv 0) (pa_cons (pe_ix (r := rIxT K) ix_tup (pv 2) pe_int (fun _ _ => rfl)) pa_nil)))))
    (pss_cons (ps_if (PW.pt (pw_or (pt_cmpR op_isN (pv 3) pe_non (nomark _)) (pw_or1 (pt_cmpR op_gt (pe_ix (r := rIxT K) ix_tup (pv 2) pe_int (fun _ _ => rfl)) (pe_glob (v := .int 1000000) rfl GM ⟨_, rfl⟩) (nomark _))))) (pss_one (ps_ret pe_non)) pss_nil)
    (pss_cons (ps_set (i := 4) scOneF.nd rfl (Or.inl rfl) (pe_ix (r := rIxT K) ix_tup (pv 3) pe_int (fun _ _ => rfl)))
    (pss_cons (ps_set (i := 5) scOneF.nd rfl (Or.inl rfl) (pe_op op_add (pv 4) (pe_ix (r := rIxT K) ix_tup (pv 2) pe_int (fun _ _ => rfl))))
    (pss_cons (ps_set (i := 6) scOneF.nd rfl (Or.inl rfl) (pe_slice sl_str (pv 0) (po_some (pv 4)) (po_some (pv 5))))
    (pss_cons (ps_if (PW.pt (pw_or (pt_cmpR op_ne (pe_callB call_len (by rfl) T.b_len (by decide +kernel) (pa_cons (pv 6) pa_nil)) (pe_ix (r := rIxT K) ix_tup (pv 2) pe_int (fun _ _ => rfl)) (nomark _)) (pw_or (pt_cmpR op_ne (pe_slice sl_str (pv 0) (po_some (pv 5)) (po_some (pe_op op_add (pv 5) pe_int))) pe_str (nomark _)) (pw_or (pt_cmpR op_in_sign pe_str (pv 6) rfl) (pw_or1 (pt_cmpR op_ne (pe_call FK (hr.mono (by decide)) rfl mgK kK bK .nil pass0 (pa_cons (pv 6) pa_nil)) (pe_ix (r := rIxT K) ix_tup (pv 3) pe_int (fun _ _ => rfl)) (nomark _))))))) (pss_one (ps_ret pe_non)) pss_nil)
    (pss_one (ps_ret (pe_tup (pa_cons (pv 6) (pa_cons (pe_op op_add (pv 5) pe_int) pa_nil)))))))))))), ?_⟩
    refine ⟨_, rfl, _, rfl, x, a, rfl, hx, ha, fun n k e1 H1 p1 s1 hp1 => ?_, fun e1 H1 s1 => ?_⟩
    · have hk1 := numAt_some e1
      have hdl : ((tl x).drop a).length = (tl x).length - a := List.length_drop
      refine ⟨_, rfl, rfl, _, rfl, ?_⟩
      refine iteF ?_
      refine ⟨_, rfl, _, rfl, p1, _, _, _, rfl, rfl, SqT.of hp1, atI_nat (j := 1) rfl, x, a + k, rfl, hx, by omega, fun c k2 e2 H2 p2 s2 hp2 => ?_, fun e2 H2 s2 => ?_⟩
      · have e2' : numAt (((tl x).drop a).drop k) = some (c, k2) := by rw [List.drop_drop]; exact e2
        have hk2 := numAt_some e2'
        have hdl2 : (((tl x).drop a).drop k).length = (tl x).length - a - k := by rw [List.length_drop, hdl]
        have hp1' := s2 _ _ hp1
        have s12 := s1.trans s2
        have eO : oneFr ((tl x).drop a) = if bodyOk n c ((tl x).drop (a + k + k2)) then some (((tl x).drop (a + k + k2)).take n, k + k2 + n + 1) else none := by
          unfold oneFr
          rw [e1]
          dsimp only
          rw [e2']
          dsimp only
          rw [List.drop_drop, show a + (k + k2) = a + k + k2 by omega]
        have no : ¬ bodyOk n c ((tl x).drop (a + k + k2)) → oneFr ((tl x).drop a) = none := fun z => by rw [eO, if_neg z]
        refine ⟨_, rfl, rfl, _, rfl, ?_⟩
        refine iteF ?_
        refine ⟨_, rfl, p1, _, _, _, rfl, rfl, SqT.of hp1', atI_nat (j := 0) rfl, _, _, rfl, rfl, _, rfl, ?_⟩
        refine ite2 (fun h1 => ?_) (fun h1 => ?_)
        · have := of_decide_eq_true h1
          exact qN (no fun z => by have := z.1; omega) _ s12
        have h1' : n ≤ 1000000 := by
          have : ¬ (1000000 : Int) < ((n : Nat) : Int) := fun z => h1 (decide_eq_true z)
          omega
        refine ⟨_, rfl, p2, _, _, _, rfl, rfl, SqT.of hp2, atI_nat (j := 1) rfl, ?_⟩
        refine ⟨_, rfl, _, rfl, p1, _, _, _, rfl, rfl, SqT.of hp1', atI_nat (j := 0) rfl, _, _, rfl, rfl, ?_⟩
        refine ⟨_, rfl, _, rfl, _, rfl, _, rfl, _, rfl, _, rfl, hx', ?_⟩
        have ec : cutS x (some ((a + k + k2 : Nat) : Int)) (some (((a + k + k2 : Nat) : Int) + ((n : Nat) : Int))) = mkS (((tl x).drop (a + k + k2)).take n) := by
          rw [show ((a + k + k2 : Nat) : Int) + ((n : Nat) : Int) = ((a + k + k2 + n : Nat) : Int) by omega, cut_any, Nat.add_sub_cancel_left]
        rw [ec]
        have eend : cutS x (some (((a + k + k2 : Nat) : Int) + ((n : Nat) : Int))) (some (((a + k + k2 : Nat) : Int) + ((n : Nat) : Int) + 1)) = mkS ((((tl x).drop (a + k + k2)).drop n).take 1) := by
          rw [show ((a + k + k2 : Nat) : Int) + ((n : Nat) : Int) + 1 = ((a + k + k2 + n + 1 : Nat) : Int) by omega, show ((a + k + k2 : Nat) : Int) + ((n : Nat) : Int) = ((a + k + k2 + n : Nat) : Int) by omega, cut_any, Nat.add_sub_cancel_left, List.drop_drop]
        generalize hR : (tl x).drop (a + k + k2) = R at *
        have li : (mkS (R.take n)).length = (R.take n).length := by rw [len_tl]
        have li' : (mkS (R.take n)).length ≤ sizeLine := by rw [li, List.length_take, sizeLine_eq]; omega
        refine ⟨_, rfl, _, _, rfl, ⟨li', rfl⟩, _, rfl, p1, _, _, _, rfl, rfl, SqT.of hp1', atI_nat (j := 0) rfl, rfl, _, rfl, ?_⟩
        rw [li]
        by_cases b1 : (R.take n).length = n
        · have z1 : (!decide (V.int (((R.take n).length : Nat) : Int) = V.int ((n : Nat) : Int))) = false := by
            rw [decide_eq_true (by rw [b1])]; rfl
          refine iteF' z1 ?_
          refine ⟨_, rfl, _, rfl, _, rfl, _, rfl, _, _, rfl, rfl, _, rfl, _, rfl, hx', rfl, _, rfl, ?_⟩
          rw [eend]
          by_cases b2 : (R.drop n).take 1 = [10]
          · have z2 : (!decide (V.str (mkS ((R.drop n).take 1)) = V.str (Str.ofString "\n"))) = false := by
              rw [decide_eq_true (by rw [b2]; rfl)]; rfl
            refine iteF' z2 ?_
            refine ⟨_, rfl, 63, mkS (R.take n), rfl, rfl, _, rfl, ?_⟩
            refine ite2 (fun h3 => ?_) (fun h3 => ?_)
            · exact qN (no fun z => z.2.2.2.1 (of_decide_eq_true h3)) _ s12
            have b3 : ¬ 63 ∈ R.take n := fun z => h3 (decide_eq_true z)
            refine ⟨_, rfl, mkS (R.take n), rfl, _, rfl, p2, _, _, _, rfl, rfl, SqT.of hp2, atI_nat (j := 0) rfl, rfl, _, rfl, ?_⟩
            by_cases b4 : chk (R.take n) = c
            · have z4 : (!decide (V.int ((chk (R.take n) : Nat) : Int) = V.int ((c : Nat) : Int))) = false := by
                rw [decide_eq_true (by rw [b4])]; rfl
              refine iteF' z4 ?_
              refine ⟨_, rfl, _, rfl, _, _, rfl, rfl, by show 2 ≤ sizeLine; decide, fun p hp => ?_⟩
              refine qS (R.take n) (k + k2 + n + 1) (by rw [eO, if_pos ⟨h1', b1, b2, b3, b4⟩]) _ p (same_upd s12 hp) ?_
              rw [upd_same]
              have e5 : ((a + k + k2 : Nat) : Int) + ((n : Nat) : Int) + 1 = ((a + (k + k2 + n + 1) : Nat) : Int) := by omega
              rw [← e5]
            · have z4 : (!decide (V.int ((chk (R.take n) : Nat) : Int) = V.int ((c : Nat) : Int))) = true := by
                rw [decide_eq_false (fun z => b4 (by have := V.int.inj z; omega))]; rfl
              refine iteT' z4 ?_
              exact qN (no fun z => b4 z.2.2.2.2) _ s12
          · have z2 : (!decide (V.str (mkS ((R.drop n).take 1)) = V.str (Str.ofString "\n"))) = true := by
              rw [decide_eq_false (fun z => b2 (by have := congrArg tl (V.str.inj z); exact this))]; rfl
            refine iteT' z2 ?_
            exact qN (no fun z => b2 z.2.2.1) _ s12
        · have z1 : (!decide (V.int (((R.take n).length : Nat) : Int) = V.int ((n : Nat) : Int))) = true := by
            rw [decide_eq_false (fun z => b1 (by have := V.int.inj z; omega))]; rfl
          refine iteT' z1 ?_
          exact qN (no fun z => b1 z.2.1) _ s12
      · refine ⟨_, rfl, rfl, _, rfl, ?_⟩
        refine iteT ?_
        refine qN ?_ _ (s1.trans s2)
        unfold oneFr
        rw [e1]
        dsimp only
        rw [List.drop_drop, e2]
    · refine ⟨_, rfl, rfl, _, rfl, ?_⟩
      refine iteT ?_
      refine ⟨_, rfl, rfl, _, rfl, ?_⟩
      refine iteT ?_
      exact qN (by unfold oneFr; rw [e1]) _ s1
end
def wOk (u : List Nat) : Bool := !u.isEmpty && !decide (7 < u.length) && u.all isDig && !(decide (1 < u.length) && decide (u.head? = some 48))
theorem numAt_eq (l : List Nat) : numAt l = if (upto 58 l).length < l.length ∧ wOk (upto 58 l) = true then some (NumText.digitsVal (upto 58 l), (upto 58 l).length + 1) else none := by
  by_cases h1 : (upto 58 l).length < l.length
  · by_cases h2 : 0 < (upto 58 l).length ∧ (upto 58 l).length ≤ 7
    · have ew : wordAt l = upto 58 l := by unfold wordAt; rw [if_pos ⟨h1, h2.1, h2.2⟩]
      have e : numOk (upto 58 l) = wOk (upto 58 l) := by
        unfold numOk wOk
        rw [decide_eq_false (show ¬ 7 < (upto 58 l).length by omega), Bool.not_false, Bool.and_true]
      unfold numAt
      rw [ew, e]
      by_cases z : wOk (upto 58 l) = true
      · rw [if_pos z, if_pos ⟨h1, z⟩]
      · rw [if_neg z, if_neg (fun y => z y.2)]
    · have ew : wordAt l = [] := by unfold wordAt; rw [if_neg (fun z => h2 ⟨z.2.1, z.2.2⟩)]
      have e : ¬ wOk (upto 58 l) = true := fun z => by
        unfold wOk at z
        simp only [Bool.and_eq_true, Bool.not_eq_true', decide_eq_false_iff_not] at z
        refine h2 ⟨?_, by omega⟩
        cases hu : upto 58 l with
        | nil => rw [hu] at z; exact absurd z.1.1.1 (by decide)
        | cons _ _ => simp
      unfold numAt
      rw [ew, if_neg (by decide), if_neg (fun y => e y.2)]
  · have ew : wordAt l = [] := by unfold wordAt; rw [if_neg (fun z => h1 z.1)]
    unfold numAt
    rw [ew, if_neg (by decide), if_neg (fun y => h1 y.1)]
theorem upto_full {c : Nat} : ∀ {l : List Nat}, (∀ d ∈ l, d ≠ c) → upto c l = l
  | [], _ => rfl
  | d :: r, h => by
    unfold upto
    rw [List.takeWhile_cons, if_pos (by simpa using h d (List.mem_cons_self ..))]
    congr 1
    exact upto_full fun e he => h e (List.mem_cons_of_mem _ he)
theorem no_colon {n : Nat} : ∀ d ∈ TL.numL n, d ≠ 58 := fun d hd z => TL.numL_free (n := n) (s := 58) (.inr (by decide)) (z ▸ hd)
theorem num_head : ∀ (n : Nat), 0 < n → (TL.numL n).head? ≠ some 48 := by
  intro n
  induction n using Nat.strongRecOn with
  | _ n ih =>
    intro h0 z
    by_cases h : n < 10
    · rw [TL.numL_lt h] at z
      have := Option.some.inj z
      omega
    · rw [TL.numL_step (by omega)] at z
      have hne := TL.numL_ne (n / 10)
      refine ih (n / 10) (by omega) (by omega) ?_
      cases e : TL.numL (n / 10) with
      | nil => exact absurd e hne
      | cons a r => rw [e] at z; exact z
theorem num_wOk {n : Nat} (h : n ≤ 9999999) : wOk (TL.numL n) = true := by
  have h7 := num_len h
  have hd : (TL.numL n).all isDig = true := List.all_eq_true.mpr fun c hc => by
    have := TL.numL_digits n c hc
    unfold isDig
    rw [decide_eq_true this.1, decide_eq_true this.2]; rfl
  have he : (TL.numL n).isEmpty = false := by
    cases e : TL.numL n with
    | nil => exact absurd e (TL.numL_ne n)
    | cons _ _ => rfl
  unfold wOk
  rw [hd, he, decide_eq_false (show ¬ 7 < (TL.numL n).length by omega)]
  by_cases h1 : 1 < (TL.numL n).length
  · have : (TL.numL n).head? ≠ some 48 := num_head n (by
      by_cases z : n < 10
      · rw [TL.numL_lt z] at h1; exact absurd h1 (show ¬ 1 < 1 by decide)
      · omega)
    rw [decide_eq_false this]; simp
  · rw [decide_eq_false h1]; rfl
theorem numAt_num {n : Nat} (h : n ≤ 9999999) (r : List Nat) : numAt (TL.numL n ++ 58 :: r) = some (n, (TL.numL n).length + 1) := by
  have e : upto 58 (TL.numL n ++ 58 :: r) = TL.numL n := upto_app no_colon
  rw [numAt_eq, e, if_pos ⟨by rw [List.length_append, List.length_cons]; omega, num_wOk h⟩, TL.numL_val]
theorem numAt_cut {n : Nat} (k : Nat) : numAt ((TL.numL n).take k) = none := by
  rw [numAt_eq, upto_full (fun d hd => no_colon d (List.mem_of_mem_take hd)), if_neg (fun z => absurd z.1 (Nat.lt_irrefl _))]
theorem good_no {t : List Nat} (h : goodT t) : ¬ 63 ∈ t := fun z => absurd (List.all_eq_true.mp h 63 z) (by decide)
theorem drop_num {X Y : List Nat} {c : Nat} : (X ++ c :: Y).drop (X.length + 1) = Y := by
  rw [List.drop_append]
  simp
theorem frame_one {t : List Nat} (hg : goodT t) (hl : t.length ≤ 1000) (r : List Nat) : oneFr (frameL t ++ r) = some (t, (frameL t).length) := by
  have e1 : frameL t ++ r = TL.numL t.length ++ 58 :: (TL.numL (chk t) ++ 58 :: (t ++ 10 :: r)) := by
    unfold frameL; simp
  have hc := chk_lt t
  unfold oneFr
  rw [e1, numAt_num (by omega)]
  dsimp only
  rw [drop_num, numAt_num (by omega)]
  dsimp only
  rw [show (TL.numL t.length).length + 1 + ((TL.numL (chk t)).length + 1) = ((TL.numL t.length).length + 1) + ((TL.numL (chk t)).length + 1) from rfl, ← List.drop_drop, drop_num, drop_num]
  have et : (t ++ 10 :: r).take t.length = t := List.take_left ..
  have ed : (t ++ 10 :: r).drop t.length = 10 :: r := List.drop_left ..
  have eb : bodyOk t.length (chk t) (t ++ 10 :: r) := ⟨by omega, by rw [et], by rw [ed]; rfl, by rw [et]; exact good_no hg, by rw [et]⟩
  rw [if_pos eb, et]
  congr 2
  unfold frameL
  simp only [List.length_append, List.length_cons, List.length_nil]
  omega
end K54

namespace K54
open PySem PySem.Spec PyProof.Rows L2
/-! ### lists of keys and values -/
section assoc
variable {α β : Type} [DecidableEq α]
def getA : List (α × β) → α → Option β
  | [], _ => none
  | p :: r, x => if p.1 = x then some p.2 else getA r x
def hasA (l : List (α × β)) (x : α) : Bool := (getA l x).isSome
def putA (l : List (α × β)) (x : α) (v : β) : List (α × β) := if hasA l x = true then l.map (fun p => if p.1 = x then (p.1, v) else p) else l ++ [(x, v)]
def dropA (l : List (α × β)) (x : α) : List (α × β) := l.filter fun p => decide (p.1 ≠ x)
theorem getA_pos {p : α × β} {r : List (α × β)} {x : α} (e : p.1 = x) : getA (p :: r) x = some p.2 := if_pos e
theorem getA_neg {p : α × β} {r : List (α × β)} {x : α} (e : ¬ p.1 = x) : getA (p :: r) x = getA r x := if_neg e
theorem getA_mem : ∀ {l : List (α × β)} {x : α} {v : β}, getA l x = some v → (x, v) ∈ l
  | [], _, _, h => by cases h
  | p :: r, x, v, h => by
    by_cases e : p.1 = x
    · rw [getA_pos e] at h
      cases h
      rw [← e]
      exact List.mem_cons_self
    · rw [getA_neg e] at h
      exact List.mem_cons_of_mem _ (getA_mem h)
theorem getA_has {l : List (α × β)} {x : α} : (getA l x).isSome = true ↔ x ∈ l.map (·.1) := by
  induction l with
  | nil => simp [getA]
  | cons p r ih =>
    by_cases e : p.1 = x
    · rw [getA_pos e]; simp [e]
    · rw [getA_neg e, ih]
      simp only [List.map_cons, List.mem_cons]
      exact ⟨.inr, fun z => z.elim (fun y => absurd y.symm e) id⟩
theorem getA_none {l : List (α × β)} {x : α} : getA l x = none ↔ x ∉ l.map (·.1) := by
  rw [← getA_has]
  cases getA l x <;> simp
theorem getA_of_mem {l : List (α × β)} (nd : (l.map (·.1)).Nodup) {x : α} {v : β} (h : (x, v) ∈ l) : getA l x = some v := by
  induction l with
  | nil => cases h
  | cons p r ih =>
    rw [List.map_cons, List.nodup_cons] at nd
    by_cases e : p.1 = x
    · rcases List.mem_cons.mp h with rfl | h
      · exact getA_pos rfl
      · exact absurd (List.mem_map_of_mem (f := (·.1)) h) (by rw [e] at nd; exact nd.1)
    · rcases List.mem_cons.mp h with rfl | h
      · exact absurd rfl e
      · rw [getA_neg e]; exact ih nd.2 h
theorem getA_app {l m : List (α × β)} {x : α} : getA (l ++ m) x = (getA l x).or (getA m x) := by
  induction l with
  | nil => rfl
  | cons p r ih =>
    rw [List.cons_append]
    by_cases e : p.1 = x
    · rw [getA_pos e, getA_pos e]; rfl
    · rw [getA_neg e, getA_neg e, ih]
theorem getA_map {l : List (α × β)} {x y : α} {v : β} : getA (l.map fun p => if p.1 = x then (p.1, v) else p) y = (getA l y).map fun u => if y = x then v else u := by
  induction l with
  | nil => rfl
  | cons p r ih =>
    rw [List.map_cons]
    by_cases e : p.1 = y
    · by_cases f : p.1 = x
      · rw [if_pos f, getA_pos (p := (p.1, v)) e, getA_pos e]; simp [← f, e]
      · rw [if_neg f, getA_pos e, getA_pos e]; simp [show ¬ y = x from fun z => f (e.trans z)]
    · by_cases f : p.1 = x
      · rw [if_pos f, getA_neg (p := (p.1, v)) e, getA_neg e, ih]
      · rw [if_neg f, getA_neg e, getA_neg e, ih]
theorem getA_put {l : List (α × β)} {x y : α} {v : β} : getA (putA l x v) y = if y = x then some v else getA l y := by
  unfold putA
  split
  · rename_i h
    rw [getA_map]
    split
    · rename_i e
      unfold hasA at h
      rw [e]
      cases hh : getA l x with
      | none => rw [hh] at h; cases h
      | some u => rfl
    · cases getA l y <;> rfl
  · rename_i h
    rw [getA_app]
    split
    · rename_i e
      rw [e]
      unfold hasA at h
      cases hh : getA l x with
      | none => show getA [(x, v)] x = some v; exact getA_pos rfl
      | some u => rw [hh] at h; exact absurd rfl h
    · rename_i e
      cases getA l y with
      | none => show getA [(x, v)] y = none; rw [getA_neg (fun z => e z.symm)]; rfl
      | some u => rfl
theorem getA_drop {l : List (α × β)} {x y : α} : getA (dropA l x) y = if y = x then none else getA l y := by
  unfold dropA
  induction l with
  | nil => simp [getA]
  | cons p r ih =>
    rw [List.filter_cons]
    by_cases f : p.1 = x
    · rw [if_neg (by simp [f]), ih]
      split
      · rfl
      · rename_i e
        rw [getA_neg fun z => e (z.symm.trans f)]
    · rw [if_pos (by simp [f])]
      by_cases e : p.1 = y
      · rw [getA_pos e, getA_pos e, if_neg fun z => f (e.trans z)]
      · rw [getA_neg e, getA_neg e, ih]
theorem putA_new {l : List (α × β)} {x : α} {v : β} (h : getA l x = none) : putA l x v = l ++ [(x, v)] := by
  unfold putA hasA
  rw [h, if_neg (by simp)]
theorem putA_keys {l : List (α × β)} {x : α} {v : β} (h : (getA l x).isSome = true) : (putA l x v).map (·.1) = l.map (·.1) := by
  unfold putA hasA
  rw [if_pos h, List.map_map]
  apply List.map_congr_left
  intro p _
  show (if p.1 = x then (p.1, v) else p).1 = p.1
  split <;> rfl
theorem putA_len {l : List (α × β)} {x : α} {v : β} : (putA l x v).length ≤ l.length + 1 := by
  unfold putA
  split
  · rw [List.length_map]; omega
  · rw [List.length_append]; simp
theorem putA_lenH {l : List (α × β)} {x : α} {v : β} (h : (getA l x).isSome = true) : (putA l x v).length = l.length := by
  rw [← List.length_map (f := (·.1)), putA_keys h, List.length_map]
theorem putA_nodup {l : List (α × β)} {x : α} {v : β} (nd : (l.map (·.1)).Nodup) : ((putA l x v).map (·.1)).Nodup := by
  by_cases h : (getA l x).isSome = true
  · rw [putA_keys h]; exact nd
  · have h' : getA l x = none := by simpa using h
    rw [putA_new h', List.map_append, List.nodup_append]
    refine ⟨nd, by simp, fun a ha b hb => ?_⟩
    simp at hb
    subst hb
    intro z
    subst z
    exact getA_none.mp h' ha
theorem dropA_nodup {l : List (α × β)} {x : α} (nd : (l.map (·.1)).Nodup) : ((dropA l x).map (·.1)).Nodup :=
  List.Sublist.nodup (List.Sublist.map _ (List.filter_sublist)) nd
theorem dropA_len {l : List (α × β)} {x : α} : (dropA l x).length ≤ l.length := List.length_filter_le _ _
theorem putA_mem {l : List (α × β)} {x : α} {v : β} {p : α × β} (h : p ∈ putA l x v) : p ∈ l ∨ p = (x, v) := by
  unfold putA at h
  split at h
  · obtain ⟨q, hq, e⟩ := List.mem_map.mp h
    split at e
    · rename_i f
      subst e
      exact .inr (by rw [f])
    · subst e
      exact .inl hq
  · rcases List.mem_append.mp h with h | h
    · exact .inl h
    · exact .inr (by simpa using h)
theorem dropA_mem {l : List (α × β)} {x : α} {p : α × β} (h : p ∈ dropA l x) : p ∈ l := (List.mem_filter.mp h).1
variable {γ : Type} [DecidableEq γ] {f : α → γ} {g : β → V}
theorem valV_emb (inj : ∀ a b, f a = f b → a = b) : ∀ (l : List (α × β)) (x : α), valV (l.map fun p => (f p.1, g p.2)) (f x) = (getA l x).map g
  | [], _ => rfl
  | p :: r, x => by
    rw [List.map_cons]
    by_cases e : p.1 = x
    · rw [valV_pos (p := (f p.1, g p.2)) (by rw [e]), getA_pos e]; rfl
    · rw [valV_neg (p := (f p.1, g p.2)) (fun z => e (inj _ _ z)), getA_neg e, valV_emb inj r x]
theorem putK_emb (inj : ∀ a b, f a = f b → a = b) (l : List (α × β)) (x : α) (v : β) : putK (l.map fun p => (f p.1, g p.2)) (f x) (g v) = (putA l x v).map fun p => (f p.1, g p.2) := by
  unfold putK putA hasA
  rw [valV_any, valV_emb inj]
  cases h : getA l x with
  | none => rw [if_neg (by simp), if_neg (by simp), List.map_append]; rfl
  | some u =>
    rw [if_pos (show (Option.map g (some u)).isSome = true from rfl), if_pos (show (some u).isSome = true from rfl), List.map_map, List.map_map]
    apply List.map_congr_left
    intro p _
    show (if f p.1 = f x then (f p.1, g v) else (f p.1, g p.2)) = (fun p : α × β => (f p.1, g p.2)) (if p.1 = x then (p.1, v) else p)
    by_cases e : p.1 = x
    · rw [if_pos e, if_pos (by rw [e])]
    · rw [if_neg e, if_neg (fun z => e (inj _ _ z))]
theorem dropK_emb (inj : ∀ a b, f a = f b → a = b) (l : List (α × β)) (x : α) : dropK (l.map fun p => (f p.1, g p.2)) (f x) = (dropA l x).map fun p => (f p.1, g p.2) := by
  unfold dropK dropA
  rw [List.filter_map]
  congr 1
  apply List.filter_congr
  intro p _
  show decide (f p.1 ≠ f x) = decide (p.1 ≠ x)
  rw [Bool.eq_iff_iff, decide_eq_true_eq, decide_eq_true_eq]
  exact ⟨fun z y => z (by rw [y]), fun z y => z (inj _ _ y)⟩
end assoc
/-! ### disks as data -/
abbrev Tx := List Nat
theorem mkS_inj' {a b : Tx} (h : mkS a = mkS b) : a = b := by
  have := congrArg tl h
  exact this
abbrev sv (t : Tx) : V := .str (mkS t)
def kvM (l : List (Nat × Tx)) : List (Key × V) := l.map fun p => ((fun n : Nat => (Sum.inl (n : Int) : Key)) p.1, sv p.2)
def kvT (l : List (Tx × Nat)) : List (Key × V) := l.map fun p => ((fun t : Tx => (Sum.inr (mkS t) : Key)) p.1, (fun n : Nat => V.int (n : Int)) p.2)
theorem injM : ∀ a b : Nat, (fun n : Nat => (Sum.inl (n : Int) : Key)) a = (fun n : Nat => (Sum.inl (n : Int) : Key)) b → a = b := fun a b h => by have := Sum.inl.inj h; omega
theorem injT : ∀ a b : Tx, (fun t : Tx => (Sum.inr (mkS t) : Key)) a = (fun t : Tx => (Sum.inr (mkS t) : Key)) b → a = b := fun a b h => mkS_inj' (Sum.inr.inj h)
theorem kvM_val (l : List (Nat × Tx)) (i : Nat) : valV (kvM l) (Sum.inl (i : Int)) = (getA l i).map sv := valV_emb (f := fun n : Nat => (Sum.inl (n : Int) : Key)) (g := sv) injM l i
theorem kvM_put (l : List (Nat × Tx)) (i : Nat) (t : Tx) : putK (kvM l) (Sum.inl (i : Int)) (sv t) = kvM (putA l i t) := putK_emb (f := fun n : Nat => (Sum.inl (n : Int) : Key)) (g := sv) injM l i t
theorem kvT_val (l : List (Tx × Nat)) (x : Tx) : valV (kvT l) (Sum.inr (mkS x)) = (getA l x).map fun n : Nat => V.int (n : Int) := valV_emb (f := fun t : Tx => (Sum.inr (mkS t) : Key)) (g := fun n : Nat => V.int (n : Int)) injT l x
theorem kvT_put (l : List (Tx × Nat)) (x : Tx) (n : Nat) : putK (kvT l) (Sum.inr (mkS x)) (.int (n : Int)) = kvT (putA l x n) := putK_emb (f := fun t : Tx => (Sum.inr (mkS t) : Key)) (g := fun n : Nat => V.int (n : Int)) injT l x n
theorem kvT_drop (l : List (Tx × Nat)) (x : Tx) : dropK (kvT l) (Sum.inr (mkS x)) = kvT (dropA l x) := dropK_emb (f := fun t : Tx => (Sum.inr (mkS t) : Key)) (g := fun n : Nat => V.int (n : Int)) injT l x
theorem kvM_len (l : List (Nat × Tx)) : (kvM l).length = l.length := List.length_map ..
theorem kvT_len (l : List (Tx × Nat)) : (kvT l).length = l.length := List.length_map ..
theorem kvT_keys (l : List (Tx × Nat)) : (kvT l).map (·.1) = (l.map fun p => mkS p.1).map Sum.inr := by
  unfold kvT
  rw [List.map_map, List.map_map]
  rfl
inductive Chg
  | make (x : Tx) (n : Nat)
  | move (x y : Tx)
  | drop (x : Tx)
  deriving DecidableEq
def tupC : Chg → List V
  | .make x n => [.str (Str.ofString "make"), sv x, .int (n : Int)]
  | .move x y => [.str (Str.ofString "move"), sv x, sv y]
  | .drop x => [.str (Str.ofString "remove"), sv x, .int 0]
abbrev Nm := List (Tx × Nat)
def applyC (l : Nm) : Chg → Nm
  | .make x n => putA l x n
  | .move x y => match getA l x with | some n => putA (dropA l x) y n | none => l
  | .drop x => dropA l x
def okC (l : Nm) : Chg → Prop
  | .make x _ => getA l x = none
  | .move x _ => (getA l x).isSome = true
  | .drop x => (getA l x).isSome = true
def applyA : Nm → List Chg → Nm
  | l, [] => l
  | l, c :: r => applyA (applyC l c) r
def okA : Nm → List Chg → Prop
  | _, [] => True
  | l, c :: r => okC l c ∧ okA (applyC l c) r
theorem applyA_app : ∀ (cs ds : List Chg) (l : Nm), applyA l (cs ++ ds) = applyA (applyA l cs) ds
  | [], _, _ => rfl
  | c :: r, ds, l => applyA_app r ds (applyC l c)
theorem okA_app : ∀ (cs ds : List Chg) (l : Nm), okA l (cs ++ ds) ↔ okA l cs ∧ okA (applyA l cs) ds
  | [], _, _ => ⟨fun h => ⟨trivial, h⟩, fun h => h.2⟩
  | c :: r, ds, l => by
    show okC l c ∧ okA (applyC l c) (r ++ ds) ↔ (okC l c ∧ okA (applyC l c) r) ∧ _
    rw [okA_app r ds (applyC l c)]
    exact ⟨fun h => ⟨⟨h.1, h.2.1⟩, h.2.2⟩, fun h => ⟨h.1.1, h.1.2, h.2⟩⟩
theorem okA_take {cs : List Chg} {l : Nm} (h : okA l cs) (k : Nat) : okA l (cs.take k) := by
  rw [← List.take_append_drop k cs, okA_app] at h
  exact h.1
def makeN : Chg → Option Nat
  | .make _ n => some n
  | _ => none
theorem applyC_nums {l : Nm} {c : Chg} {n : Nat} (h : n ∈ (applyC l c).map (·.2)) : n ∈ l.map (·.2) ∨ makeN c = some n := by
  obtain ⟨p, hp, rfl⟩ := List.mem_map.mp h
  cases c with
  | make x k =>
    rcases putA_mem hp with hp | rfl
    · exact .inl (List.mem_map_of_mem hp)
    · exact .inr rfl
  | move x y =>
    rw [show applyC l (.move x y) = (match getA l x with | some n => putA (dropA l x) y n | none => l) from rfl] at hp
    cases e : getA l x with
    | none => rw [e] at hp; exact .inl (List.mem_map_of_mem hp)
    | some k =>
      rw [e] at hp
      rcases putA_mem hp with hp | rfl
      · exact .inl (List.mem_map_of_mem (dropA_mem hp))
      · exact .inl (List.mem_map_of_mem (f := (·.2)) (getA_mem e))
  | drop x => exact .inl (List.mem_map_of_mem (dropA_mem hp))
theorem applyA_nums : ∀ (cs : List Chg) {l : Nm} {n : Nat}, n ∈ (applyA l cs).map (·.2) → n ∈ l.map (·.2) ∨ n ∈ cs.filterMap makeN
  | [], _, _, h => .inl h
  | c :: r, l, n, h => by
    rcases applyA_nums r h with h | h
    · rcases applyC_nums h with h | h
      · exact .inl h
      · exact .inr (List.mem_filterMap.mpr ⟨c, List.mem_cons_self, h⟩)
    · obtain ⟨d, hd, e⟩ := List.mem_filterMap.mp h
      exact .inr (List.mem_filterMap.mpr ⟨d, List.mem_cons_of_mem _ hd, e⟩)
theorem applyC_nodup {l : Nm} {c : Chg} (h : (l.map (·.1)).Nodup) : ((applyC l c).map (·.1)).Nodup := by
  cases c with
  | make x k => exact putA_nodup h
  | move x y =>
    rw [show applyC l (.move x y) = (match getA l x with | some n => putA (dropA l x) y n | none => l) from rfl]
    cases getA l x with
    | none => exact h
    | some k => exact putA_nodup (dropA_nodup h)
  | drop x => exact dropA_nodup h
theorem applyA_nodup : ∀ (cs : List Chg) {l : Nm}, (l.map (·.1)).Nodup → ((applyA l cs).map (·.1)).Nodup
  | [], _, h => h
  | c :: r, _, h => applyA_nodup r (applyC_nodup h)
theorem applyC_len (l : Nm) (c : Chg) : (applyC l c).length ≤ l.length + 1 := by
  cases c with
  | make x k => exact putA_len
  | move x y =>
    rw [show applyC l (.move x y) = (match getA l x with | some n => putA (dropA l x) y n | none => l) from rfl]
    cases getA l x with
    | none => exact Nat.le_succ _
    | some k =>
      have := putA_len (l := dropA l x) (x := y) (v := k)
      have := dropA_len (l := l) (x := x)
      show (putA (dropA l x) y k).length ≤ _
      omega
  | drop x =>
    have := dropA_len (l := l) (x := x)
    show (dropA l x).length ≤ _
    omega
theorem applyA_len : ∀ (cs : List Chg) (l : Nm), (applyA l cs).length ≤ l.length + cs.length
  | [], _ => Nat.le_refl _
  | c :: r, l => by
    have h := applyA_len r (applyC l c)
    have := applyC_len l c
    show (applyA (applyC l c) r).length ≤ _
    rw [List.length_cons]
    omega
structure DS where
  kept : List (Nat × Tx)
  late : List (Nat × Tx)
  names : Nm
  sure : Nm
  ch : List Chg
  next : Nat
def keptD (D : DS) (i : Nat) : Tx := (getA D.kept i).getD []
def lateD (D : DS) (i : Nat) : Tx := (getA D.late i).getD []
def readD (D : DS) (i : Nat) : Tx := keptD D i ++ lateD D i
def numsD (D : DS) (n : Nat) : Prop := n ∈ D.sure.map (·.2) ∨ n ∈ D.ch.filterMap makeN
structure wf (D : DS) : Prop where
  ok : okA D.sure D.ch
  nm : D.names = applyA D.sure D.ch
  nd : (D.sure.map (·.1)).Nodup
  kp : ∀ n, numsD D n → (getA D.kept n).isSome = true
  lt : ∀ n, numsD D n → (getA D.late n).isSome = true
  nx : ∀ n, numsD D n → n < D.next
structure bd (D : DS) : Prop where
  kept : D.kept.length ≤ 1000
  late : D.late.length ≤ 1000
  names : D.names.length < 64
  sure : D.sure.length ≤ 1000
  ch : D.ch.length ≤ 1000
  kt : ∀ p ∈ D.kept, p.2.length ≤ 400000
  lt : ∀ p ∈ D.late, p.2.length ≤ 400000
  na : ∀ p ∈ D.names, ∀ c ∈ p.1, c < 1114112
inductive IB
  | int (i : Int)
  | bl (b : Bool)
def vIB : IB → V
  | .int i => .int i
  | .bl b => .bl b
inductive Row
  | make (x : Tx)
  | write (x t : Tx)
  | sync (x : Tx)
  | names
  | move (x y : Tx)
  | drop (x : Tx)
  | cut (x : Tx) (n : IB)
inductive Res
  | done
  | paper
  | unknown
  deriving DecidableEq
def inIB (m : Nat) : IB → Option Nat
  | .int i => if 0 ≤ i ∧ i ≤ (m : Int) then some i.toNat else none
  | .bl _ => none
theorem inIB_int {m : Nat} {i : Int} : (inIB m (.int i)).isSome = (decide (0 ≤ i) && decide (i ≤ (m : Int))) := by
  show (if 0 ≤ i ∧ i ≤ (m : Int) then some i.toNat else none).isSome = _
  by_cases h : 0 ≤ i ∧ i ≤ (m : Int)
  · rw [if_pos h, decide_eq_true h.1, decide_eq_true h.2]; rfl
  · rw [if_neg h]
    by_cases h0 : 0 ≤ i
    · rw [decide_eq_true h0, decide_eq_false fun z => h ⟨h0, z⟩]; rfl
    · rw [decide_eq_false h0]; rfl
abbrev chD (D : DS) (c : Chg) : DS := { D with names := applyC D.names c, ch := D.ch ++ [c] }
abbrev openD (D : DS) : DS := { D with kept := putA D.kept D.next [], late := putA D.late D.next [] }
abbrev nextD (D : DS) : DS := { D with next := D.next + 1 }
abbrev makeD (D : DS) (x : Tx) : DS := nextD (chD (openD D) (.make x D.next))
abbrev writeD (D : DS) (i : Nat) (t : Tx) : DS := { D with late := putA D.late i (lateD D i ++ t) }
abbrev syncD (D : DS) (i : Nat) : DS := { D with kept := putA D.kept i (readD D i), late := putA D.late i [] }
abbrev cutD (D : DS) (i n : Nat) : DS := { D with kept := putA D.kept i ((readD D i).take n), late := putA D.late i [] }
abbrev syncN (D : DS) : DS := { D with sure := D.names, ch := [] }
def step (D : DS) : Row → DS × Res
  | .make x => if x = [] ∨ hasA D.names x = true then (D, .paper) else (makeD D x, .done)
  | .names => (syncN D, .done)
  | .write x t => match getA D.names x with
    | none => (D, .unknown)
    | some i => if 63 ∈ t then (D, .paper) else (writeD D i t, .done)
  | .sync x => match getA D.names x with
    | none => (D, .unknown)
    | some i => (syncD D i, .done)
  | .move x y => match getA D.names x with
    | none => (D, .unknown)
    | some _ => if x = y ∨ y = [] then (D, .paper) else (chD D (.move x y), .done)
  | .drop x => match getA D.names x with
    | none => (D, .unknown)
    | some _ => (chD D (.drop x), .done)
  | .cut x n => match getA D.names x with
    | none => (D, .unknown)
    | some i => match inIB (readD D i).length n with
      | none => (D, .paper)
      | some m => (cutD D i m, .done)
def noneD : DS := ⟨[], [], [], [], [], 0⟩
/-! ### what a step keeps -/
theorem wf.num {D : DS} (w : wf D) {x : Tx} {i : Nat} (h : getA D.names x = some i) : numsD D i := by
  have := List.mem_map_of_mem (f := (·.2)) (getA_mem h)
  rw [w.nm] at this
  exact applyA_nums _ this
theorem wf.numN {D : DS} (w : wf D) {n : Nat} (h : n ∈ D.names.map (·.2)) : numsD D n := by
  rw [w.nm] at h
  exact applyA_nums _ h
theorem wf.ndN {D : DS} (w : wf D) : (D.names.map (·.1)).Nodup := by rw [w.nm]; exact applyA_nodup _ w.nd
theorem wf_ch {D : DS} (w : wf D) {c : Chg} (h : okC D.names c) (hn : ∀ n, makeN c = some n → (getA D.kept n).isSome = true ∧ (getA D.late n).isSome = true ∧ n < D.next) : wf (chD D c) := by
  have num : ∀ n, numsD (chD D c) n → numsD D n ∨ makeN c = some n := fun n z => by
    rcases z with z | z
    · exact .inl (.inl z)
    · have z' : n ∈ (D.ch ++ [c]).filterMap makeN := z
      rw [List.filterMap_append, List.mem_append] at z'
      rcases z' with z' | z'
      · exact .inl (.inr z')
      · obtain ⟨d, hd, e⟩ := List.mem_filterMap.mp z'
        simp at hd
        subst hd
        exact .inr e
  refine ⟨?_, ?_, w.nd, fun n z => (num n z).elim (w.kp n) fun e => (hn n e).1, fun n z => (num n z).elim (w.lt n) fun e => (hn n e).2.1, fun n z => (num n z).elim (w.nx n) fun e => (hn n e).2.2⟩
  · show okA D.sure (D.ch ++ [c])
    rw [okA_app, ← w.nm]
    exact ⟨w.ok, h, trivial⟩
  · show applyC D.names c = applyA D.sure (D.ch ++ [c])
    rw [applyA_app, ← w.nm]
    rfl
theorem wf_put {D : DS} (w : wf D) {i j : Nat} {t u : Tx} : wf { D with kept := putA D.kept i t, late := putA D.late j u } := by
  refine ⟨w.ok, w.nm, w.nd, fun n z => ?_, fun n z => ?_, w.nx⟩
  · show (getA (putA D.kept i t) n).isSome = true
    rw [getA_put]
    split
    · rfl
    · exact w.kp n z
  · show (getA (putA D.late j u) n).isSome = true
    rw [getA_put]
    split
    · rfl
    · exact w.lt n z
theorem wf_late {D : DS} (w : wf D) {j : Nat} {u : Tx} : wf { D with late := putA D.late j u } := by
  refine ⟨w.ok, w.nm, w.nd, w.kp, fun n z => ?_, w.nx⟩
  show (getA (putA D.late j u) n).isSome = true
  rw [getA_put]
  split
  · rfl
  · exact w.lt n z
theorem wf_make {D : DS} (w : wf D) {x : Tx} (h : getA D.names x = none) : wf (makeD D x) := by
  have w1 : wf (nextD (openD D)) := by
    have := wf_put w (i := D.next) (j := D.next) (t := []) (u := [])
    exact ⟨this.ok, this.nm, this.nd, this.kp, this.lt, fun n z => Nat.lt_succ_of_lt (w.nx n z)⟩
  refine wf_ch (D := nextD (openD D)) (c := .make x D.next) w1 h fun n e => ?_
  obtain rfl : D.next = n := Option.some.inj e
  refine ⟨?_, ?_, Nat.lt_succ_self _⟩
  · show (getA (putA D.kept D.next []) D.next).isSome = true
    rw [getA_put, if_pos rfl]; rfl
  · show (getA (putA D.late D.next []) D.next).isSome = true
    rw [getA_put, if_pos rfl]; rfl
theorem wf_names {D : DS} (w : wf D) : wf (syncN D) := by
  have num : ∀ n, numsD (syncN D) n → numsD D n := fun n z => z.elim (fun y => w.numN y) fun y => by cases y
  exact ⟨trivial, rfl, w.ndN, fun n z => w.kp n (num n z), fun n z => w.lt n (num n z), fun n z => w.nx n (num n z)⟩
theorem wf_step {D : DS} (w : wf D) (r : Row) : wf (step D r).1 := by
  cases r with
  | make x =>
    simp only [step]
    split
    · exact w
    · rename_i h
      refine wf_make w ?_
      have : ¬ hasA D.names x = true := fun z => h (.inr z)
      simpa [hasA] using this
  | names => exact wf_names w
  | write x t =>
    simp only [step]
    cases e : getA D.names x with
    | none => exact w
    | some i =>
      dsimp only
      split
      · exact w
      · exact wf_late w
  | sync x =>
    simp only [step]
    cases e : getA D.names x with
    | none => exact w
    | some i => exact wf_put w
  | move x y =>
    simp only [step]
    cases e : getA D.names x with
    | none => exact w
    | some i =>
      dsimp only
      split
      · exact w
      · exact wf_ch w (by show (getA D.names x).isSome = true; rw [e]; rfl) (fun n z => by cases z)
  | drop x =>
    simp only [step]
    cases e : getA D.names x with
    | none => exact w
    | some i => exact wf_ch w (by show (getA D.names x).isSome = true; rw [e]; rfl) (fun n z => by cases z)
  | cut x n =>
    simp only [step]
    cases e : getA D.names x with
    | none => exact w
    | some i =>
      dsimp only
      cases inIB (readD D i).length n with
      | none => exact w
      | some m => exact wf_put w
end K54

namespace K54
open PySem PySem.Spec PyProof.Rows L2
theorem hu1 {k : Nat} {A : Around} (r : Room k A) : A.units + 1 < cLine := by have := r.units; omega
theorem hu2 {H : Hp} {a b : Addr} {o : HO} (h : upd H a o b = none) : b ≠ a ∧ H b = none := by
  by_cases e : b = a
  · subst e; rw [upd_same] at h; cases h
  · rw [upd_ne e] at h; exact ⟨e, h⟩
/-! ### disks in the heap -/
/-- the tuples of changes -/
def ChAt (H : Hp) : List Addr → List Chg → Prop
  | [], [] => True
  | t :: ts, c :: cs => H t = some (.tup (tupC c)) ∧ ChAt H ts cs
  | _, _ => False
theorem ChAt.keep {H H' : Hp} : ∀ {ts : List Addr} {cs : List Chg}, ChAt H ts cs → (∀ t ∈ ts, ∀ o, H t = some o → H' t = some o) → ChAt H' ts cs
  | [], [], _, _ => trivial
  | t :: ts, c :: cs, h, k => ⟨k t List.mem_cons_self _ h.1, ChAt.keep h.2 fun u m => k u (List.mem_cons_of_mem _ m)⟩
  | [], _ :: _, h, _ => h.elim
  | _ :: _, [], h, _ => h.elim
theorem ChAt.len {H : Hp} : ∀ {ts : List Addr} {cs : List Chg}, ChAt H ts cs → ts.length = cs.length
  | [], [], _ => rfl
  | t :: ts, c :: cs, h => by rw [List.length_cons, List.length_cons, ChAt.len h.2]
  | [], _ :: _, h => h.elim
  | _ :: _, [], h => h.elim
theorem ChAt.snoc {H : Hp} {t : Addr} {c : Chg} : ∀ {ts : List Addr} {cs : List Chg}, ChAt H ts cs → H t = some (.tup (tupC c)) → ChAt H (ts ++ [t]) (cs ++ [c])
  | [], [], _, e => ⟨e, trivial⟩
  | u :: ts, d :: cs, h, e => ⟨h.1, ChAt.snoc h.2 e⟩
  | [], _ :: _, h, _ => h.elim
  | _ :: _, [], h, _ => h.elim
theorem ChAt.tup {H : Hp} {t : Addr} : ∀ {ts : List Addr} {cs : List Chg}, ChAt H ts cs → t ∈ ts → ∃ c, H t = some (.tup (tupC c))
  | [], [], _, m => by cases m
  | u :: ts, d :: cs, h, m => (List.mem_cons.mp m).elim (fun e => ⟨d, e ▸ h.1⟩) fun m => ChAt.tup h.2 m
  | [], _ :: _, h, _ => h.elim
  | _ :: _, [], h, _ => h.elim
theorem ChAt.get {H : Hp} : ∀ {ts : List Addr} {cs : List Chg} (i : Nat) {t : Addr}, ChAt H ts cs → ts[i]? = some t → ∃ c, cs[i]? = some c ∧ H t = some (.tup (tupC c))
  | [], [], _, _, _, e => by simp at e
  | u :: ts, d :: cs, 0, t, h, e => by
    simp at e
    subst e
    exact ⟨d, rfl, h.1⟩
  | u :: ts, d :: cs, i + 1, t, h, e => by
    obtain ⟨c, a, b⟩ := ChAt.get i h.2 (t := t) (by simpa using e)
    exact ⟨c, by simpa using a, b⟩
  | [], _ :: _, _, _, h, _ => h.elim
  | _ :: _, [], _, _, h, _ => h.elim
theorem ChAt.take {H : Hp} : ∀ {ts : List Addr} {cs : List Chg} (k : Nat), ChAt H ts cs → ChAt H (ts.take k) (cs.take k)
  | [], [], k, _ => by simp [ChAt]
  | u :: ts, d :: cs, 0, _ => trivial
  | u :: ts, d :: cs, k + 1, h => ⟨h.1, ChAt.take k h.2⟩
  | [], _ :: _, _, h => h.elim
  | _ :: _, [], _, h => h.elim
def dF (k l n s c : Addr) (nx : Nat) : List (Str × V) := [("_kept", .ref k), ("_late", .ref l), ("_names", .ref n), ("_sure", .ref s), ("_changes", .ref c), ("_next", .int (nx : Int))]
structure DiskP (CD : Addr) (H : Hp) (a k l n s c : Addr) (D : DS) (nm : Nm) (ts : List Addr) : Prop where
  nd : [a, k, l, n, s, c].Nodup
  ins : ∃ dx, H a = some (.ins CD dx (dF k l n s c D.next))
  hk : H k = some (.dK (kvM D.kept))
  hl : H l = some (.dK (kvM D.late))
  hn : H n = some (.dK (kvT nm))
  hs : H s = some (.dK (kvT D.sure))
  hc : H c = some (.lst (ts.map V.ref))
  tp : ChAt H ts D.ch
  sm : bd D
/-- a disk at a, on the objects of fp -/
def DiskN (CD : Addr) (H : Hp) (a : Addr) (fp : List Addr) (D : DS) : Prop := ∃ k l n s c ts, fp = [a, k, l, n, s, c] ∧ DiskP CD H a k l n s c D D.names ts
def DiskAt (CD : Addr) (H : Hp) (a : Addr) (fp : List Addr) (D : DS) : Prop := DiskN CD H a fp D ∧ wf D
/-- outside fp all stands; what is new in fp' was free -/
def Fr (fp fp' : List Addr) (H H' : Hp) : Prop := (∀ b o, H b = some o → b ∉ fp → H' b = some o) ∧ ∀ b ∈ fp', b ∈ fp ∨ H b = none
theorem Fr.refl (fp : List Addr) (H : Hp) : Fr fp fp H H := ⟨fun _ _ e _ => e, fun _ m => .inl m⟩
theorem Fr.trans {f g h : List Addr} {H G I : Hp} (x : Fr f g H G) (y : Fr g h G I) : Fr f h H I :=
  ⟨fun b o e m => y.1 b o (x.1 b o e m) fun z => (x.2 b z).elim m fun n => by rw [n] at e; (cases e), fun b m => by
    rcases y.2 b m with z | z
    · exact x.2 b z
    · by_cases hb : b ∈ f
      · exact .inl hb
      · refine .inr ?_
        cases e : H b with
        | none => rfl
        | some o => have := x.1 b o e hb; rw [z] at this; cases this⟩
theorem Fr.same {f : List Addr} {H G : Hp} (s : Same H G) : Fr f f H G := ⟨fun b o e _ => s b o e, fun _ m => .inl m⟩
theorem Fr.keep {f g : List Addr} {H G : Hp} (x : Fr f g H G) {b : Addr} {o : HO} (e : H b = some o) (m : b ∉ f) : G b = some o := x.1 b o e m
theorem Fr.put {f g : List Addr} {H G : Hp} (x : Fr f g H G) {a : Addr} {o : HO} (m : a ∈ f) : Fr f g H (upd G a o) := ⟨fun b u e nb => by
  have nz : b ≠ a := fun z => nb (by rw [z]; exact m)
  rw [upd_ne nz]; exact x.1 b u e nb, x.2⟩
theorem Fr.neu {f g : List Addr} {H G : Hp} (x : Fr f g H G) {t : Addr} {o : HO} (h : G t = none) : Fr f g H (upd G t o) := ⟨fun b u e nb => by have := x.1 b u e nb; rw [upd_ne (ne_of_none this h)]; exact this, x.2⟩
theorem DiskP.not {CD : Addr} {H : Hp} {a k l n s c : Addr} {D : DS} {nm : Nm} {ts : List Addr} (x : DiskP CD H a k l n s c D nm ts) : ∀ t ∈ ts, t ∉ [a, k, l, n, s, c] := by
  obtain ⟨nd, ⟨dx, hi⟩, hk, hl, hn, hs, hc, tp, sm⟩ := x
  intro t m z
  obtain ⟨ch, e⟩ := tp.tup m
  simp only [List.mem_cons, List.not_mem_nil, or_false] at z
  rcases z with rfl | rfl | rfl | rfl | rfl | rfl
  · rw [e] at hi; cases hi
  · rw [e] at hk; cases hk
  · rw [e] at hl; cases hl
  · rw [e] at hn; cases hn
  · rw [e] at hs; cases hs
  · rw [e] at hc; cases hc
/-- what is kept: the own objects and the tuples -/
def foot (fp ts : List Addr) : List Addr := fp ++ ts
theorem DiskP.keep {CD : Addr} {H H' : Hp} {a k l n s c : Addr} {D : DS} {nm : Nm} {ts : List Addr} (x : DiskP CD H a k l n s c D nm ts) (h : ∀ b o, H b = some o → b ∈ [a, k, l, n, s, c] ∨ (∃ xs, o = .tup xs) → H' b = some o) : DiskP CD H' a k l n s c D nm ts := by
  obtain ⟨nd, ⟨dx, hi⟩, hk, hl, hn, hs, hc, tp, sm⟩ := x
  refine ⟨nd, ⟨dx, h _ _ hi (.inl (by simp))⟩, h _ _ hk (.inl (by simp)), h _ _ hl (.inl (by simp)), h _ _ hn (.inl (by simp)), h _ _ hs (.inl (by simp)), h _ _ hc (.inl (by simp)), tp.keep fun t m o e => ?_, sm⟩
  obtain ⟨ch, e2⟩ := tp.tup m
  rw [e2] at e
  cases e
  exact h _ _ e2 (.inr ⟨_, rfl⟩)
theorem DiskN.keep {CD : Addr} {H H' : Hp} {a : Addr} {fp : List Addr} {D : DS} (x : DiskN CD H a fp D) (h : ∀ b o, H b = some o → b ∈ fp ∨ (∃ xs, o = .tup xs) → H' b = some o) : DiskN CD H' a fp D := by
  obtain ⟨k, l, n, s, c, ts, rfl, p⟩ := x
  exact ⟨k, l, n, s, c, ts, rfl, p.keep h⟩
theorem DiskAt.keep {CD : Addr} {H H' : Hp} {a : Addr} {fp : List Addr} {D : DS} (x : DiskAt CD H a fp D) (h : ∀ b o, H b = some o → b ∈ fp ∨ (∃ xs, o = .tup xs) → H' b = some o) : DiskAt CD H' a fp D := ⟨x.1.keep h, x.2⟩
theorem DiskN.same {CD : Addr} {H H' : Hp} {a : Addr} {fp : List Addr} {D : DS} (x : DiskN CD H a fp D) (s : Same H H') : DiskN CD H' a fp D := x.keep fun b o e _ => s b o e
theorem DiskAt.same {CD : Addr} {H H' : Hp} {a : Addr} {fp : List Addr} {D : DS} (x : DiskAt CD H a fp D) (s : Same H H') : DiskAt CD H' a fp D := ⟨x.1.same s, x.2⟩
theorem DiskN.has {CD : Addr} {H : Hp} {a : Addr} {fp : List Addr} {D : DS} (x : DiskN CD H a fp D) : ∀ b ∈ fp, H b ≠ none := by
  obtain ⟨k, l, n, s, c, ts, rfl, ⟨nd, ⟨dx, hi⟩, hk, hl, hn, hs, hc, tp, sm⟩⟩ := x
  intro b m z
  simp only [List.mem_cons, List.not_mem_nil, or_false] at m
  rcases m with rfl | rfl | rfl | rfl | rfl | rfl
  · rw [z] at hi; cases hi
  · rw [z] at hk; cases hk
  · rw [z] at hl; cases hl
  · rw [z] at hn; cases hn
  · rw [z] at hs; cases hs
  · rw [z] at hc; cases hc
/-- no tuple is among a disk's own objects -/
theorem DiskN.noTup {CD : Addr} {H : Hp} {a : Addr} {fp : List Addr} {D : DS} (x : DiskN CD H a fp D) : ∀ b xs, H b = some (.tup xs) → b ∉ fp := by
  obtain ⟨k, l, n, s, c, ts, rfl, ⟨nd, ⟨dx, hi⟩, hk, hl, hn, hs, hc, tp, sm⟩⟩ := x
  intro b xs e m
  simp only [List.mem_cons, List.not_mem_nil, or_false] at m
  rcases m with rfl | rfl | rfl | rfl | rfl | rfl
  · rw [e] at hi; cases hi
  · rw [e] at hk; cases hk
  · rw [e] at hl; cases hl
  · rw [e] at hn; cases hn
  · rw [e] at hs; cases hs
  · rw [e] at hc; cases hc
theorem texts_at {D : DS} {x : Tx} {i : Nat} (w : wf D) (sm : bd D) (h : getA D.names x = some i) : ∃ t u, getA D.kept i = some t ∧ getA D.late i = some u ∧ t.length ≤ 400000 ∧ u.length ≤ 400000 ∧ readD D i = t ++ u ∧ lateD D i = u ∧ keptD D i = t := by
  obtain ⟨t, ht⟩ := Option.isSome_iff_exists.mp (w.kp i (w.num h))
  obtain ⟨u, hu⟩ := Option.isSome_iff_exists.mp (w.lt i (w.num h))
  refine ⟨t, u, ht, hu, sm.kt _ (getA_mem ht), sm.lt _ (getA_mem hu), ?_⟩
  unfold readD keptD lateD
  rw [ht, hu]
  exact ⟨rfl, rfl, rfl⟩
/-! ### texts in order -/
def leS (a b : Str) : Prop := tl a ≤ tl b
theorem risingS_pair : ∀ (l : List Str) (p : Str), risingS p l = true → (p :: l).Pairwise leS
  | [], p, _ => List.pairwise_singleton _ _
  | x :: r, p, h => by
    unfold risingS at h
    rw [Bool.and_eq_true] at h
    have ih := risingS_pair r x h.2
    have h1 : tl p ≤ tl x := by
      have e := h.1
      rw [ltCps_eq] at e
      simpa using e
    refine List.pairwise_cons.mpr ⟨fun y hy => ?_, ih⟩
    rcases List.mem_cons.mp hy with rfl | hy
    · exact h1
    · exact List.le_trans h1 ((List.pairwise_cons.mp ih).1 y hy)
theorem sortedS_pair : ∀ (l : List Str), sortedS l = true → l.Pairwise leS
  | [], _ => List.Pairwise.nil
  | x :: r, h => risingS_pair r x h
def srt (l : List Tx) : List Tx := l.mergeSort fun a b => decide (a ≤ b)
theorem srt_perm (l : List Tx) : (srt l).Perm l := List.mergeSort_perm ..
theorem srt_pair (l : List Tx) : (srt l).Pairwise fun a b => a ≤ b := by
  have := List.pairwise_mergeSort (le := fun a b : Tx => decide (a ≤ b)) (fun a b c h1 h2 => by
    simp only [decide_eq_true_eq] at *
    exact List.le_trans h1 h2) (fun a b => by
    simp only [Bool.or_eq_true, decide_eq_true_eq]
    exact List.le_total a b) l
  exact this.imp fun h => by simpa using h
theorem srt_only {xs ys : List Tx} (p : xs.Perm ys) (h : xs.Pairwise fun a b => a ≤ b) : xs = srt ys :=
  List.Perm.eq_of_pairwise (fun a b _ _ h1 h2 => List.le_antisymm h1 h2) h (srt_pair ys) (p.trans (srt_perm ys).symm)
/-- what sorted gives of texts -/
theorem srtS {ys : List Str} {xs : List Tx} (p : ys.Perm (xs.map mkS)) (h : sortedS ys = true) : ys = (srt xs).map mkS := by
  have e : ys = (ys.map tl).map mkS := by
    rw [List.map_map]
    exact (List.map_id' ys).symm.trans (List.map_congr_left fun x _ => TL.ext_tl rfl)
  have q : (ys.map tl).Perm xs := by
    have := p.map tl
    rw [List.map_map] at this
    exact this.trans (List.Perm.of_eq ((List.map_congr_left fun x _ => rfl).trans (List.map_id' xs)))
  rw [e, ← srt_only q]
  have := sortedS_pair _ h
  exact (List.pairwise_map.mpr this)
/-! ### the promises -/
def finR (CP CU : Addr) : Res → VK → XK → Hp → Prop
  | .done, Q, _, H => Q .non H
  | .paper, _, E, H => E (.ref CP) none H
  | .unknown, _, E, H => E (.ref CU) none H
def spIsNum : Sp := fun vs H Q _ => ∃ (v : IB) (m : Nat), vs = [vIB v, .int 0, .int (m : Int)] ∧ Q (.bl (inIB m v).isSome) H
def look {α : Type} (o : Option α) (q : α → Prop) (e : Prop) : Prop := match o with | some i => q i | none => e
def spFile (CD CU : Addr) : Sp := fun vs H Q E => ∃ a fp D x, vs = [.ref a, sv x] ∧ DiskN CD H a fp D ∧ look (getA D.names x) (fun i => Q (.int ((i : Nat) : Int)) H) (E (.ref CU) none H)
def spNames (CD : Addr) : Sp := fun vs H Q _ => ∃ a fp D, vs = [.ref a] ∧ DiskN CD H a fp D ∧ ∀ p, H p = none → Q (.ref p) (upd H p (.lst ((srt (D.names.map (·.1))).map sv)))
def spHas (CD : Addr) : Sp := fun vs H Q _ => ∃ a fp D x, vs = [.ref a, sv x] ∧ DiskN CD H a fp D ∧ Q (.bl (hasA D.names x)) H
def spRead (CD CU : Addr) : Sp := fun vs H Q E => ∃ a fp D x, vs = [.ref a, sv x] ∧ DiskAt CD H a fp D ∧ look (getA D.names x) (fun i => Q (sv (readD D i)) H) (E (.ref CU) none H)
def spSize (CD CU : Addr) : Sp := fun vs H Q E => ∃ a fp D x, vs = [.ref a, sv x] ∧ DiskAt CD H a fp D ∧ look (getA D.names x) (fun i => Q (.int (((readD D i).length : Nat) : Int)) H) (E (.ref CU) none H)
def spSure (CD CU : Addr) : Sp := fun vs H Q E => ∃ a fp D x, vs = [.ref a, sv x] ∧ DiskAt CD H a fp D ∧ look (getA D.names x) (fun i => Q (.int (((keptD D i).length : Nat) : Int)) H) (E (.ref CU) none H)
def spLSize (CD CU : Addr) : Sp := fun vs H Q E => ∃ a fp D x, vs = [.ref a, sv x] ∧ DiskAt CD H a fp D ∧ look (getA D.names x) (fun i => Q (.int (((lateD D i).length : Nat) : Int)) H) (E (.ref CU) none H)
def spLCh (CD : Addr) : Sp := fun vs H Q _ => ∃ a fp D, vs = [.ref a] ∧ DiskN CD H a fp D ∧ Q (.int ((D.ch.length : Nat) : Int)) H
def spApplied : Sp := fun vs H Q _ => ∃ (n c : Addr) (ts : List Addr) (l : Nm) (cs : List Chg), vs = [.ref n, .ref c] ∧ H n = some (.dK (kvT l)) ∧ H c = some (.lst (ts.map V.ref)) ∧ ChAt H ts cs ∧ okA l cs ∧ l.length + cs.length ≤ 100000 ∧
  ∀ p H', Same H H' → H p = none → H' p = some (.dK (kvT (applyA l cs))) → Q (.ref p) H'
def spChange (CD : Addr) : Sp := fun vs H Q _ => ∃ (a t : Addr) (fp : List Addr) (D : DS) (c : Chg), vs = [.ref a, .ref t] ∧ DiskN CD H a fp D ∧ H t = some (.tup (tupC c)) ∧ okC D.names c ∧ bd (chD D c) ∧
  ∀ H' fp', DiskN CD H' a fp' (chD D c) → Fr fp fp' H H' → Q .non H'
def spOp (CD CP CU : Addr) (vs0 : List V) (row : Row) (a : Addr) (vs : List V) (H : Hp) (Q : VK) (E : XK) : Prop := ∃ fp D, vs = .ref a :: vs0 ∧ DiskAt CD H a fp D ∧ bd (step D row).1 ∧
  ∀ H' fp', DiskAt CD H' a fp' (step D row).1 → Fr fp fp' H H' → finR CP CU (step D row).2 Q E H'
def spMake (CD CP CU : Addr) : Sp := fun vs H Q E => ∃ a x, spOp CD CP CU [sv x] (.make x) a vs H Q E
def spWrite (CD CP CU : Addr) : Sp := fun vs H Q E => ∃ a x t, spOp CD CP CU [sv x, sv t] (.write x t) a vs H Q E
def spSync (CD CP CU : Addr) : Sp := fun vs H Q E => ∃ a x, spOp CD CP CU [sv x] (.sync x) a vs H Q E
def spSyncN (CD CP CU : Addr) : Sp := fun vs H Q E => ∃ a, spOp CD CP CU [] .names a vs H Q E
def spMove (CD CP CU : Addr) : Sp := fun vs H Q E => ∃ a x y, spOp CD CP CU [sv x, sv y] (.move x y) a vs H Q E
def spRemove (CD CP CU : Addr) : Sp := fun vs H Q E => ∃ a x, spOp CD CP CU [sv x] (.drop x) a vs H Q E
def spCut (CD CP CU : Addr) : Sp := fun vs H Q E => ∃ a x n, spOp CD CP CU [sv x, vIB n] (.cut x n) a vs H Q E
def spInit (CD : Addr) : Sp := fun vs H Q _ => ∃ a dx, vs = [.ref a] ∧ H a = some (.ins CD dx []) ∧ ∀ H' fp', DiskAt CD H' a fp' noneD → Fr [a] fp' H H' → Q .non H'
def spCopy (CD : Addr) : Sp := fun vs H Q _ => ∃ a fp D, vs = [.ref a] ∧ DiskAt CD H a fp D ∧ ∀ b H' fp', DiskAt CD H' b fp' D → Same H H' → (∀ c ∈ fp', H c = none) → Q (.ref b) H'
theorem num_none {n : Nat} (z : numsD noneD n) : False := by
  rcases z with z | z
  · have z' : n ∈ ([] : List Nat) := z
    cases z'
  · have z' : n ∈ ([] : List Nat) := z
    cases z'
theorem wf_none : wf noneD := ⟨trivial, rfl, List.nodup_nil, fun n z => (num_none z).elim, fun n z => (num_none z).elim, fun n z => (num_none z).elim⟩
theorem bd_none : bd noneD := ⟨by decide, by decide, by decide, by decide, by decide, fun p m => (by cases m), fun p m => (by cases m), fun p m => (by cases m)⟩
end K54

namespace K54
open PySem PySem.Spec PyProof.Rows L2
local macro_rules | `(tactic| array_mem_dec) => `(tactic| first | with_reducible assumption | with_reducible exact upd_same | ((with_reducible apply same_at); (with_reducible assumption); array_mem_dec) | ((with_reducible apply upd_atN); (with_reducible assumption); array_mem_dec) | ((with_reducible apply upd_at); (first | with_reducible assumption | (apply Ne.symm; with_reducible assumption)); array_mem_dec))
local macro_rules | `(tactic| array_get_dec) => `(tactic| first | (with_reducible refine w_seq ?_) | (with_reducible refine w_asg ?_) | (with_reducible refine w_drop ?_) | (with_reducible refine w_ret ?_) | (with_reducible refine w_retN ?_) | (with_reducible refine w_next ?_) | (with_reducible refine w_break ?_) | (with_reducible refine w_cont ?_) | (with_reducible refine w_ifS ?_) | (with_reducible refine w_sub ?_) | (with_reducible refine w_c ?_) | (with_reducible refine w_op ?_) | (with_reducible refine w_un ?_) | (with_reducible refine w_test ?_) | (with_reducible refine w_B ?_) | (with_reducible refine w_yes ?_) | (with_reducible refine w_not ?_) | (with_reducible refine w_and ?_) | (with_reducible refine w_or ?_) | (with_reducible refine w_andV ?_) | (with_reducible refine w_orV ?_) | (with_reducible refine w_notV ?_) | (with_reducible refine w_ifE ?_) | (with_reducible refine w_nil ?_) | (with_reducible refine w_cons ?_) | (with_reducible refine w_call ?_) | (with_reducible refine w_callS ?_) | (with_reducible refine w_cB ?_) | (with_reducible refine w_lst ?_) | (with_reducible refine w_tup ?_) | (with_reducible refine w_sl ?_) | (with_reducible refine w_noPart ?_) | (with_reducible refine w_part ?_) | (with_reducible refine w_bm ?_) | (with_reducible refine w_bm0 ?_) | (with_reducible refine w_strTy ?_) | (with_reducible refine w_bl ?_) | (with_reducible refine w_int1 ?_) | (with_reducible refine w_str1 ?_) | (with_reducible refine w_rI0 ?_) | (with_reducible refine w_rU ?_) | (with_reducible refine w_eqI ?_) | (with_reducible refine w_eqS ?_) | (with_reducible refine w_neI ?_) | (with_reducible refine w_neS ?_) | (with_reducible refine w_bl2 ?_) | (with_reducible refine w_isN ?_) | (with_reducible refine w_for ?_) | (with_reducible refine w_iRng1 ?_) | (with_reducible refine w_iRng2 ?_) | (with_reducible refine w_iList ?_) | (with_reducible refine w_iTup ?_) | (with_reducible refine w_iStr ?_) | (with_reducible refine w_lc ?_) | (with_reducible refine w_M1 ?_) | (with_reducible refine w_M0 ?_) | (with_reducible refine w_isS ?_) | ((with_reducible apply w_name); (simp only [wipe, List.map_cons, List.map_nil, List.foldl_cons, List.foldl_nil, List.set_cons_zero, List.set_cons_succ]; exact rfl)) | ((with_reducible apply w_var); exact rfl) | ((with_reducible apply w_lstTy); array_mem_dec) | ((with_reducible apply w_lenL); array_mem_dec) | ((with_reducible apply w_lenT); array_mem_dec) | ((with_reducible apply w_listOf); array_mem_dec) | ((with_reducible apply w_lenS); (first | (with_reducible assumption) | omega | (rw [sizeLine_eq]; omega))) | ((with_reducible apply w_slS); (first | (with_reducible assumption) | omega | (rw [sizeLine_eq]; omega))) | ((with_reducible apply w_wipe); exact rfl) | ((with_reducible apply w_acc); array_mem_dec; (try (first | (with_reducible assumption) | omega | (rw [sizeLine_eq]; omega)))) | ((with_reducible apply w_itl); array_mem_dec) | ((with_reducible apply w_itt); array_mem_dec) | ((with_reducible apply w_append); array_mem_dec; (try (first | (with_reducible assumption) | omega | (rw [sizeLine_eq]; omega)))) | ((with_reducible apply w_rng1); (first | (with_reducible assumption) | omega); (first | (with_reducible assumption) | omega)) | ((with_reducible apply w_ixL); array_mem_dec; (first | (with_reducible assumption) | exact rfl | (apply atI_nat; (with_reducible assumption)) | exact atI_last _ _)) | ((with_reducible apply w_ixT); array_mem_dec; (first | (with_reducible assumption) | exact rfl | (apply atI_nat; (with_reducible assumption)) | exact atI_last _ _)) | ((with_reducible apply w_iT); first | exact rfl | (with_reducible assumption)) | ((with_reducible apply w_iF); first | exact rfl | (with_reducible assumption)) | ((with_reducible apply w_isiI (b := true)); decide +kernel) | ((with_reducible apply w_isiI (b := false)); decide +kernel) | ((with_reducible apply w_isiB (b := true)); decide +kernel) | ((with_reducible apply w_isiB (b := false)); decide +kernel) | ((with_reducible apply w_isiS (b := true)); decide +kernel) | ((with_reducible apply w_isiS (b := false)); decide +kernel) | ((with_reducible apply w_isiN (b := true)); decide +kernel) | ((with_reducible apply w_isiN (b := false)); decide +kernel) | ((with_reducible apply w_isiL (b := true)); array_mem_dec; decide +kernel) | ((with_reducible apply w_isiL (b := false)); array_mem_dec; decide +kernel) | ((with_reducible apply w_isiT (b := true)); array_mem_dec; decide +kernel) | ((with_reducible apply w_isiT (b := false)); array_mem_dec; decide +kernel) | (with_reducible refine w_notT ?_) | (with_reducible refine w_chain ?_) | ((with_reducible apply w_trL); array_mem_dec) | ((with_reducible apply w_gTup); array_mem_dec; exact rfl) | ((with_reducible apply w_gLst); array_mem_dec; exact rfl) | (with_reducible refine w_gCons ?_) | (with_reducible refine w_gNil ?_) | (with_reducible refine w_Fld ?_) | (with_reducible refine w_sFld ?_) | (with_reducible refine w_dget ?_) | (with_reducible refine w_dIn ?_) | (with_reducible refine w_dNotIn ?_) | (with_reducible refine w_sDPut ?_) | (with_reducible refine w_dnewK ?_) | (with_reducible refine w_meth ?_) | (with_reducible refine w_make ?_) | (with_reducible refine w_methS ?_) | (with_reducible refine w_makeS ?_) | (with_reducible refine w_dpop ?_) | ((with_reducible apply w_fld1); array_mem_dec; (with_reducible assumption); (with_reducible assumption); exact rfl) | ((with_reducible apply w_sfld1); array_mem_dec; (with_reducible assumption); (with_reducible assumption); exact Nat.le_of_ble_eq_true rfl) | ((with_reducible apply w_meth1); array_mem_dec; exact rfl) | ((with_reducible apply w_dgetS); array_mem_dec; (with_reducible assumption)) | ((with_reducible apply w_dgetI); array_mem_dec; (with_reducible assumption)) | ((with_reducible apply w_dinS); array_mem_dec) | ((with_reducible apply w_dputI); array_mem_dec; (try (first | (with_reducible assumption) | omega | (rw [sizeLine_eq]; omega)))) | ((with_reducible apply w_dputS); array_mem_dec; (try (first | (with_reducible assumption) | omega | (rw [sizeLine_eq]; omega)))) | ((with_reducible apply w_isD); array_mem_dec) | ((with_reducible apply w_dictD); array_mem_dec) | ((with_reducible apply w_dpopS); array_mem_dec; (with_reducible assumption)) | ((with_reducible apply w_setL); array_mem_dec; exact rfl) | ((with_reducible apply w_cat); array_mem_dec; array_mem_dec; (try (first | (with_reducible assumption) | omega | (rw [sizeLine_eq]; omega)))) | (with_reducible refine w_iKeys ?_) | (with_reducible refine w_dget2 ?_) | (with_reducible refine w_scX ?_) | ((with_reducible apply w_keysF); array_mem_dec) | ((with_reducible apply w_dgetSF); array_mem_dec; (with_reducible assumption)))
section
variable {P : Program} {w : World} {K : PySem.W.Frag} {mg : Str → Option Value} {base : Heap}
theorem ok_is_number (M : Nms K mg) : FnOk P w K mg base CX0 1 M.a_is_number M.d_is_number ["value", "least", "most"] spIsNum := by
  obtain ⟨dvs, F⟩ := M.F_is_number
  refine F.ok sc_is_number (fun vs H Q E h => ?_) (fun cdv A outer s H vs Q E hr h => ?_)
  · obtain ⟨v, m, rfl, _⟩ := h
    rfl
  · refine ⟨_, (pss_cons (ps_if (PW.pt (pw_or (pt_val (pe_callB call_isi (by rfl) M.T.b_isinstance (by decide +kernel) (pa_cons (pv 0) (pa_cons (pe_bltn (v := .ty "bool") (u := .type "bool") (by rfl) M.T.b_bool (by decide +kernel) rfl) pa_nil)))) (pw_or1 (pt_not (pt_val (pe_callB call_isi (by rfl) M.T.b_isinstance (by decide +kernel) (pa_cons (pv 0) (pa_cons (pe_bltn (v := .ty "int") (u := .type "int") (by rfl) M.T.b_int (by decide +kernel) rfl) pa_nil)))))))) (pss_one (ps_ret pe_bl)) pss_nil)
    (pss_one (ps_ret (pe_chain op_le op_le (pv 1) (pv 0) (pv 2))))), ?_⟩
    try dsimp only [cxOf, Cx.nox]
    obtain ⟨v, m, rfl, q⟩ := h
    cases v with
    | int i =>
      refine w_start (σ' := [some (.int i), some (.int 0), some (.int (m : Int))]) rfl ?_
      (repeat array_get_dec)
      rw [inIB_int] at q
      refine ite2 (fun h1 => ?_) (fun h1 => ?_)
      · (repeat array_get_dec)
        rw [h1, Bool.true_and] at q
        exact q
      · have h1' : decide ((0 : Int) ≤ i) = false := by simpa using h1
        rw [h1', Bool.false_and] at q
        exact q
    | bl b =>
      refine w_start (σ' := [some (.bl b), some (.int 0), some (.int (m : Int))]) rfl ?_
      (repeat array_get_dec)
      exact q
theorem ok_Disk__file (M : Nms K mg) : FnOk P w K mg base (L2N.CX P w) 1 M.a_Disk__file M.d_Disk__file ["self", "name"] (spFile M.CD M.CU) := by
  refine M.F_Disk__file.okN sc_Disk__file (fun vs H Q E h => ?_) (fun cdv A outer s H vs Q E hr h => ?_)
  · obtain ⟨a, fp, D, x, rfl, _⟩ := h
    rfl
  · have hu := hu1 hr
    have clD := M.clD
    have nD_kept := M.nD_kept
    have nD_late := M.nD_late
    have nD_names := M.nD_names
    have nD_sure := M.nD_sure
    have nD_changes := M.nD_changes
    have nD_next := M.nD_next
    refine ⟨_, (pss_cons (ps_if (pt_cmp (pc_dnotin hu (pv 1) (pe_fld (pv 0) rfl))) (pss_one (L2N.ps_raise rfl (L2N.takes_of rfl rfl rfl rfl) (L2N.pmk_own PySem.F.excBase_ValueError M.XU.xP M.XU.gP M.XU.kP (raises_own M.XU.bP M.XU.tP) rfl))) pss_nil)
    (pss_one (ps_ret (pe_dget hu (pe_fld (pv 0) rfl) (pv 1) (fun _ _ => rfl))))), ?_⟩
    try dsimp only [cxOf, Cx.nox]
    obtain ⟨a, fp, D, x, rfl, ⟨k, l, n, sa, c, ts, rfl, ⟨nd, ⟨dx, hi⟩, hk, hl, hn, hs, hc, tp, sm⟩⟩, q⟩ := h
    refine w_start (σ' := [some (.ref a), some (sv x)]) rfl ?_
    have e1 := kvT_val D.names x
    (repeat array_get_dec)
    rw [e1]
    cases e : getA D.names x with
    | none =>
      rw [e] at q
      (repeat array_get_dec)
      exact q
    | some i =>
      rw [e] at q
      have e2 : valV (kvT D.names) (Sum.inr (mkS x)) = some (.int ((i : Nat) : Int)) := by rw [kvT_val, e]; rfl
      (repeat array_get_dec)
      exact q
theorem okL_Disk__file (M : Nms K mg) : FnOk P w K mg base CX0 1 M.a_Disk__file M.d_Disk__file ["self", "name"] (fun vs H Q _ => ∃ a fp D x i, vs = [.ref a, sv x] ∧ DiskN M.CD H a fp D ∧ getA D.names x = some i ∧ Q (.int ((i : Nat) : Int)) H) :=
  ok_low (ok_Disk__file M) fun vs H Q E ⟨a, fp, D, x, i, e, d, g, q⟩ => ⟨a, fp, D, x, e, d, by rw [g]; exact q⟩
theorem ok_Disk_names (M : Nms K mg) : FnOk P w K mg base CX0 1 M.a_Disk_names M.d_Disk_names ["self"] (spNames M.CD) := by
  refine M.F_Disk_names.ok sc_Disk_names (fun vs H Q E h => ?_) (fun cdv A outer s H vs Q E hr h => ?_)
  · obtain ⟨a, fp, D, rfl, _⟩ := h
    rfl
  · have hu := hu1 hr
    have clD := M.clD
    have nD_kept := M.nD_kept
    have nD_late := M.nD_late
    have nD_names := M.nD_names
    have nD_sure := M.nD_sure
    have nD_changes := M.nD_changes
    have nD_next := M.nD_next
    refine ⟨_, (pss_one (ps_ret (pe_callB (call_sortedD rfl) (by rfl) M.T.b_sorted (by decide +kernel) (pa_cons (pe_fld (pv 0) rfl) pa_nil)))), ?_⟩
    try dsimp only [cxOf, Cx.nox]
    obtain ⟨a, fp, D, rfl, ⟨k, l, n, sa, c, ts, rfl, ⟨nd, ⟨dx, hi⟩, hk, hl, hn, hs, hc, tp, sm⟩⟩, q⟩ := h
    refine w_start (σ' := [some (.ref a)]) rfl ?_
    (repeat array_get_dec)
    refine ⟨n, kvT D.names, D.names.map fun p => mkS p.1, rfl, Rd.of hn, kvT_keys _, ?_, fun ys p hp h1 h2 => ?_⟩
    · rw [List.length_map]
      exact sm.names
    · have e : ys = (srt (D.names.map (·.1))).map mkS := srtS (by rw [List.map_map]; exact hp) h1
      rw [e, List.map_map]
      exact q p h2
theorem ok_Disk_has (M : Nms K mg) : FnOk P w K mg base CX0 1 M.a_Disk_has M.d_Disk_has ["self", "name"] (spHas M.CD) := by
  refine M.F_Disk_has.ok sc_Disk_has (fun vs H Q E h => ?_) (fun cdv A outer s H vs Q E hr h => ?_)
  · obtain ⟨a, fp, D, x, rfl, _⟩ := h
    rfl
  · have hu := hu1 hr
    have clD := M.clD
    have nD_kept := M.nD_kept
    have nD_late := M.nD_late
    have nD_names := M.nD_names
    have nD_sure := M.nD_sure
    have nD_changes := M.nD_changes
    have nD_next := M.nD_next
    refine ⟨_, (pss_one (ps_ret (pe_cmp (pc_din hu (pv 1) (pe_fld (pv 0) rfl))))), ?_⟩
    try dsimp only [cxOf, Cx.nox]
    obtain ⟨a, fp, D, x, rfl, ⟨k, l, n, sa, c, ts, rfl, ⟨nd, ⟨dx, hi⟩, hk, hl, hn, hs, hc, tp, sm⟩⟩, q⟩ := h
    refine w_start (σ' := [some (.ref a), some (sv x)]) rfl ?_
    (repeat array_get_dec)
    rw [kvT_val]
    unfold hasA at q
    rw [show (Option.map (fun n : Nat => V.int (n : Int)) (getA D.names x)).isSome = (getA D.names x).isSome from by cases getA D.names x <;> rfl]
    exact q
theorem ok_Disk_read (M : Nms K mg) : FnOk P w K mg base (L2N.CX P w) 2 M.a_Disk_read M.d_Disk_read ["self", "name"] (spRead M.CD M.CU) := by
  refine M.F_Disk_read.okN sc_Disk_read (fun vs H Q E h => ?_) (fun cdv A outer s H vs Q E hr h => ?_)
  · obtain ⟨a, fp, D, x, rfl, _⟩ := h
    rfl
  · have hu := hu1 hr
    have clD := M.clD
    have nD_kept := M.nD_kept
    have nD_late := M.nD_late
    have nD_names := M.nD_names
    have nD_sure := M.nD_sure
    have nD_changes := M.nD_changes
    have nD_next := M.nD_next
    refine ⟨_, (pss_cons (ps_set (i := 2) sc_Disk_read.nd rfl (Or.inl rfl) (pe_methS1 (pv 0) M.clD M.m_Disk__file (ok_Disk__file M) (hr.mono (by decide)) M.b_Disk__file (fun σ => L2N.passAt (L2N.takes_of rfl rfl rfl rfl) σ) (pa_cons (pv 1) pa_nil)))
    (pss_one (ps_ret (pe_op op_add_str (pe_dget hu (pe_fld (pv 0) rfl) (pv 2) (fun _ _ => rfl)) (pe_dget hu (pe_fld (pv 0) rfl) (pv 2) (fun _ _ => rfl)))))), ?_⟩
    try dsimp only [cxOf, Cx.nox]
    obtain ⟨a, fp, D, x, rfl, ⟨dk, wfd⟩, q⟩ := h
    have dk' := dk
    obtain ⟨k, l, n, sa, c, ts, rfl, ⟨nd, ⟨dx, hi⟩, hk, hl, hn, hs, hc, tp, sm⟩⟩ := dk'
    refine w_start (σ' := [some (.ref a), some (sv x), none]) rfl ?_
    (repeat array_get_dec)
    refine ⟨a, _, D, x, rfl, dk, ?_⟩
    cases e : getA D.names x with
    | none =>
      rw [e] at q
      exact q
    | some i =>
      rw [e] at q
      obtain ⟨t, u, g1, g2, b1, b2, er, _, _⟩ := texts_at wfd sm e
      have e1 : valV (kvM D.kept) (Sum.inl ((i : Nat) : Int)) = some (sv t) := by rw [kvM_val, g1]; rfl
      have e2 : valV (kvM D.late) (Sum.inl ((i : Nat) : Int)) = some (sv u) := by rw [kvM_val, g2]; rfl
      dsimp only [look] at q ⊢
      (repeat array_get_dec)
      refine w_addS (fit_add (s := mkS t) (t := mkS u) (a := t.length) (b := u.length) (Nat.le_of_eq (len_tl _)) (Nat.le_of_eq (len_tl _)) (by omega)) ?_
      rw [mkS_app, ← er]
      exact q
theorem okL_Disk_read (M : Nms K mg) : FnOk P w K mg base CX0 2 M.a_Disk_read M.d_Disk_read ["self", "name"] (fun vs H Q _ => ∃ a fp D x i, vs = [.ref a, sv x] ∧ DiskAt M.CD H a fp D ∧ getA D.names x = some i ∧ Q (sv (readD D i)) H) :=
  ok_low (ok_Disk_read M) fun vs H Q E ⟨a, fp, D, x, i, e, d, g, q⟩ => ⟨a, fp, D, x, e, d, by rw [g]; exact q⟩
theorem ok_Disk_late_size (M : Nms K mg) : FnOk P w K mg base (L2N.CX P w) 2 M.a_Disk_late_size M.d_Disk_late_size ["self", "name"] (spLSize M.CD M.CU) := by
  refine M.F_Disk_late_size.okN sc_Disk_late_size (fun vs H Q E h => ?_) (fun cdv A outer s H vs Q E hr h => ?_)
  · obtain ⟨a, fp, D, x, rfl, _⟩ := h
    rfl
  · have hu := hu1 hr
    have clD := M.clD
    have nD_kept := M.nD_kept
    have nD_late := M.nD_late
    have nD_names := M.nD_names
    have nD_sure := M.nD_sure
    have nD_changes := M.nD_changes
    have nD_next := M.nD_next
    refine ⟨_, (pss_one (ps_ret (pe_callB (id := "len") (r := fun xs H Q => ∃ x n, xs = [x] ∧ LenV K x H n ∧ Q (V.int ((n : Nat) : Int)) H) call_len (by rfl) M.T.b_len (by decide +kernel) (pa_cons (pe_dget hu (pe_fld (pv 0) rfl) (pe_methS1 (pv 0) M.clD M.m_Disk__file (ok_Disk__file M) (hr.mono (by decide)) M.b_Disk__file (fun σ => L2N.passAt (L2N.takes_of rfl rfl rfl rfl) σ) (pa_cons (pv 1) pa_nil)) (fun _ _ => rfl)) pa_nil)))), ?_⟩
    try dsimp only [cxOf, Cx.nox]
    obtain ⟨a, fp, D, x, rfl, dk, q⟩ := h
    have dk' := dk
    obtain ⟨⟨k, l, n, sa, c, ts, rfl, ⟨nd, ⟨dx, hi⟩, hk, hl, hn, hs, hc, tp, sm⟩⟩, wfd⟩ := dk'
    refine w_start (σ' := [some (.ref a), some (sv x)]) rfl ?_
    (repeat array_get_dec)
    refine ⟨a, _, D, x, rfl, dk.1, ?_⟩
    cases e : getA D.names x with
    | none =>
      rw [e] at q
      exact q
    | some i =>
      rw [e] at q
      obtain ⟨t, u, g1, g2, b1, b2, er, eu, _⟩ := texts_at wfd sm e
      have e1 : valV (kvM D.late) (Sum.inl ((i : Nat) : Int)) = some (sv u) := by rw [kvM_val, g2]; rfl
      have hz : (mkS u).length ≤ sizeLine := by rw [sizeLine_eq, len_tl]; show u.length ≤ _; omega
      dsimp only [look] at q ⊢
      (repeat array_get_dec)
      rw [len_tl]
      rw [eu] at q
      exact q
theorem okL_Disk_late_size (M : Nms K mg) : FnOk P w K mg base CX0 2 M.a_Disk_late_size M.d_Disk_late_size ["self", "name"] (fun vs H Q _ => ∃ a fp D x i, vs = [.ref a, sv x] ∧ DiskAt M.CD H a fp D ∧ getA D.names x = some i ∧ Q (.int (((lateD D i).length : Nat) : Int)) H) :=
  ok_low (ok_Disk_late_size M) fun vs H Q E ⟨a, fp, D, x, i, e, d, g, q⟩ => ⟨a, fp, D, x, e, d, by rw [g]; exact q⟩
theorem ok_Disk_late_changes (M : Nms K mg) : FnOk P w K mg base CX0 1 M.a_Disk_late_changes M.d_Disk_late_changes ["self"] (spLCh M.CD) := by
  refine M.F_Disk_late_changes.ok sc_Disk_late_changes (fun vs H Q E h => ?_) (fun cdv A outer s H vs Q E hr h => ?_)
  · obtain ⟨a, fp, D, rfl, _⟩ := h
    rfl
  · have hu := hu1 hr
    have clD := M.clD
    have nD_kept := M.nD_kept
    have nD_late := M.nD_late
    have nD_names := M.nD_names
    have nD_sure := M.nD_sure
    have nD_changes := M.nD_changes
    have nD_next := M.nD_next
    refine ⟨_, (pss_one (ps_ret (pe_callB (id := "len") (r := fun xs H Q => ∃ x n, xs = [x] ∧ LenV K x H n ∧ Q (V.int ((n : Nat) : Int)) H) call_len (by rfl) M.T.b_len (by decide +kernel) (pa_cons (pe_fld (pv 0) rfl) pa_nil)))), ?_⟩
    try dsimp only [cxOf, Cx.nox]
    obtain ⟨a, fp, D, rfl, ⟨k, l, n, sa, c, ts, rfl, ⟨nd, ⟨dx, hi⟩, hk, hl, hn, hs, hc, tp, sm⟩⟩, q⟩ := h
    refine w_start (σ' := [some (.ref a)]) rfl ?_
    (repeat array_get_dec)
    rw [List.length_map, tp.len]
    exact q
end
end K54

namespace K54
open PySem PySem.Spec PyProof.Rows L2
local macro_rules | `(tactic| array_mem_dec) => `(tactic| first | with_reducible assumption | with_reducible exact upd_same | ((with_reducible apply same_at); (with_reducible assumption); array_mem_dec) | ((with_reducible apply upd_atN); (with_reducible assumption); array_mem_dec) | ((with_reducible apply upd_at); (first | with_reducible assumption | (apply Ne.symm; with_reducible assumption)); array_mem_dec))
local macro_rules | `(tactic| array_get_dec) => `(tactic| first | (with_reducible refine w_seq ?_) | (with_reducible refine w_asg ?_) | (with_reducible refine w_drop ?_) | (with_reducible refine w_ret ?_) | (with_reducible refine w_retN ?_) | (with_reducible refine w_next ?_) | (with_reducible refine w_break ?_) | (with_reducible refine w_cont ?_) | (with_reducible refine w_ifS ?_) | (with_reducible refine w_sub ?_) | (with_reducible refine w_c ?_) | (with_reducible refine w_op ?_) | (with_reducible refine w_un ?_) | (with_reducible refine w_test ?_) | (with_reducible refine w_B ?_) | (with_reducible refine w_yes ?_) | (with_reducible refine w_not ?_) | (with_reducible refine w_and ?_) | (with_reducible refine w_or ?_) | (with_reducible refine w_andV ?_) | (with_reducible refine w_orV ?_) | (with_reducible refine w_notV ?_) | (with_reducible refine w_ifE ?_) | (with_reducible refine w_nil ?_) | (with_reducible refine w_cons ?_) | (with_reducible refine w_call ?_) | (with_reducible refine w_callS ?_) | (with_reducible refine w_cB ?_) | (with_reducible refine w_lst ?_) | (with_reducible refine w_tup ?_) | (with_reducible refine w_sl ?_) | (with_reducible refine w_noPart ?_) | (with_reducible refine w_part ?_) | (with_reducible refine w_bm ?_) | (with_reducible refine w_bm0 ?_) | (with_reducible refine w_strTy ?_) | (with_reducible refine w_bl ?_) | (with_reducible refine w_int1 ?_) | (with_reducible refine w_str1 ?_) | (with_reducible refine w_rI0 ?_) | (with_reducible refine w_rU ?_) | (with_reducible refine w_eqI ?_) | (with_reducible refine w_eqS ?_) | (with_reducible refine w_neI ?_) | (with_reducible refine w_neS ?_) | (with_reducible refine w_bl2 ?_) | (with_reducible refine w_isN ?_) | (with_reducible refine w_for ?_) | (with_reducible refine w_iRng1 ?_) | (with_reducible refine w_iRng2 ?_) | (with_reducible refine w_iList ?_) | (with_reducible refine w_iTup ?_) | (with_reducible refine w_iStr ?_) | (with_reducible refine w_lc ?_) | (with_reducible refine w_M1 ?_) | (with_reducible refine w_M0 ?_) | (with_reducible refine w_isS ?_) | ((with_reducible apply w_name); (simp only [wipe, List.map_cons, List.map_nil, List.foldl_cons, List.foldl_nil, List.set_cons_zero, List.set_cons_succ]; exact rfl)) | ((with_reducible apply w_var); exact rfl) | ((with_reducible apply w_lstTy); array_mem_dec) | ((with_reducible apply w_lenL); array_mem_dec) | ((with_reducible apply w_lenT); array_mem_dec) | ((with_reducible apply w_listOf); array_mem_dec) | ((with_reducible apply w_lenS); (first | (with_reducible assumption) | omega | (rw [sizeLine_eq]; omega))) | ((with_reducible apply w_slS); (first | (with_reducible assumption) | omega | (rw [sizeLine_eq]; omega))) | ((with_reducible apply w_wipe); exact rfl) | ((with_reducible apply w_acc); array_mem_dec; (try (first | (with_reducible assumption) | omega | (rw [sizeLine_eq]; omega)))) | ((with_reducible apply w_itl); array_mem_dec) | ((with_reducible apply w_itt); array_mem_dec) | ((with_reducible apply w_append); array_mem_dec; (try (first | (with_reducible assumption) | omega | (rw [sizeLine_eq]; omega)))) | ((with_reducible apply w_rng1); (first | (with_reducible assumption) | omega); (first | (with_reducible assumption) | omega)) | ((with_reducible apply w_ixL); array_mem_dec; (first | (with_reducible assumption) | exact rfl | (apply atI_nat; (with_reducible assumption)) | exact atI_last _ _)) | ((with_reducible apply w_ixT); array_mem_dec; (first | (with_reducible assumption) | exact rfl | (apply atI_nat; (with_reducible assumption)) | exact atI_last _ _)) | ((with_reducible apply w_iT); first | exact rfl | (with_reducible assumption)) | ((with_reducible apply w_iF); first | exact rfl | (with_reducible assumption)) | ((with_reducible apply w_isiI (b := true)); decide +kernel) | ((with_reducible apply w_isiI (b := false)); decide +kernel) | ((with_reducible apply w_isiB (b := true)); decide +kernel) | ((with_reducible apply w_isiB (b := false)); decide +kernel) | ((with_reducible apply w_isiS (b := true)); decide +kernel) | ((with_reducible apply w_isiS (b := false)); decide +kernel) | ((with_reducible apply w_isiN (b := true)); decide +kernel) | ((with_reducible apply w_isiN (b := false)); decide +kernel) | ((with_reducible apply w_isiL (b := true)); array_mem_dec; decide +kernel) | ((with_reducible apply w_isiL (b := false)); array_mem_dec; decide +kernel) | ((with_reducible apply w_isiT (b := true)); array_mem_dec; decide +kernel) | ((with_reducible apply w_isiT (b := false)); array_mem_dec; decide +kernel) | (with_reducible refine w_notT ?_) | (with_reducible refine w_chain ?_) | ((with_reducible apply w_trL); array_mem_dec) | ((with_reducible apply w_gTup); array_mem_dec; exact rfl) | ((with_reducible apply w_gLst); array_mem_dec; exact rfl) | (with_reducible refine w_gCons ?_) | (with_reducible refine w_gNil ?_) | (with_reducible refine w_Fld ?_) | (with_reducible refine w_sFld ?_) | (with_reducible refine w_dget ?_) | (with_reducible refine w_dIn ?_) | (with_reducible refine w_dNotIn ?_) | (with_reducible refine w_sDPut ?_) | (with_reducible refine w_dnewK ?_) | (with_reducible refine w_meth ?_) | (with_reducible refine w_make ?_) | (with_reducible refine w_methS ?_) | (with_reducible refine w_makeS ?_) | (with_reducible refine w_dpop ?_) | ((with_reducible apply w_fld1); array_mem_dec; (with_reducible assumption); (with_reducible assumption); exact rfl) | ((with_reducible apply w_sfld1); array_mem_dec; (with_reducible assumption); (with_reducible assumption); exact Nat.le_of_ble_eq_true rfl) | ((with_reducible apply w_meth1); array_mem_dec; exact rfl) | ((with_reducible apply w_dgetS); array_mem_dec; (with_reducible assumption)) | ((with_reducible apply w_dgetI); array_mem_dec; (with_reducible assumption)) | ((with_reducible apply w_dinS); array_mem_dec) | ((with_reducible apply w_dputI); array_mem_dec; (try (first | (with_reducible assumption) | omega | (rw [sizeLine_eq]; omega)))) | ((with_reducible apply w_dputS); array_mem_dec; (try (first | (with_reducible assumption) | omega | (rw [sizeLine_eq]; omega)))) | ((with_reducible apply w_isD); array_mem_dec) | ((with_reducible apply w_dictD); array_mem_dec) | ((with_reducible apply w_dpopS); array_mem_dec; (with_reducible assumption)) | ((with_reducible apply w_setL); array_mem_dec; exact rfl) | ((with_reducible apply w_cat); array_mem_dec; array_mem_dec; (try (first | (with_reducible assumption) | omega | (rw [sizeLine_eq]; omega)))) | (with_reducible refine w_iKeys ?_) | (with_reducible refine w_dget2 ?_) | (with_reducible refine w_scX ?_) | ((with_reducible apply w_keysF); array_mem_dec) | ((with_reducible apply w_dgetSF); array_mem_dec; (with_reducible assumption)))
section
variable {P : Program} {w : World} {K : PySem.W.Frag} {mg : Str → Option Value} {base : Heap}
theorem take_one {α : Type} {l : List α} {i : Nat} {x : α} (h : l[i]? = some x) : l.take (i + 1) = l.take i ++ [x] := by
  rw [List.take_add_one, h]; rfl
theorem applyA_take {l : Nm} {cs : List Chg} {i : Nat} {c : Chg} (h : cs[i]? = some c) : applyA l (cs.take (i + 1)) = applyC (applyA l (cs.take i)) c := by
  rw [take_one h, applyA_app]; rfl
theorem okA_at {l : Nm} {cs : List Chg} {i : Nat} {c : Chg} (ok : okA l cs) (h : cs[i]? = some c) : okC (applyA l (cs.take i)) c := by
  have h2 := okA_take ok (i + 1)
  rw [take_one h, okA_app] at h2
  exact h2.2.1
theorem ok_applied (M : Nms K mg) : FnOk P w K mg base CX0 1 M.a_applied M.d_applied ["names", "changes"] spApplied := by
  refine M.F_applied.ok sc_applied (fun vs H Q E h => ?_) (fun cdv A outer s H vs Q E hr h => ?_)
  · obtain ⟨n, c, ts, l, cs, rfl, _⟩ := h
    rfl
  · have hu := hu1 hr
    have clD := M.clD
    have nD_kept := M.nD_kept
    have nD_late := M.nD_late
    have nD_names := M.nD_names
    have nD_sure := M.nD_sure
    have nD_changes := M.nD_changes
    have nD_next := M.nD_next
    refine ⟨_, (pss_cons (ps_set (i := 2) sc_applied.nd rfl (Or.inl rfl) (pe_callTy call_dictD (by rfl) M.T.b_dict (by decide +kernel) (pa_cons (pv 0) pa_nil)))
    (pss_cons (ps_for PassesOwn.never rfl (pi_list (pv 1)) (pg_tup rfl (pgs_cons (pg_name (i := 3) sc_applied.nd rfl (Or.inl rfl)) (pgs_cons (pg_name (i := 4) sc_applied.nd rfl (Or.inl rfl)) (pgs_cons (pg_name (i := 5) sc_applied.nd rfl (Or.inl rfl)) pgs_nil)))) (pss_one (ps_if (pt_cmpR op_eq (pv 3) pe_str (nomark _)) (pss_one (ps_dput hu (pv 2) (pv 4) (pv 5) rfl)) (pss_one (ps_if (pt_cmpR op_eq (pv 3) pe_str (nomark _)) (pss_one (ps_dput hu (pv 2) (pv 5) (pe_dpop1 (pv 2) (pv 4) ⟨rfl, rfl, rfl, rfl⟩) rfl)) (pss_one (ps_expr (pe_dpop1 (pv 2) (pv 4) ⟨rfl, rfl, rfl, rfl⟩))))))))
    (pss_one (ps_ret (pv 2))))), ?_⟩
    try dsimp only [cxOf, Cx.nox]
    obtain ⟨n, c, ts, l, cs, rfl, hn, hc, tp, ok, hl, q⟩ := h
    refine w_start (σ' := [some (.ref n), some (.ref c), none, none, none, none]) rfl ?_
    (repeat array_get_dec)
    intro p hp
    (repeat array_get_dec)
    have hlen := tp.len
    refine for_list (K := K) (a := c) (xs := ts.map V.ref) (fun i σ H' => ∃ v3 v4 v5, σ = [some (.ref n), some (.ref c), some (.ref p), v3, v4, v5] ∧ (∀ b, b ≠ p → H' b = H b) ∧ H' p = some (.dK (kvT (applyA l (cs.take i))))) ⟨none, none, none, rfl, fun b hb => upd_ne hb, upd_same⟩ ?_ ?_ ?_
    · rintro i σ H' hi ⟨v3, v4, v5, rfl, hs, hpp⟩
      exact SqL.of (by rw [hs c (ne_of_none hc hp)]; exact hc)
    · rintro i v σ H' hv ⟨v3, v4, v5, rfl, hs, hpp⟩
      obtain ⟨t, ht, rfl⟩ : ∃ t, ts[i]? = some t ∧ v = .ref t := by
        rw [List.getElem?_map] at hv
        cases e : ts[i]? with
        | none => rw [e] at hv; cases hv
        | some t => rw [e] at hv; exact ⟨t, rfl, (Option.some.inj hv).symm⟩
      obtain ⟨ch, hch, htt⟩ := tp.get i ht
      have htt' : H' t = some (.tup (tupC ch)) := by rw [hs t (ne_of_none htt hp)]; exact htt
      have okc := okA_at ok hch
      have next : ∀ H2 : Hp, (∀ b, b ≠ p → H2 b = H' b) → H2 p = some (.dK (kvT (applyC (applyA l (cs.take i)) ch))) → (∀ b, b ≠ p → H2 b = H b) ∧ H2 p = some (.dK (kvT (applyA l (cs.take (i + 1))))) := fun H2 a b => ⟨fun x nx => (a x nx).trans (hs x nx), by rw [applyA_take hch]; exact b⟩
      have hi : i < cs.length := by rw [← hlen]; exact (List.getElem?_eq_some_iff.mp ht).1
      have ll : (applyA l (cs.take i)).length < 1000000 := by
        have := applyA_len (cs.take i) l
        rw [List.length_take] at this
        omega
      generalize hN : applyA l (cs.take i) = N at *
      have lz : (kvT N).length < sizeLine := by rw [kvT_len, sizeLine_eq]; omega
      cases ch with
      | make x m =>
        unfold tupC at htt'
        (repeat array_get_dec)
        rw [kvT_put]
        exact ⟨_, _, _, rfl, next _ (fun b nb => upd_ne nb) upd_same⟩
      | move x y =>
        unfold tupC at htt'
        (repeat array_get_dec)
        obtain ⟨m, hm⟩ := Option.isSome_iff_exists.mp (show (getA N x).isSome = true from okc)
        have e1 : valV (kvT N) (Sum.inr (mkS x)) = some (.int ((m : Nat) : Int)) := by rw [kvT_val, hm]; rfl
        have lz2 : (dropK (kvT N) (Sum.inr (mkS x))).length < sizeLine := by
          rw [kvT_drop, kvT_len]
          have := dropA_len (l := N) (x := x)
          rw [sizeLine_eq]; omega
        (repeat array_get_dec)
        rw [kvT_drop, kvT_put]
        refine ⟨_, _, _, rfl, next _ (fun b nb => by rw [upd_ne nb, upd_ne nb]) ?_⟩
        rw [upd_same, show applyC N (.move x y) = (match getA N x with | some n => putA (dropA N x) y n | none => N) from rfl, hm]
      | drop x =>
        unfold tupC at htt'
        (repeat array_get_dec)
        obtain ⟨m, hm⟩ := Option.isSome_iff_exists.mp (show (getA N x).isSome = true from okc)
        have e1 : valV (kvT N) (Sum.inr (mkS x)) = some (.int ((m : Nat) : Int)) := by rw [kvT_val, hm]; rfl
        (repeat array_get_dec)
        rw [kvT_drop]
        exact ⟨_, _, _, rfl, next _ (fun b nb => upd_ne nb) upd_same⟩
    · rintro σ H' ⟨v3, v4, v5, rfl, hs, hpp⟩
      (repeat array_get_dec)
      refine q p H' (fun b o e => by rw [hs b (ne_of_none e hp)]; exact e) hp ?_
      rw [List.length_map, hlen, List.take_length] at hpp
      exact hpp
theorem ok_Disk__change (M : Nms K mg) : FnOk P w K mg base CX0 2 M.a_Disk__change M.d_Disk__change ["self", "row"] (spChange M.CD) := by
  refine M.F_Disk__change.ok sc_Disk__change (fun vs H Q E h => ?_) (fun cdv A outer s H vs Q E hr h => ?_)
  · obtain ⟨a, t, fp, D, ch, rfl, _⟩ := h
    rfl
  · have hu := hu1 hr
    have clD := M.clD
    have nD_kept := M.nD_kept
    have nD_late := M.nD_late
    have nD_names := M.nD_names
    have nD_sure := M.nD_sure
    have nD_changes := M.nD_changes
    have nD_next := M.nD_next
    refine ⟨_, (pss_cons (ps_expr (pe_bm PySem.F.plainAttrs_list PySem.F.slot_list_append PySem.F.type_list_append mt_append (pe_fld (pv 0) rfl) (pa_cons (pv 1) pa_nil)))
    (pss_one (ps_fld (pv 0) (pe_call (ok_applied M) (hr.mono (by decide)) rfl M.g_applied M.k_applied M.b_applied .nil pass0 (pa_cons (pe_fld (pv 0) rfl) (pa_cons (pe_lst (pa_cons (pv 1) pa_nil)) pa_nil))) rfl))), ?_⟩
    try dsimp only [cxOf, Cx.nox]
    obtain ⟨a, t, fp, D, ch, rfl, dk, ht, okc, sm2, q⟩ := h
    have nt := dk.noTup _ _ ht
    obtain ⟨k, l, n, sa, c, ts, rfl, ⟨nd, ⟨dx, hi⟩, hk, hl, hn, hs, hc, tp, sm⟩⟩ := dk
    refine w_start (σ' := [some (.ref a), some (.ref t)]) rfl ?_
    have lc : (ts.map V.ref).length < sizeLine := by rw [List.length_map, tp.len, sizeLine_eq]; have := sm.ch; omega
    simp only [List.nodup_cons, List.mem_cons, List.not_mem_nil, or_false, not_or] at nd nt
    obtain ⟨⟨n1, n2, n3, n4, n5⟩, ⟨n6, n7, n8, n9⟩, ⟨n10, n11, n12⟩, ⟨n13, n14⟩, n15, _⟩ := nd
    obtain ⟨m1, m2, m3, m4, m5, m6⟩ := nt
    (repeat array_get_dec)
    refine ⟨by show 1 ≤ sizeLine; decide, fun p hp => ?_⟩
    obtain ⟨p1, p2⟩ := hu2 hp
    (repeat array_get_dec)
    have gn : upd (upd H c (.lst (ts.map V.ref ++ [.ref t]))) p (.lst [.ref t]) n = some (.dK (kvT D.names)) := by array_mem_dec
    have gt : upd (upd H c (.lst (ts.map V.ref ++ [.ref t]))) p (.lst [.ref t]) t = some (.tup (tupC ch)) := by array_mem_dec
    refine ⟨n, p, [t], D.names, [ch], rfl, gn, upd_same, ⟨gt, trivial⟩, ⟨okc, trivial⟩, by have := sm.names; simp; omega, fun p3 H3 s3 f3 g3 => ?_⟩
    have g3' : H3 p3 = some (.dK (kvT (applyC D.names ch))) := g3
    have fr : ∀ b o, H b = some o → b ≠ c → H3 b = some o := fun b o e nb => s3 _ _ (by rw [upd_ne (ne_of_none e p2), upd_ne nb]; exact e)
    have gi := fr _ _ hi n5
    have gk := fr _ _ hk n9
    have gl := fr _ _ hl n12
    have gs := fr _ _ hs n15
    have gc : H3 c = some (.lst ((ts ++ [t]).map V.ref)) := s3 _ _ (by rw [upd_ne (ne_of_none hc p2), upd_same, List.map_append]; rfl)
    have gtp : ChAt H3 (ts ++ [t]) (D.ch ++ [ch]) := (tp.keep fun u m o e => fr u o e fun z => by
      obtain ⟨ch', e'⟩ := tp.tup m
      rw [z, hc] at e'
      cases e').snoc (s3 _ _ gt)
    obtain ⟨f3a, f3b⟩ := hu2 f3
    obtain ⟨f3c, f3d⟩ := hu2 f3b
    have d1 := ne_of_none hi f3d
    have d2 := ne_of_none hk f3d
    have d3 := ne_of_none hl f3d
    have d4 := ne_of_none hs f3d
    have d5 := ne_of_none hc f3d
    have tn : ∀ u ∈ ts ++ [t], u ≠ a := fun u m z => by
      rcases List.mem_append.mp m with m | m
      · obtain ⟨ch', e'⟩ := tp.tup m
        rw [z, hi] at e'
        cases e'
      · simp at m
        exact m1 (m.symm.trans z)
    (repeat array_get_dec)
    refine q _ [a, k, l, p3, sa, c] ⟨k, l, p3, sa, c, ts ++ [t], rfl, ⟨(by simp only [List.nodup_cons, List.mem_cons, List.not_mem_nil, or_false, not_or]; refine ⟨⟨?_, ?_, ?_, ?_, ?_⟩, ⟨?_, ?_, ?_, ?_⟩, ⟨?_, ?_, ?_⟩, ⟨?_, ?_⟩, ?_, not_false, List.nodup_nil⟩ <;> first | assumption | (apply Ne.symm; assumption)), ⟨dx, upd_same⟩, by array_mem_dec, by array_mem_dec, by array_mem_dec, by array_mem_dec, by array_mem_dec, ?_, sm2⟩⟩ ⟨fun b o e nb => ?_, fun b m => ?_⟩
    · exact gtp.keep fun u m o e => by rw [upd_ne (tn u m)]; exact e
    · simp only [List.mem_cons, List.not_mem_nil, or_false, not_or] at nb
      rw [upd_ne nb.1]
      exact fr b o e nb.2.2.2.2.2
    · simp only [List.mem_cons, List.not_mem_nil, or_false] at m ⊢
      rcases m with rfl | rfl | rfl | rfl | rfl | rfl
      · exact .inl (by simp)
      · exact .inl (by simp)
      · exact .inl (by simp)
      · exact .inr f3d
      · exact .inl (by simp)
      · exact .inl (by simp)
end
end K54

namespace K54
open PySem PySem.Spec PyProof.Rows L2
local macro_rules | `(tactic| array_mem_dec) => `(tactic| first | with_reducible assumption | with_reducible exact upd_same | ((with_reducible apply same_at); (with_reducible assumption); array_mem_dec) | ((with_reducible apply upd_atN); (with_reducible assumption); array_mem_dec) | ((with_reducible apply upd_at); (first | with_reducible assumption | (apply Ne.symm; with_reducible assumption)); array_mem_dec))
local macro_rules | `(tactic| array_get_dec) => `(tactic| first | (with_reducible refine w_seq ?_) | (with_reducible refine w_asg ?_) | (with_reducible refine w_drop ?_) | (with_reducible refine w_ret ?_) | (with_reducible refine w_retN ?_) | (with_reducible refine w_next ?_) | (with_reducible refine w_break ?_) | (with_reducible refine w_cont ?_) | (with_reducible refine w_ifS ?_) | (with_reducible refine w_sub ?_) | (with_reducible refine w_c ?_) | (with_reducible refine w_op ?_) | (with_reducible refine w_un ?_) | (with_reducible refine w_test ?_) | (with_reducible refine w_B ?_) | (with_reducible refine w_yes ?_) | (with_reducible refine w_not ?_) | (with_reducible refine w_and ?_) | (with_reducible refine w_or ?_) | (with_reducible refine w_andV ?_) | (with_reducible refine w_orV ?_) | (with_reducible refine w_notV ?_) | (with_reducible refine w_ifE ?_) | (with_reducible refine w_nil ?_) | (with_reducible refine w_cons ?_) | (with_reducible refine w_call ?_) | (with_reducible refine w_callS ?_) | (with_reducible refine w_cB ?_) | (with_reducible refine w_lst ?_) | (with_reducible refine w_tup ?_) | (with_reducible refine w_sl ?_) | (with_reducible refine w_noPart ?_) | (with_reducible refine w_part ?_) | (with_reducible refine w_bm ?_) | (with_reducible refine w_bm0 ?_) | (with_reducible refine w_strTy ?_) | (with_reducible refine w_bl ?_) | (with_reducible refine w_int1 ?_) | (with_reducible refine w_str1 ?_) | (with_reducible refine w_rI0 ?_) | (with_reducible refine w_rU ?_) | (with_reducible refine w_eqI ?_) | (with_reducible refine w_eqS ?_) | (with_reducible refine w_neI ?_) | (with_reducible refine w_neS ?_) | (with_reducible refine w_bl2 ?_) | (with_reducible refine w_isN ?_) | (with_reducible refine w_for ?_) | (with_reducible refine w_iRng1 ?_) | (with_reducible refine w_iRng2 ?_) | (with_reducible refine w_iList ?_) | (with_reducible refine w_iTup ?_) | (with_reducible refine w_iStr ?_) | (with_reducible refine w_lc ?_) | (with_reducible refine w_M1 ?_) | (with_reducible refine w_M0 ?_) | (with_reducible refine w_isS ?_) | ((with_reducible apply w_name); (simp only [wipe, List.map_cons, List.map_nil, List.foldl_cons, List.foldl_nil, List.set_cons_zero, List.set_cons_succ]; exact rfl)) | ((with_reducible apply w_var); exact rfl) | ((with_reducible apply w_lstTy); array_mem_dec) | ((with_reducible apply w_lenL); array_mem_dec) | ((with_reducible apply w_lenT); array_mem_dec) | ((with_reducible apply w_listOf); array_mem_dec) | ((with_reducible apply w_lenS); (first | (with_reducible assumption) | omega | (rw [sizeLine_eq]; omega))) | ((with_reducible apply w_slS); (first | (with_reducible assumption) | omega | (rw [sizeLine_eq]; omega))) | ((with_reducible apply w_wipe); exact rfl) | ((with_reducible apply w_acc); array_mem_dec; (try (first | (with_reducible assumption) | omega | (rw [sizeLine_eq]; omega)))) | ((with_reducible apply w_itl); array_mem_dec) | ((with_reducible apply w_itt); array_mem_dec) | ((with_reducible apply w_append); array_mem_dec; (try (first | (with_reducible assumption) | omega | (rw [sizeLine_eq]; omega)))) | ((with_reducible apply w_rng1); (first | (with_reducible assumption) | omega); (first | (with_reducible assumption) | omega)) | ((with_reducible apply w_ixL); array_mem_dec; (first | (with_reducible assumption) | exact rfl | (apply atI_nat; (with_reducible assumption)) | exact atI_last _ _)) | ((with_reducible apply w_ixT); array_mem_dec; (first | (with_reducible assumption) | exact rfl | (apply atI_nat; (with_reducible assumption)) | exact atI_last _ _)) | ((with_reducible apply w_iT); first | exact rfl | (with_reducible assumption)) | ((with_reducible apply w_iF); first | exact rfl | (with_reducible assumption)) | ((with_reducible apply w_isiI (b := true)); decide +kernel) | ((with_reducible apply w_isiI (b := false)); decide +kernel) | ((with_reducible apply w_isiB (b := true)); decide +kernel) | ((with_reducible apply w_isiB (b := false)); decide +kernel) | ((with_reducible apply w_isiS (b := true)); decide +kernel) | ((with_reducible apply w_isiS (b := false)); decide +kernel) | ((with_reducible apply w_isiN (b := true)); decide +kernel) | ((with_reducible apply w_isiN (b := false)); decide +kernel) | ((with_reducible apply w_isiL (b := true)); array_mem_dec; decide +kernel) | ((with_reducible apply w_isiL (b := false)); array_mem_dec; decide +kernel) | ((with_reducible apply w_isiT (b := true)); array_mem_dec; decide +kernel) | ((with_reducible apply w_isiT (b := false)); array_mem_dec; decide +kernel) | (with_reducible refine w_notT ?_) | (with_reducible refine w_chain ?_) | ((with_reducible apply w_trL); array_mem_dec) | ((with_reducible apply w_gTup); array_mem_dec; exact rfl) | ((with_reducible apply w_gLst); array_mem_dec; exact rfl) | (with_reducible refine w_gCons ?_) | (with_reducible refine w_gNil ?_) | (with_reducible refine w_Fld ?_) | (with_reducible refine w_sFld ?_) | (with_reducible refine w_dget ?_) | (with_reducible refine w_dIn ?_) | (with_reducible refine w_dNotIn ?_) | (with_reducible refine w_sDPut ?_) | (with_reducible refine w_dnewK ?_) | (with_reducible refine w_meth ?_) | (with_reducible refine w_make ?_) | (with_reducible refine w_methS ?_) | (with_reducible refine w_makeS ?_) | (with_reducible refine w_dpop ?_) | ((with_reducible apply w_fld1); array_mem_dec; (with_reducible assumption); (with_reducible assumption); exact rfl) | ((with_reducible apply w_sfld1); array_mem_dec; (with_reducible assumption); (with_reducible assumption); exact Nat.le_of_ble_eq_true rfl) | ((with_reducible apply w_meth1); array_mem_dec; exact rfl) | ((with_reducible apply w_dgetS); array_mem_dec; (with_reducible assumption)) | ((with_reducible apply w_dgetI); array_mem_dec; (with_reducible assumption)) | ((with_reducible apply w_dinS); array_mem_dec) | ((with_reducible apply w_dputI); array_mem_dec; (try (first | (with_reducible assumption) | omega | (rw [sizeLine_eq]; omega)))) | ((with_reducible apply w_dputS); array_mem_dec; (try (first | (with_reducible assumption) | omega | (rw [sizeLine_eq]; omega)))) | ((with_reducible apply w_isD); array_mem_dec) | ((with_reducible apply w_dictD); array_mem_dec) | ((with_reducible apply w_dpopS); array_mem_dec; (with_reducible assumption)) | ((with_reducible apply w_setL); array_mem_dec; exact rfl) | ((with_reducible apply w_cat); array_mem_dec; array_mem_dec; (try (first | (with_reducible assumption) | omega | (rw [sizeLine_eq]; omega)))) | (with_reducible refine w_iKeys ?_) | (with_reducible refine w_dget2 ?_) | (with_reducible refine w_scX ?_) | ((with_reducible apply w_keysF); array_mem_dec) | ((with_reducible apply w_dgetSF); array_mem_dec; (with_reducible assumption)))
theorem mk_nil {x : Tx} : (V.str (mkS x) = V.str (Str.ofString "")) ↔ x = [] := ⟨fun z => by have := congrArg tl (V.str.inj z); exact this, fun z => by rw [z]; rfl⟩
theorem in63 {t : Tx} : (63 ∈ t) ↔ (63 ∈ (mkS t).cps.toList) := Iff.rfl
theorem DiskP.next {CD : Addr} {H : Hp} {a : Addr} {fp : List Addr} {D : DS} (x : DiskN CD H a fp D) : ∃ dx k l n s c, H a = some (.ins CD dx (dF k l n s c D.next)) ∧ a ∈ fp ∧ DiskN CD (upd H a (.ins CD dx (dF k l n s c (D.next + 1)))) a fp (nextD D) := by
  have nt := x.noTup
  obtain ⟨k, l, n, s, c, ts, rfl, ⟨nd, ⟨dx, hi⟩, hk, hl, hn, hs, hc, tp, sm⟩⟩ := x
  refine ⟨dx, k, l, n, s, c, hi, by simp, ⟨k, l, n, s, c, ts, rfl, ⟨nd, ⟨dx, upd_same⟩, ?_, ?_, ?_, ?_, ?_, ?_, ⟨sm.kept, sm.late, sm.names, sm.sure, sm.ch, sm.kt, sm.lt, sm.na⟩⟩⟩⟩
  all_goals (simp only [List.nodup_cons, List.mem_cons, List.not_mem_nil, or_false, not_or] at nd)
  · rw [upd_ne (Ne.symm nd.1.1)]; exact hk
  · rw [upd_ne (Ne.symm nd.1.2.1)]; exact hl
  · rw [upd_ne (Ne.symm nd.1.2.2.1)]; exact hn
  · rw [upd_ne (Ne.symm nd.1.2.2.2.1)]; exact hs
  · rw [upd_ne (Ne.symm nd.1.2.2.2.2)]; exact hc
  · refine tp.keep fun u m o e => ?_
    obtain ⟨ch, e2⟩ := tp.tup m
    rw [upd_ne fun z => nt u _ e2 (by rw [z]; simp)]
    exact e
section
variable {P : Program} {w : World} {K : PySem.W.Frag} {mg : Str → Option Value} {base : Heap}
theorem ok_Disk_make (M : Nms K mg) : FnOk P w K mg base (L2N.CX P w) 3 M.a_Disk_make M.d_Disk_make ["self", "name"] (spMake M.CD M.CP M.CU) := by
  refine M.F_Disk_make.okN sc_Disk_make (fun vs H Q E h => ?_) (fun cdv A outer s H vs Q E hr h => ?_)
  · obtain ⟨a, x, fp, D, rfl, _⟩ := h
    rfl
  · have hu := hu1 hr
    have clD := M.clD
    have nD_kept := M.nD_kept
    have nD_late := M.nD_late
    have nD_names := M.nD_names
    have nD_sure := M.nD_sure
    have nD_changes := M.nD_changes
    have nD_next := M.nD_next
    refine ⟨_, (pss_cons (ps_if (PW.pt (pw_or (pt_not (pt_val (pe_callB call_isi (by rfl) M.T.b_isinstance (by decide +kernel) (pa_cons (pv 1) (pa_cons (pe_bltn (v := .ty "str") (u := .type "str") (by rfl) M.T.b_str (by decide +kernel) rfl) pa_nil))))) (pw_or (pt_cmpR op_eq (pv 1) pe_str (nomark _)) (pw_or1 (pt_cmp (pc_din hu (pv 1) (pe_fld (pv 0) rfl))))))) (pss_one (L2N.ps_raise rfl (L2N.takes_of rfl rfl rfl rfl) (L2N.pmk_own PySem.F.excBase_ValueError M.XP.xP M.XP.gP M.XP.kP (raises_own M.XP.bP M.XP.tP) rfl))) pss_nil)
    (pss_cons (ps_dput hu (pe_fld (pv 0) rfl) (pe_fld (pv 0) rfl) pe_str rfl)
    (pss_cons (ps_dput hu (pe_fld (pv 0) rfl) (pe_fld (pv 0) rfl) pe_str rfl)
    (pss_cons (ps_expr (pe_meth (pv 0) M.clD M.m_Disk__change (ok_Disk__change M) (hr.mono (by decide)) M.b_Disk__change .nil pass0 (pa_cons (pe_tup (pa_cons pe_str (pa_cons (pv 1) (pa_cons (pe_fld (pv 0) rfl) pa_nil)))) pa_nil)))
    (pss_one (ps_fld (pv 0) (pe_op op_add (pe_fld (pv 0) rfl) pe_int) rfl)))))), ?_⟩
    try dsimp only [cxOf, Cx.nox]
    obtain ⟨a, x, fp, D, rfl, dk, sm2, q⟩ := h
    have dk' := dk
    obtain ⟨⟨k, l, n, sa, c, ts, rfl, ⟨nd, ⟨dx, hi⟩, hk, hl, hn, hs, hc, tp, sm⟩⟩, wfd⟩ := dk'
    refine w_start (σ' := [some (.ref a), some (sv x)]) rfl ?_
    have nd0 := nd
    simp only [List.nodup_cons, List.mem_cons, List.not_mem_nil, or_false, not_or] at nd
    obtain ⟨⟨n1, n2, n3, n4, n5⟩, ⟨n6, n7, n8, n9⟩, ⟨n10, n11, n12⟩, ⟨n13, n14⟩, n15, _⟩ := nd
    simp only [step] at q sm2
    (repeat array_get_dec)
    refine ite2 (fun hx => ?_) (fun hx => ?_)
    · rw [if_pos (.inl (mk_nil.mp (of_decide_eq_true hx)))] at q
      (repeat array_get_dec)
      exact q _ _ dk (Fr.refl _ _)
    have hx0 : ¬ x = [] := fun z => hx (decide_eq_true (mk_nil.mpr z))
    (repeat array_get_dec)
    rw [kvT_val]
    cases e : getA D.names x with
    | some i =>
      rw [if_pos (.inr (by unfold hasA; rw [e]; rfl))] at q
      refine iteT' rfl ?_
      (repeat array_get_dec)
      exact q _ _ dk (Fr.refl _ _)
    | none =>
      rw [if_neg (fun z => z.elim hx0 fun y => by unfold hasA at y; rw [e] at y; cases y)] at q sm2
      refine iteF' rfl ?_
      have z1 : (kvM D.kept).length < sizeLine := by rw [kvM_len, sizeLine_eq]; have := sm.kept; omega
      have z2 : (kvM D.late).length < sizeLine := by rw [kvM_len, sizeLine_eq]; have := sm.late; omega
      have ek : putK (kvM D.kept) (Sum.inl ((D.next : Nat) : Int)) (.str (Str.ofString "")) = kvM (putA D.kept D.next []) := kvM_put _ _ _
      have el : putK (kvM D.late) (Sum.inl ((D.next : Nat) : Int)) (.str (Str.ofString "")) = kvM (putA D.late D.next []) := kvM_put _ _ _
      (repeat array_get_dec)
      rw [ek, el]
      refine ⟨by show 3 ≤ sizeLine; decide, fun t ht => ?_⟩
      obtain ⟨t1, t2⟩ := hu2 ht
      obtain ⟨t3, t4⟩ := hu2 t2
      have d1 := ne_of_none hi t4
      have d2 := ne_of_none hn t4
      have d3 := ne_of_none hs t4
      have d4 := ne_of_none hc t4
      have tp2 : ∀ u ∈ ts, u ≠ k ∧ u ≠ l ∧ u ≠ t := fun u m => by
        obtain ⟨ch', e'⟩ := tp.tup m
        exact ⟨fun z => (by rw [z, hk] at e'; cases e'), fun z => (by rw [z, hl] at e'; cases e'), ne_of_none e' t4⟩
      (repeat array_get_dec)
      refine ⟨a, t, [a, k, l, n, sa, c], openD D, .make x D.next, rfl, ⟨k, l, n, sa, c, ts, rfl, ⟨nd0, ⟨dx, by ((repeat (first | with_reducible exact upd_same | with_reducible refine (upd_ne (by first | assumption | (apply Ne.symm; assumption))).trans ?_)); (try (first | assumption | exact upd_same)))⟩, by ((repeat (first | with_reducible exact upd_same | with_reducible refine (upd_ne (by first | assumption | (apply Ne.symm; assumption))).trans ?_)); (try (first | assumption | exact upd_same))), by ((repeat (first | with_reducible exact upd_same | with_reducible refine (upd_ne (by first | assumption | (apply Ne.symm; assumption))).trans ?_)); (try (first | assumption | exact upd_same))), by ((repeat (first | with_reducible exact upd_same | with_reducible refine (upd_ne (by first | assumption | (apply Ne.symm; assumption))).trans ?_)); (try (first | assumption | exact upd_same))), by ((repeat (first | with_reducible exact upd_same | with_reducible refine (upd_ne (by first | assumption | (apply Ne.symm; assumption))).trans ?_)); (try (first | assumption | exact upd_same))), by ((repeat (first | with_reducible exact upd_same | with_reducible refine (upd_ne (by first | assumption | (apply Ne.symm; assumption))).trans ?_)); (try (first | assumption | exact upd_same))), tp.keep fun u m o e => by
        obtain ⟨a1, a2, a3⟩ := tp2 u m
        rw [upd_ne a3, upd_ne a2, upd_ne a1]
        exact e, ⟨sm2.kept, sm2.late, sm.names, sm.sure, sm.ch, sm2.kt, sm2.lt, sm.na⟩⟩⟩, upd_same, e, ⟨sm2.kept, sm2.late, sm2.names, sm2.sure, sm2.ch, sm2.kt, sm2.lt, sm2.na⟩, fun H' fp' dk2 fr => ?_⟩
      obtain ⟨dx', k', l', n', s', c', gi, ma, nxt⟩ := DiskP.next dk2
      (repeat array_get_dec)
      refine q _ fp' ⟨nxt, wf_make wfd e⟩ ?_
      exact (((((Fr.refl _ H).put (a := k) (by simp)).put (a := l) (by simp)).neu ht).trans fr).put (by simp)
theorem ok_Disk_write (M : Nms K mg) : FnOk P w K mg base (L2N.CX P w) 2 M.a_Disk_write M.d_Disk_write ["self", "name", "text"] (spWrite M.CD M.CP M.CU) := by
  obtain ⟨tSP, GSP⟩ := M.cSP
  refine M.F_Disk_write.okN sc_Disk_write (fun vs H Q E h => ?_) (fun cdv A outer s H vs Q E hr h => ?_)
  · obtain ⟨a, x, t, fp, D, rfl, _⟩ := h
    rfl
  · have hu := hu1 hr
    have clD := M.clD
    have nD_kept := M.nD_kept
    have nD_late := M.nD_late
    have nD_names := M.nD_names
    have nD_sure := M.nD_sure
    have nD_changes := M.nD_changes
    have nD_next := M.nD_next
    refine ⟨_, (pss_cons (ps_set (i := 3) sc_Disk_write.nd rfl (Or.inl rfl) (pe_methS1 (pv 0) M.clD M.m_Disk__file (ok_Disk__file M) (hr.mono (by decide)) M.b_Disk__file (fun σ => L2N.passAt (L2N.takes_of rfl rfl rfl rfl) σ) (pa_cons (pv 1) pa_nil)))
    (pss_cons (ps_if (PW.pt (pw_or (pt_not (pt_val (pe_callB call_isi (by rfl) M.T.b_isinstance (by decide +kernel) (pa_cons (pv 2) (pa_cons (pe_bltn (v := .ty "str") (u := .type "str") (by rfl) M.T.b_str (by decide +kernel) rfl) pa_nil))))) (pw_or1 (pt_cmpR op_in_sign (pe_glob (v := .str (Str.ofString "?")) rfl GSP ⟨_, rfl⟩) (pv 2) rfl)))) (pss_one (L2N.ps_raise rfl (L2N.takes_of rfl rfl rfl rfl) (L2N.pmk_own PySem.F.excBase_ValueError M.XP.xP M.XP.gP M.XP.kP (raises_own M.XP.bP M.XP.tP) rfl))) pss_nil)
    (pss_one (ps_dput hu (pe_fld (pv 0) rfl) (pv 3) (pe_op op_add_str (pe_dget hu (pe_fld (pv 0) rfl) (pv 3) (fun _ _ => rfl)) (pv 2)) rfl)))), ?_⟩
    try dsimp only [cxOf, Cx.nox]
    obtain ⟨a, x, t, fp, D, rfl, dk, sm2, q⟩ := h
    have wfs := wf_step dk.2 (.write x t)
    have dk' := dk
    obtain ⟨⟨k, l, n, sa, c, ts, rfl, ⟨nd, ⟨dx, hi⟩, hk, hl, hn, hs, hc, tp, sm⟩⟩, wfd⟩ := dk'
    have nd0 := nd
    simp only [List.nodup_cons, List.mem_cons, List.not_mem_nil, or_false, not_or] at nd
    obtain ⟨⟨n1, n2, n3, n4, n5⟩, ⟨n6, n7, n8, n9⟩, ⟨n10, n11, n12⟩, ⟨n13, n14⟩, n15, _⟩ := nd
    refine w_start (σ' := [some (.ref a), some (sv x), some (sv t), none]) rfl ?_
    simp only [step] at q sm2 wfs
    (repeat array_get_dec)
    refine ⟨a, _, D, x, rfl, dk.1, ?_⟩
    cases e : getA D.names x with
    | none =>
      simp only [e] at q
      exact q _ _ dk (Fr.refl _ _)
    | some i =>
      simp only [e] at q sm2 wfs
      dsimp only [look]
      obtain ⟨t0, u, g1, g2, b1, b2, er, eu, ek⟩ := texts_at wfd sm e
      have e2 : valV (kvM D.late) (Sum.inl ((i : Nat) : Int)) = some (sv u) := by rw [kvM_val, g2]; rfl
      have z2 : (kvM D.late).length < sizeLine := by rw [kvM_len, sizeLine_eq]; have := sm.late; omega
      (repeat array_get_dec)
      refine ⟨63, mkS t, rfl, rfl, ?_⟩
      (repeat array_get_dec)
      by_cases h63 : 63 ∈ t
      · refine iteT' (decide_eq_true h63) ?_
        rw [if_pos h63] at q
        (repeat array_get_dec)
        exact q _ _ dk (Fr.refl _ _)
      · refine iteF' (decide_eq_false h63) ?_
        rw [if_neg h63] at q sm2 wfs
        have es : writeD D i t = { D with late := putA D.late i (u ++ t) } := by
          show ({ D with late := putA D.late i (lateD D i ++ t) } : DS) = _
          rw [eu]
        rw [es] at q sm2 wfs
        have hlen : (u ++ t).length ≤ 400000 := sm2.lt (i, u ++ t) (getA_mem (by rw [getA_put, if_pos rfl]))
        rw [List.length_append] at hlen
        (repeat array_get_dec)
        refine w_addS (fit_add (s := mkS u) (t := mkS t) (a := u.length) (b := t.length) (Nat.le_of_eq (len_tl _)) (Nat.le_of_eq (len_tl _)) (by omega)) ?_
        (repeat array_get_dec)
        have ep : putK (kvM D.late) (Sum.inl ((i : Nat) : Int)) (.str (mkS u ++ mkS t)) = kvM (putA D.late i (u ++ t)) := by
          rw [mkS_app]
          exact kvM_put _ _ _
        rw [ep]
        refine q _ _ ⟨⟨k, l, n, sa, c, ts, rfl, ⟨nd0, ⟨dx, by ((repeat (first | with_reducible exact upd_same | with_reducible refine (upd_ne (by first | assumption | (apply Ne.symm; assumption))).trans ?_)); (try (first | assumption | exact upd_same)))⟩, by ((repeat (first | with_reducible exact upd_same | with_reducible refine (upd_ne (by first | assumption | (apply Ne.symm; assumption))).trans ?_)); (try (first | assumption | exact upd_same))), upd_same, by ((repeat (first | with_reducible exact upd_same | with_reducible refine (upd_ne (by first | assumption | (apply Ne.symm; assumption))).trans ?_)); (try (first | assumption | exact upd_same))), by ((repeat (first | with_reducible exact upd_same | with_reducible refine (upd_ne (by first | assumption | (apply Ne.symm; assumption))).trans ?_)); (try (first | assumption | exact upd_same))), by ((repeat (first | with_reducible exact upd_same | with_reducible refine (upd_ne (by first | assumption | (apply Ne.symm; assumption))).trans ?_)); (try (first | assumption | exact upd_same))), tp.keep fun v m o e => ?_, sm2⟩⟩, wfs⟩ ((Fr.refl _ H).put (by simp))
        obtain ⟨ch', e'⟩ := tp.tup m
        rw [upd_ne fun z => (by rw [z, hl] at e'; cases e')]
        exact e
theorem ok_Disk_sync (M : Nms K mg) : FnOk P w K mg base (L2N.CX P w) 2 M.a_Disk_sync M.d_Disk_sync ["self", "name"] (spSync M.CD M.CP M.CU) := by
  refine M.F_Disk_sync.okN sc_Disk_sync (fun vs H Q E h => ?_) (fun cdv A outer s H vs Q E hr h => ?_)
  · obtain ⟨a, x, fp, D, rfl, _⟩ := h
    rfl
  · have hu := hu1 hr
    have clD := M.clD
    have nD_kept := M.nD_kept
    have nD_late := M.nD_late
    have nD_names := M.nD_names
    have nD_sure := M.nD_sure
    have nD_changes := M.nD_changes
    have nD_next := M.nD_next
    refine ⟨_, (pss_cons (ps_set (i := 2) sc_Disk_sync.nd rfl (Or.inl rfl) (pe_methS1 (pv 0) M.clD M.m_Disk__file (ok_Disk__file M) (hr.mono (by decide)) M.b_Disk__file (fun σ => L2N.passAt (L2N.takes_of rfl rfl rfl rfl) σ) (pa_cons (pv 1) pa_nil)))
    (pss_cons (ps_dput hu (pe_fld (pv 0) rfl) (pv 2) (pe_op op_add_str (pe_dget hu (pe_fld (pv 0) rfl) (pv 2) (fun _ _ => rfl)) (pe_dget hu (pe_fld (pv 0) rfl) (pv 2) (fun _ _ => rfl))) rfl)
    (pss_one (ps_dput hu (pe_fld (pv 0) rfl) (pv 2) pe_str rfl)))), ?_⟩
    try dsimp only [cxOf, Cx.nox]
    obtain ⟨a, x, fp, D, rfl, dk, sm2, q⟩ := h
    have wfs := wf_step dk.2 (.sync x)
    have dk' := dk
    obtain ⟨⟨k, l, n, sa, c, ts, rfl, ⟨nd, ⟨dx, hi⟩, hk, hl, hn, hs, hc, tp, sm⟩⟩, wfd⟩ := dk'
    have nd0 := nd
    simp only [List.nodup_cons, List.mem_cons, List.not_mem_nil, or_false, not_or] at nd
    obtain ⟨⟨n1, n2, n3, n4, n5⟩, ⟨n6, n7, n8, n9⟩, ⟨n10, n11, n12⟩, ⟨n13, n14⟩, n15, _⟩ := nd
    refine w_start (σ' := [some (.ref a), some (sv x), none]) rfl ?_
    simp only [step] at q sm2 wfs
    (repeat array_get_dec)
    refine ⟨a, _, D, x, rfl, dk.1, ?_⟩
    cases e : getA D.names x with
    | none =>
      simp only [e] at q
      exact q _ _ dk (Fr.refl _ _)
    | some i =>
      simp only [e] at q sm2 wfs
      dsimp only [look]
      obtain ⟨t0, u, g1, g2, b1, b2, er, eu, ek⟩ := texts_at wfd sm e
      have es : syncD D i = { D with kept := putA D.kept i (t0 ++ u), late := putA D.late i [] } := by
        show ({ D with kept := putA D.kept i (readD D i), late := putA D.late i [] } : DS) = _
        rw [er]
      rw [es] at q sm2 wfs
      have e1 : valV (kvM D.kept) (Sum.inl ((i : Nat) : Int)) = some (sv t0) := by rw [kvM_val, g1]; rfl
      have e2 : valV (kvM D.late) (Sum.inl ((i : Nat) : Int)) = some (sv u) := by rw [kvM_val, g2]; rfl
      have z1 : (kvM D.kept).length < sizeLine := by rw [kvM_len, sizeLine_eq]; have := sm.kept; omega
      have z2 : (kvM D.late).length < sizeLine := by rw [kvM_len, sizeLine_eq]; have := sm.late; omega
      (repeat array_get_dec)
      refine w_addS (fit_add (s := mkS t0) (t := mkS u) (a := t0.length) (b := u.length) (Nat.le_of_eq (len_tl _)) (Nat.le_of_eq (len_tl _)) (by omega)) ?_
      (repeat array_get_dec)
      have ep : putK (kvM D.kept) (Sum.inl ((i : Nat) : Int)) (.str (mkS t0 ++ mkS u)) = kvM (putA D.kept i (t0 ++ u)) := by
        rw [mkS_app]
        exact kvM_put _ _ _
      have el : putK (kvM D.late) (Sum.inl ((i : Nat) : Int)) (.str (Str.ofString "")) = kvM (putA D.late i []) := kvM_put _ _ _
      rw [ep, el]
      refine q _ _ ⟨⟨k, l, n, sa, c, ts, rfl, ⟨nd0, ⟨dx, by ((repeat (first | with_reducible exact upd_same | with_reducible refine (upd_ne (by first | assumption | (apply Ne.symm; assumption))).trans ?_)); (try (first | assumption | exact upd_same)))⟩, by ((repeat (first | with_reducible exact upd_same | with_reducible refine (upd_ne (by first | assumption | (apply Ne.symm; assumption))).trans ?_)); (try (first | assumption | exact upd_same))), upd_same, by ((repeat (first | with_reducible exact upd_same | with_reducible refine (upd_ne (by first | assumption | (apply Ne.symm; assumption))).trans ?_)); (try (first | assumption | exact upd_same))), by ((repeat (first | with_reducible exact upd_same | with_reducible refine (upd_ne (by first | assumption | (apply Ne.symm; assumption))).trans ?_)); (try (first | assumption | exact upd_same))), by ((repeat (first | with_reducible exact upd_same | with_reducible refine (upd_ne (by first | assumption | (apply Ne.symm; assumption))).trans ?_)); (try (first | assumption | exact upd_same))), tp.keep fun v m o e => ?_, sm2⟩⟩, wfs⟩ (((Fr.refl _ H).put (by simp)).put (by simp))
      obtain ⟨ch', e'⟩ := tp.tup m
      rw [upd_ne fun z => (by rw [z, hl] at e'; cases e'), upd_ne fun z => (by rw [z, hk] at e'; cases e')]
      exact e
end
end K54

namespace K54
open PySem PySem.Spec PyProof.Rows L2
local macro_rules | `(tactic| array_mem_dec) => `(tactic| first | with_reducible assumption | with_reducible exact upd_same | ((with_reducible apply same_at); (with_reducible assumption); array_mem_dec) | ((with_reducible apply upd_atN); (with_reducible assumption); array_mem_dec) | ((with_reducible apply upd_at); (first | with_reducible assumption | (apply Ne.symm; with_reducible assumption)); array_mem_dec))
local macro_rules | `(tactic| array_get_dec) => `(tactic| first | (with_reducible refine w_seq ?_) | (with_reducible refine w_asg ?_) | (with_reducible refine w_drop ?_) | (with_reducible refine w_ret ?_) | (with_reducible refine w_retN ?_) | (with_reducible refine w_next ?_) | (with_reducible refine w_break ?_) | (with_reducible refine w_cont ?_) | (with_reducible refine w_ifS ?_) | (with_reducible refine w_sub ?_) | (with_reducible refine w_c ?_) | (with_reducible refine w_op ?_) | (with_reducible refine w_un ?_) | (with_reducible refine w_test ?_) | (with_reducible refine w_B ?_) | (with_reducible refine w_yes ?_) | (with_reducible refine w_not ?_) | (with_reducible refine w_and ?_) | (with_reducible refine w_or ?_) | (with_reducible refine w_andV ?_) | (with_reducible refine w_orV ?_) | (with_reducible refine w_notV ?_) | (with_reducible refine w_ifE ?_) | (with_reducible refine w_nil ?_) | (with_reducible refine w_cons ?_) | (with_reducible refine w_call ?_) | (with_reducible refine w_callS ?_) | (with_reducible refine w_cB ?_) | (with_reducible refine w_lst ?_) | (with_reducible refine w_tup ?_) | (with_reducible refine w_sl ?_) | (with_reducible refine w_noPart ?_) | (with_reducible refine w_part ?_) | (with_reducible refine w_bm ?_) | (with_reducible refine w_bm0 ?_) | (with_reducible refine w_strTy ?_) | (with_reducible refine w_bl ?_) | (with_reducible refine w_int1 ?_) | (with_reducible refine w_str1 ?_) | (with_reducible refine w_rI0 ?_) | (with_reducible refine w_rU ?_) | (with_reducible refine w_eqI ?_) | (with_reducible refine w_eqS ?_) | (with_reducible refine w_neI ?_) | (with_reducible refine w_neS ?_) | (with_reducible refine w_bl2 ?_) | (with_reducible refine w_isN ?_) | (with_reducible refine w_for ?_) | (with_reducible refine w_iRng1 ?_) | (with_reducible refine w_iRng2 ?_) | (with_reducible refine w_iList ?_) | (with_reducible refine w_iTup ?_) | (with_reducible refine w_iStr ?_) | (with_reducible refine w_lc ?_) | (with_reducible refine w_M1 ?_) | (with_reducible refine w_M0 ?_) | (with_reducible refine w_isS ?_) | ((with_reducible apply w_name); (simp only [wipe, List.map_cons, List.map_nil, List.foldl_cons, List.foldl_nil, List.set_cons_zero, List.set_cons_succ]; exact rfl)) | ((with_reducible apply w_var); exact rfl) | ((with_reducible apply w_lstTy); array_mem_dec) | ((with_reducible apply w_lenL); array_mem_dec) | ((with_reducible apply w_lenT); array_mem_dec) | ((with_reducible apply w_listOf); array_mem_dec) | ((with_reducible apply w_lenS); (first | (with_reducible assumption) | omega | (rw [sizeLine_eq]; omega))) | ((with_reducible apply w_slS); (first | (with_reducible assumption) | omega | (rw [sizeLine_eq]; omega))) | ((with_reducible apply w_wipe); exact rfl) | ((with_reducible apply w_acc); array_mem_dec; (try (first | (with_reducible assumption) | omega | (rw [sizeLine_eq]; omega)))) | ((with_reducible apply w_itl); array_mem_dec) | ((with_reducible apply w_itt); array_mem_dec) | ((with_reducible apply w_append); array_mem_dec; (try (first | (with_reducible assumption) | omega | (rw [sizeLine_eq]; omega)))) | ((with_reducible apply w_rng1); (first | (with_reducible assumption) | omega); (first | (with_reducible assumption) | omega)) | ((with_reducible apply w_ixL); array_mem_dec; (first | (with_reducible assumption) | exact rfl | (apply atI_nat; (with_reducible assumption)) | exact atI_last _ _)) | ((with_reducible apply w_ixT); array_mem_dec; (first | (with_reducible assumption) | exact rfl | (apply atI_nat; (with_reducible assumption)) | exact atI_last _ _)) | ((with_reducible apply w_iT); first | exact rfl | (with_reducible assumption)) | ((with_reducible apply w_iF); first | exact rfl | (with_reducible assumption)) | ((with_reducible apply w_isiI (b := true)); decide +kernel) | ((with_reducible apply w_isiI (b := false)); decide +kernel) | ((with_reducible apply w_isiB (b := true)); decide +kernel) | ((with_reducible apply w_isiB (b := false)); decide +kernel) | ((with_reducible apply w_isiS (b := true)); decide +kernel) | ((with_reducible apply w_isiS (b := false)); decide +kernel) | ((with_reducible apply w_isiN (b := true)); decide +kernel) | ((with_reducible apply w_isiN (b := false)); decide +kernel) | ((with_reducible apply w_isiL (b := true)); array_mem_dec; decide +kernel) | ((with_reducible apply w_isiL (b := false)); array_mem_dec; decide +kernel) | ((with_reducible apply w_isiT (b := true)); array_mem_dec; decide +kernel) | ((with_reducible apply w_isiT (b := false)); array_mem_dec; decide +kernel) | (with_reducible refine w_notT ?_) | (with_reducible refine w_chain ?_) | ((with_reducible apply w_trL); array_mem_dec) | ((with_reducible apply w_gTup); array_mem_dec; exact rfl) | ((with_reducible apply w_gLst); array_mem_dec; exact rfl) | (with_reducible refine w_gCons ?_) | (with_reducible refine w_gNil ?_) | (with_reducible refine w_Fld ?_) | (with_reducible refine w_sFld ?_) | (with_reducible refine w_dget ?_) | (with_reducible refine w_dIn ?_) | (with_reducible refine w_dNotIn ?_) | (with_reducible refine w_sDPut ?_) | (with_reducible refine w_dnewK ?_) | (with_reducible refine w_meth ?_) | (with_reducible refine w_make ?_) | (with_reducible refine w_methS ?_) | (with_reducible refine w_makeS ?_) | (with_reducible refine w_dpop ?_) | ((with_reducible apply w_fld1); array_mem_dec; (with_reducible assumption); (with_reducible assumption); exact rfl) | ((with_reducible apply w_sfld1); array_mem_dec; (with_reducible assumption); (with_reducible assumption); exact Nat.le_of_ble_eq_true rfl) | ((with_reducible apply w_meth1); array_mem_dec; exact rfl) | ((with_reducible apply w_dgetS); array_mem_dec; (with_reducible assumption)) | ((with_reducible apply w_dgetI); array_mem_dec; (with_reducible assumption)) | ((with_reducible apply w_dinS); array_mem_dec) | ((with_reducible apply w_dputI); array_mem_dec; (try (first | (with_reducible assumption) | omega | (rw [sizeLine_eq]; omega)))) | ((with_reducible apply w_dputS); array_mem_dec; (try (first | (with_reducible assumption) | omega | (rw [sizeLine_eq]; omega)))) | ((with_reducible apply w_isD); array_mem_dec) | ((with_reducible apply w_dictD); array_mem_dec) | ((with_reducible apply w_dpopS); array_mem_dec; (with_reducible assumption)) | ((with_reducible apply w_setL); array_mem_dec; exact rfl) | ((with_reducible apply w_cat); array_mem_dec; array_mem_dec; (try (first | (with_reducible assumption) | omega | (rw [sizeLine_eq]; omega)))) | (with_reducible refine w_iKeys ?_) | (with_reducible refine w_dget2 ?_) | (with_reducible refine w_scX ?_) | ((with_reducible apply w_keysF); array_mem_dec) | ((with_reducible apply w_dgetSF); array_mem_dec; (with_reducible assumption)))
section
variable {P : Program} {w : World} {K : PySem.W.Frag} {mg : Str → Option Value} {base : Heap}
theorem ok_Disk_sync_names (M : Nms K mg) : FnOk P w K mg base CX0 1 M.a_Disk_sync_names M.d_Disk_sync_names ["self"] (spSyncN M.CD M.CP M.CU) := by
  refine M.F_Disk_sync_names.ok sc_Disk_sync_names (fun vs H Q E h => ?_) (fun cdv A outer s H vs Q E hr h => ?_)
  · obtain ⟨a, fp, D, rfl, _⟩ := h
    rfl
  · have hu := hu1 hr
    have clD := M.clD
    have nD_kept := M.nD_kept
    have nD_late := M.nD_late
    have nD_names := M.nD_names
    have nD_sure := M.nD_sure
    have nD_changes := M.nD_changes
    have nD_next := M.nD_next
    refine ⟨_, (pss_cons (ps_fld (pv 0) (pe_callTy call_dictD (by rfl) M.T.b_dict (by decide +kernel) (pa_cons (pe_fld (pv 0) rfl) pa_nil)) rfl)
    (pss_one (ps_fld (pv 0) (pe_lst pa_nil) rfl))), ?_⟩
    try dsimp only [cxOf, Cx.nox]
    obtain ⟨a, fp, D, rfl, ⟨⟨k, l, n, sa, c, ts, rfl, ⟨nd, ⟨dx, hi⟩, hk, hl, hn, hs, hc, tp, sm⟩⟩, wfd⟩, sm2, q⟩ := h
    simp only [List.nodup_cons, List.mem_cons, List.not_mem_nil, or_false, not_or] at nd
    obtain ⟨⟨n1, n2, n3, n4, n5⟩, ⟨n6, n7, n8, n9⟩, ⟨n10, n11, n12⟩, ⟨n13, n14⟩, n15, _⟩ := nd
    refine w_start (σ' := [some (.ref a)]) rfl ?_
    (repeat array_get_dec)
    intro p hp
    have d1 := ne_of_none hi hp
    have d2 := ne_of_none hk hp
    have d3 := ne_of_none hl hp
    have d4 := ne_of_none hn hp
    (repeat array_get_dec)
    refine ⟨by show 0 ≤ sizeLine; decide, fun r hr2 => ?_⟩
    have nhr2 := hr2
    obtain ⟨_, nhr2⟩ := hu2 nhr2
    obtain ⟨_, nhr2⟩ := hu2 nhr2
    have c1 := ne_of_none hi nhr2
    have c2 := ne_of_none hk nhr2
    have c3 := ne_of_none hl nhr2
    have c4 := ne_of_none hn nhr2
    (repeat array_get_dec)
    refine q _ [a, k, l, n, p, r] ⟨⟨k, l, n, p, r, [], rfl, ⟨(by simp only [List.nodup_cons, List.mem_cons, List.not_mem_nil, or_false, not_or]; refine ⟨⟨?_, ?_, ?_, ?_, ?_⟩, ⟨?_, ?_, ?_, ?_⟩, ⟨?_, ?_, ?_⟩, ⟨?_, ?_⟩, ?_, not_false, List.nodup_nil⟩ <;> first | assumption | (apply Ne.symm; assumption)), ⟨dx, upd_same⟩, by ((repeat (first | with_reducible exact upd_same | with_reducible refine (upd_ne (by first | assumption | (apply Ne.symm; assumption))).trans ?_)); (try (first | assumption | exact upd_same))), by ((repeat (first | with_reducible exact upd_same | with_reducible refine (upd_ne (by first | assumption | (apply Ne.symm; assumption))).trans ?_)); (try (first | assumption | exact upd_same))), by ((repeat (first | with_reducible exact upd_same | with_reducible refine (upd_ne (by first | assumption | (apply Ne.symm; assumption))).trans ?_)); (try (first | assumption | exact upd_same))), by ((repeat (first | with_reducible exact upd_same | with_reducible refine (upd_ne (by first | assumption | (apply Ne.symm; assumption))).trans ?_)); (try (first | assumption | exact upd_same))), by ((repeat (first | with_reducible exact upd_same | with_reducible refine (upd_ne (by first | assumption | (apply Ne.symm; assumption))).trans ?_)); (try (first | assumption | exact upd_same))), trivial, sm2⟩⟩, wf_names wfd⟩ ⟨(((((Fr.refl _ H).neu hp).put (a := a) (by simp)).neu hr2).put (by simp)).1, fun b m => ?_⟩
    simp only [List.mem_cons, List.not_mem_nil, or_false] at m ⊢
    rcases m with rfl | rfl | rfl | rfl | rfl | rfl
    · exact .inl (by simp)
    · exact .inl (by simp)
    · exact .inl (by simp)
    · exact .inl (by simp)
    · exact .inr hp
    · exact .inr nhr2
theorem ok_Disk_move (M : Nms K mg) : FnOk P w K mg base (L2N.CX P w) 3 M.a_Disk_move M.d_Disk_move ["self", "one", "other"] (spMove M.CD M.CP M.CU) := by
  refine M.F_Disk_move.okN sc_Disk_move (fun vs H Q E h => ?_) (fun cdv A outer s H vs Q E hr h => ?_)
  · obtain ⟨a, x, y, fp, D, rfl, _⟩ := h
    rfl
  · have hu := hu1 hr
    have clD := M.clD
    have nD_kept := M.nD_kept
    have nD_late := M.nD_late
    have nD_names := M.nD_names
    have nD_sure := M.nD_sure
    have nD_changes := M.nD_changes
    have nD_next := M.nD_next
    refine ⟨_, (pss_cons (ps_expr (pe_methS1 (pv 0) M.clD M.m_Disk__file (ok_Disk__file M) (hr.mono (by decide)) M.b_Disk__file (fun σ => L2N.passAt (L2N.takes_of rfl rfl rfl rfl) σ) (pa_cons (pv 1) pa_nil)))
    (pss_cons (ps_if (PW.pt (pw_or (pt_cmpR op_eq (pv 1) (pv 2) (nomark _)) (pw_or (pt_not (pt_val (pe_callB call_isi (by rfl) M.T.b_isinstance (by decide +kernel) (pa_cons (pv 2) (pa_cons (pe_bltn (v := .ty "str") (u := .type "str") (by rfl) M.T.b_str (by decide +kernel) rfl) pa_nil))))) (pw_or1 (pt_cmpR op_eq (pv 2) pe_str (nomark _)))))) (pss_one (L2N.ps_raise rfl (L2N.takes_of rfl rfl rfl rfl) (L2N.pmk_own PySem.F.excBase_ValueError M.XP.xP M.XP.gP M.XP.kP (raises_own M.XP.bP M.XP.tP) rfl))) pss_nil)
    (pss_one (ps_expr (pe_meth (pv 0) M.clD M.m_Disk__change (ok_Disk__change M) (hr.mono (by decide)) M.b_Disk__change .nil pass0 (pa_cons (pe_tup (pa_cons pe_str (pa_cons (pv 1) (pa_cons (pv 2) pa_nil)))) pa_nil)))))), ?_⟩
    try dsimp only [cxOf, Cx.nox]
    obtain ⟨a, x, y, fp, D, rfl, dk, sm2, q⟩ := h
    have wfs := wf_step dk.2 (.move x y)
    have dk' := dk
    obtain ⟨⟨k, l, n, sa, c, ts, rfl, ⟨nd, ⟨dx, hi⟩, hk, hl, hn, hs, hc, tp, sm⟩⟩, wfd⟩ := dk'
    refine w_start (σ' := [some (.ref a), some (sv x), some (sv y)]) rfl ?_
    simp only [step] at q sm2 wfs
    (repeat array_get_dec)
    refine ⟨a, _, D, x, rfl, dk.1, ?_⟩
    cases e : getA D.names x with
    | none =>
      simp only [e] at q
      exact q _ _ dk (Fr.refl _ _)
    | some i =>
      simp only [e] at q sm2 wfs
      dsimp only [look]
      (repeat array_get_dec)
      refine ite2 (fun hx => ?_) (fun hx => ?_)
      · have hx' : x = y := mkS_inj' (V.str.inj (of_decide_eq_true hx))
        rw [if_pos (.inl hx')] at q
        (repeat array_get_dec)
        exact q _ _ dk (Fr.refl _ _)
      · have hx' : ¬ x = y := fun z => hx (decide_eq_true (by rw [z]))
        (repeat array_get_dec)
        refine ite2 (fun hy => ?_) (fun hy => ?_)
        · rw [if_pos (.inr (mk_nil.mp (of_decide_eq_true hy)))] at q
          (repeat array_get_dec)
          exact q _ _ dk (Fr.refl _ _)
        · rw [if_neg (fun z => z.elim hx' fun v => hy (decide_eq_true (mk_nil.mpr v)))] at q sm2 wfs
          (repeat array_get_dec)
          refine ⟨by show 3 ≤ sizeLine; decide, fun t ht => ?_⟩
          (repeat array_get_dec)
          refine ⟨a, t, _, D, .move x y, rfl, dk.1.same (same_upd (Same.refl _) ht), upd_same, by show (getA D.names x).isSome = true; rw [e]; rfl, sm2, fun H' fp' dk2 fr => ?_⟩
          (repeat array_get_dec)
          exact q _ _ ⟨dk2, wfs⟩ (((Fr.refl _ H).neu ht).trans fr)
theorem ok_Disk_remove (M : Nms K mg) : FnOk P w K mg base (L2N.CX P w) 3 M.a_Disk_remove M.d_Disk_remove ["self", "name"] (spRemove M.CD M.CP M.CU) := by
  refine M.F_Disk_remove.okN sc_Disk_remove (fun vs H Q E h => ?_) (fun cdv A outer s H vs Q E hr h => ?_)
  · obtain ⟨a, x, fp, D, rfl, _⟩ := h
    rfl
  · have hu := hu1 hr
    have clD := M.clD
    have nD_kept := M.nD_kept
    have nD_late := M.nD_late
    have nD_names := M.nD_names
    have nD_sure := M.nD_sure
    have nD_changes := M.nD_changes
    have nD_next := M.nD_next
    refine ⟨_, (pss_cons (ps_expr (pe_methS1 (pv 0) M.clD M.m_Disk__file (ok_Disk__file M) (hr.mono (by decide)) M.b_Disk__file (fun σ => L2N.passAt (L2N.takes_of rfl rfl rfl rfl) σ) (pa_cons (pv 1) pa_nil)))
    (pss_one (ps_expr (pe_meth (pv 0) M.clD M.m_Disk__change (ok_Disk__change M) (hr.mono (by decide)) M.b_Disk__change .nil pass0 (pa_cons (pe_tup (pa_cons pe_str (pa_cons (pv 1) (pa_cons pe_int pa_nil)))) pa_nil))))), ?_⟩
    try dsimp only [cxOf, Cx.nox]
    obtain ⟨a, x, fp, D, rfl, dk, sm2, q⟩ := h
    have wfs := wf_step dk.2 (.drop x)
    have dk' := dk
    obtain ⟨⟨k, l, n, sa, c, ts, rfl, ⟨nd, ⟨dx, hi⟩, hk, hl, hn, hs, hc, tp, sm⟩⟩, wfd⟩ := dk'
    refine w_start (σ' := [some (.ref a), some (sv x)]) rfl ?_
    simp only [step] at q sm2 wfs
    (repeat array_get_dec)
    refine ⟨a, _, D, x, rfl, dk.1, ?_⟩
    cases e : getA D.names x with
    | none =>
      simp only [e] at q
      exact q _ _ dk (Fr.refl _ _)
    | some i =>
      simp only [e] at q sm2 wfs
      dsimp only [look]
      (repeat array_get_dec)
      refine ⟨by show 3 ≤ sizeLine; decide, fun t ht => ?_⟩
      (repeat array_get_dec)
      refine ⟨a, t, _, D, .drop x, rfl, dk.1.same (same_upd (Same.refl _) ht), upd_same, by show (getA D.names x).isSome = true; rw [e]; rfl, sm2, fun H' fp' dk2 fr => ?_⟩
      (repeat array_get_dec)
      exact q _ _ ⟨dk2, wfs⟩ (((Fr.refl _ H).neu ht).trans fr)
theorem ok_Disk___init__ (M : Nms K mg) : FnOk P w K mg base CX0 1 M.a_Disk___init__ M.d_Disk___init__ ["self"] (spInit M.CD) := by
  refine M.F_Disk___init__.ok sc_Disk___init__ (fun vs H Q E h => ?_) (fun cdv A outer s H vs Q E hr h => ?_)
  · obtain ⟨a, dx, rfl, _⟩ := h
    rfl
  · have hu := hu1 hr
    have clD := M.clD
    have nD_kept := M.nD_kept
    have nD_late := M.nD_late
    have nD_names := M.nD_names
    have nD_sure := M.nD_sure
    have nD_changes := M.nD_changes
    have nD_next := M.nD_next
    refine ⟨_, (pss_cons (ps_fld (pv 0) pe_dnewK rfl)
    (pss_cons (ps_fld (pv 0) pe_dnewK rfl)
    (pss_cons (ps_fld (pv 0) pe_dnewK rfl)
    (pss_cons (ps_fld (pv 0) pe_dnewK rfl)
    (pss_cons (ps_fld (pv 0) (pe_lst pa_nil) rfl)
    (pss_one (ps_fld (pv 0) pe_int rfl))))))), ?_⟩
    try dsimp only [cxOf, Cx.nox]
    obtain ⟨a, dx, rfl, hi, q⟩ := h
    refine w_start (σ' := [some (.ref a)]) rfl ?_
    (repeat array_get_dec)
    intro k hk
    (repeat array_get_dec)
    intro l hl
    have nhl := hl
    obtain ⟨_, nhl⟩ := hu2 nhl
    obtain ⟨_, nhl⟩ := hu2 nhl
    (repeat array_get_dec)
    intro n hn
    have nhn := hn
    obtain ⟨_, nhn⟩ := hu2 nhn
    obtain ⟨_, nhn⟩ := hu2 nhn
    obtain ⟨_, nhn⟩ := hu2 nhn
    obtain ⟨_, nhn⟩ := hu2 nhn
    (repeat array_get_dec)
    intro sa hs
    have nhs := hs
    obtain ⟨_, nhs⟩ := hu2 nhs
    obtain ⟨_, nhs⟩ := hu2 nhs
    obtain ⟨_, nhs⟩ := hu2 nhs
    obtain ⟨_, nhs⟩ := hu2 nhs
    obtain ⟨_, nhs⟩ := hu2 nhs
    obtain ⟨_, nhs⟩ := hu2 nhs
    (repeat array_get_dec)
    refine ⟨by show 0 ≤ sizeLine; decide, fun c hc => ?_⟩
    have nhc := hc
    obtain ⟨_, nhc⟩ := hu2 nhc
    obtain ⟨_, nhc⟩ := hu2 nhc
    obtain ⟨_, nhc⟩ := hu2 nhc
    obtain ⟨_, nhc⟩ := hu2 nhc
    obtain ⟨_, nhc⟩ := hu2 nhc
    obtain ⟨_, nhc⟩ := hu2 nhc
    obtain ⟨_, nhc⟩ := hu2 nhc
    obtain ⟨_, nhc⟩ := hu2 nhc
    have d1 := ne_of_none hi hk
    have d2 := ne_of_none hi nhl
    have d3 := ne_of_none hi nhn
    have d4 := ne_of_none hi nhs
    have d5 := ne_of_none hi nhc
    (repeat array_get_dec)
    refine q _ [a, k, l, n, sa, c] ⟨⟨k, l, n, sa, c, [], rfl, ⟨(by simp only [List.nodup_cons, List.mem_cons, List.not_mem_nil, or_false, not_or]; refine ⟨⟨?_, ?_, ?_, ?_, ?_⟩, ⟨?_, ?_, ?_, ?_⟩, ⟨?_, ?_, ?_⟩, ⟨?_, ?_⟩, ?_, not_false, List.nodup_nil⟩ <;> first | assumption | (apply Ne.symm; assumption)), ⟨dx, upd_same⟩, by ((repeat (first | with_reducible exact upd_same | with_reducible refine (upd_ne (by first | assumption | (apply Ne.symm; assumption))).trans ?_)); (try (first | assumption | exact upd_same))), by ((repeat (first | with_reducible exact upd_same | with_reducible refine (upd_ne (by first | assumption | (apply Ne.symm; assumption))).trans ?_)); (try (first | assumption | exact upd_same))), by ((repeat (first | with_reducible exact upd_same | with_reducible refine (upd_ne (by first | assumption | (apply Ne.symm; assumption))).trans ?_)); (try (first | assumption | exact upd_same))), by ((repeat (first | with_reducible exact upd_same | with_reducible refine (upd_ne (by first | assumption | (apply Ne.symm; assumption))).trans ?_)); (try (first | assumption | exact upd_same))), by ((repeat (first | with_reducible exact upd_same | with_reducible refine (upd_ne (by first | assumption | (apply Ne.symm; assumption))).trans ?_)); (try (first | assumption | exact upd_same))), trivial, bd_none⟩⟩, wf_none⟩ ⟨(Fr.refl [a] H |>.neu hk |>.put (a := a) (by simp) |>.neu hl |>.put (a := a) (by simp) |>.neu hn |>.put (a := a) (by simp) |>.neu hs |>.put (a := a) (by simp) |>.neu hc |>.put (a := a) (by simp) |>.put (by simp)).1, fun b m => ?_⟩
    simp only [List.mem_cons, List.not_mem_nil, or_false] at m ⊢
    rcases m with rfl | rfl | rfl | rfl | rfl | rfl
    · exact .inl rfl
    · exact .inr hk
    · exact .inr nhl
    · exact .inr nhn
    · exact .inr nhs
    · exact .inr nhc
theorem ok_Disk_copy (M : Nms K mg) : FnOk P w K mg base CX0 3 M.a_Disk_copy M.d_Disk_copy ["self"] (spCopy M.CD) := by
  refine M.F_Disk_copy.ok sc_Disk_copy (fun vs H Q E h => ?_) (fun cdv A outer s H vs Q E hr h => ?_)
  · obtain ⟨a, fp, D, rfl, _⟩ := h
    rfl
  · have hu := hu1 hr
    have clD := M.clD
    have nD_kept := M.nD_kept
    have nD_late := M.nD_late
    have nD_names := M.nD_names
    have nD_sure := M.nD_sure
    have nD_changes := M.nD_changes
    have nD_next := M.nD_next
    refine ⟨_, (pss_cons (ps_set (i := 1) sc_Disk_copy.nd rfl (Or.inl rfl) (pe_make0 M.mkD (ok_Disk___init__ M) (hr.mono (by decide)) rfl M.gD M.b_Disk___init__ .nil pass0))
    (pss_cons (ps_fld (pv 1) (pe_callTy call_dictD (by rfl) M.T.b_dict (by decide +kernel) (pa_cons (pe_fld (pv 0) rfl) pa_nil)) rfl)
    (pss_cons (ps_fld (pv 1) (pe_callTy call_dictD (by rfl) M.T.b_dict (by decide +kernel) (pa_cons (pe_fld (pv 0) rfl) pa_nil)) rfl)
    (pss_cons (ps_fld (pv 1) (pe_callTy call_dictD (by rfl) M.T.b_dict (by decide +kernel) (pa_cons (pe_fld (pv 0) rfl) pa_nil)) rfl)
    (pss_cons (ps_fld (pv 1) (pe_callTy call_dictD (by rfl) M.T.b_dict (by decide +kernel) (pa_cons (pe_fld (pv 0) rfl) pa_nil)) rfl)
    (pss_cons (ps_fld (pv 1) (pe_callTy call_list_of (by rfl) M.T.b_list (by decide +kernel) (pa_cons (pe_fld (pv 0) rfl) pa_nil)) rfl)
    (pss_cons (ps_fld (pv 1) (pe_fld (pv 0) rfl) rfl)
    (pss_one (ps_ret (pv 1)))))))))), ?_⟩
    try dsimp only [cxOf, Cx.nox]
    obtain ⟨a, fp, D, rfl, ⟨⟨k, l, n, sa, c, ts, rfl, ⟨nd, ⟨dx, hi⟩, hk, hl, hn, hs, hc, tp, sm⟩⟩, wfd⟩, q⟩ := h
    refine w_start (σ' := [some (.ref a), none]) rfl ?_
    (repeat array_get_dec)
    intro b db hb hdb hne
    refine ⟨b, db, rfl, upd_same, fun H1 fp1 dk1 fr1 => ⟨rfl, ?_⟩⟩
    have s1 : Same H H1 := fun x o e => fr1.keep (by rw [upd_ne (ne_of_none e hb), upd_ne (ne_of_none e hdb)]; exact e) (by simp; exact ne_of_none e hb)
    obtain ⟨⟨k0, l0, n0, sa0, c0, ts0, rfl, ⟨nd1, ⟨dx1, gi⟩, _⟩⟩, _⟩ := dk1
    have q1 := (ne_of_none hi hb).symm
    have q2 := (ne_of_none hk hb).symm
    have q3 := (ne_of_none hl hb).symm
    have q4 := (ne_of_none hn hb).symm
    have q5 := (ne_of_none hs hb).symm
    have q6 := (ne_of_none hc hb).symm
    have frees : ∀ x, H1 x = none → H x = none := fun x e => by
      cases e2 : H x with
      | none => rfl
      | some o => rw [s1 _ _ e2] at e; cases e
    replace hi := s1 _ _ hi
    replace hk := s1 _ _ hk
    replace hl := s1 _ _ hl
    replace hn := s1 _ _ hn
    replace hs := s1 _ _ hs
    replace hc := s1 _ _ hc
    (repeat array_get_dec)
    intro k2 hk2
    have e1 := ne_of_none gi hk2
    (repeat array_get_dec)
    intro l2 hl2
    have nhl2 := hl2
    obtain ⟨_, nhl2⟩ := hu2 nhl2
    obtain ⟨_, nhl2⟩ := hu2 nhl2
    (repeat array_get_dec)
    intro n2 hn2
    have nhn2 := hn2
    obtain ⟨_, nhn2⟩ := hu2 nhn2
    obtain ⟨_, nhn2⟩ := hu2 nhn2
    obtain ⟨_, nhn2⟩ := hu2 nhn2
    obtain ⟨_, nhn2⟩ := hu2 nhn2
    (repeat array_get_dec)
    intro s2 hs2
    have nhs2 := hs2
    obtain ⟨_, nhs2⟩ := hu2 nhs2
    obtain ⟨_, nhs2⟩ := hu2 nhs2
    obtain ⟨_, nhs2⟩ := hu2 nhs2
    obtain ⟨_, nhs2⟩ := hu2 nhs2
    obtain ⟨_, nhs2⟩ := hu2 nhs2
    obtain ⟨_, nhs2⟩ := hu2 nhs2
    (repeat array_get_dec)
    intro c2 hc2
    have nhc2 := hc2
    obtain ⟨_, nhc2⟩ := hu2 nhc2
    obtain ⟨_, nhc2⟩ := hu2 nhc2
    obtain ⟨_, nhc2⟩ := hu2 nhc2
    obtain ⟨_, nhc2⟩ := hu2 nhc2
    obtain ⟨_, nhc2⟩ := hu2 nhc2
    obtain ⟨_, nhc2⟩ := hu2 nhc2
    obtain ⟨_, nhc2⟩ := hu2 nhc2
    obtain ⟨_, nhc2⟩ := hu2 nhc2
    have d1 := ne_of_none gi nhl2
    have d2 := ne_of_none gi nhn2
    have d3 := ne_of_none gi nhs2
    have d4 := ne_of_none gi nhc2
    (repeat array_get_dec)
    refine q b _ [b, k2, l2, n2, s2, c2] ⟨⟨k2, l2, n2, s2, c2, ts, rfl, ⟨(by simp only [List.nodup_cons, List.mem_cons, List.not_mem_nil, or_false, not_or]; refine ⟨⟨?_, ?_, ?_, ?_, ?_⟩, ⟨?_, ?_, ?_, ?_⟩, ⟨?_, ?_, ?_⟩, ⟨?_, ?_⟩, ?_, not_false, List.nodup_nil⟩ <;> first | assumption | (apply Ne.symm; assumption)), ⟨dx1, upd_same⟩, by ((repeat (first | with_reducible exact upd_same | with_reducible refine (upd_ne (by first | assumption | (apply Ne.symm; assumption))).trans ?_)); (try (first | assumption | exact upd_same))), by ((repeat (first | with_reducible exact upd_same | with_reducible refine (upd_ne (by first | assumption | (apply Ne.symm; assumption))).trans ?_)); (try (first | assumption | exact upd_same))), by ((repeat (first | with_reducible exact upd_same | with_reducible refine (upd_ne (by first | assumption | (apply Ne.symm; assumption))).trans ?_)); (try (first | assumption | exact upd_same))), by ((repeat (first | with_reducible exact upd_same | with_reducible refine (upd_ne (by first | assumption | (apply Ne.symm; assumption))).trans ?_)); (try (first | assumption | exact upd_same))), by ((repeat (first | with_reducible exact upd_same | with_reducible refine (upd_ne (by first | assumption | (apply Ne.symm; assumption))).trans ?_)); (try (first | assumption | exact upd_same))), tp.keep fun x m o e => ?_, sm⟩⟩, wfd⟩ (fun x o e => ?_) fun x m => ?_
    · exact (Fr.refl [b] H1 |>.neu hk2 |>.put (a := b) (by simp) |>.neu hl2 |>.put (a := b) (by simp) |>.neu hn2 |>.put (a := b) (by simp) |>.neu hs2 |>.put (a := b) (by simp) |>.neu hc2 |>.put (a := b) (by simp) |>.put (a := b) (by simp)).1 x o (s1 x o e) (by simp; exact ne_of_none e hb)
    · exact (Fr.refl [b] H1 |>.neu hk2 |>.put (a := b) (by simp) |>.neu hl2 |>.put (a := b) (by simp) |>.neu hn2 |>.put (a := b) (by simp) |>.neu hs2 |>.put (a := b) (by simp) |>.neu hc2 |>.put (a := b) (by simp) |>.put (a := b) (by simp)).1 x o (s1 x o e) (by simp; exact ne_of_none e hb)
    simp only [List.mem_cons, List.not_mem_nil, or_false] at m
    rcases m with rfl | rfl | rfl | rfl | rfl | rfl
    · exact hb
    · exact frees _ hk2
    · exact frees _ nhl2
    · exact frees _ nhn2
    · exact frees _ nhs2
    · exact frees _ nhc2
theorem ok_Disk_late_files (M : Nms K mg) : FnOk P w K mg base CX0 3 M.a_Disk_late_files M.d_Disk_late_files ["self"] (fun vs H Q _ => ∃ a fp D, vs = [.ref a] ∧ DiskAt M.CD H a fp D ∧ ∀ p H', Same H H' → H p = none → H' p = some (.lst (((srt (D.names.map (·.1))).filter fun x => decide (lateD D ((getA D.names x).getD 0) ≠ [])).map sv)) → Q (.ref p) H') := by
  refine M.F_Disk_late_files.ok sc_Disk_late_files (fun vs H Q E h => ?_) (fun cdv A outer s H vs Q E hr h => ?_)
  · obtain ⟨a, fp, D, rfl, _⟩ := h
    rfl
  · have hu := hu1 hr
    have clD := M.clD
    have nD_kept := M.nD_kept
    have nD_late := M.nD_late
    have nD_names := M.nD_names
    have nD_sure := M.nD_sure
    have nD_changes := M.nD_changes
    have nD_next := M.nD_next
    refine ⟨_, (pss_one (ps_ret (pe_lc (own := [("name", 1)]) rfl sc_Disk_late_files.nd (pi_list (pe_meth0 (pv 0) M.clD M.m_Disk_names (ok_Disk_names M) (hr.mono (by decide)) M.b_Disk_names .nil pass0)) (blkOk_by (N := ["self", "name"]) (sc := defScope s_Disk_late_files) (own := [("name", 1)]) (by decide +kernel)) (fun _ _ _ _ _ => (pg_name (i := 1) sc_Disk_late_files.nd rfl (Or.inl rfl))) (fun _ _ _ _ _ => pts_one (pt_cmpR op_gt (pe_meth (pv 0) M.clD M.m_Disk_late_size (okL_Disk_late_size M) (hr.mono (by decide)) M.b_Disk_late_size .nil pass0 (pa_cons (pv 1) pa_nil)) pe_int (nomark _))) (fun _ _ _ _ _ => (pv 1))))), ?_⟩
    try dsimp only [cxOf, Cx.nox]
    obtain ⟨a, fp, D, rfl, dk, q⟩ := h
    obtain ⟨⟨k0, l0, n0, sa0, c0, ts0, efp, ⟨_, ⟨dx0, hi⟩, _, _, _, _, _, _, sm⟩⟩, wfd⟩ := id dk
    refine w_start (σ' := [some (.ref a), none]) rfl ?_
    (repeat array_get_dec)
    refine ⟨a, fp, D, rfl, dk.1, fun r hr2 => ?_⟩
    (repeat array_get_dec)
    intro A2 hA2
    have sA : Same H (upd H r (.lst ((srt (D.names.map (·.1))).map sv))) := same_upd (Same.refl _) hr2
    have hrA : A2 ≠ r := fun z => by rw [z, upd_same] at hA2; cases hA2
    have hA0 : H A2 = none := by rw [upd_ne hrA] at hA2; exact hA2
    refine lc_list (K := K) (a := r) (xs := (srt (D.names.map (·.1))).map sv) (fun i H' => H' A2 = some (.lst ((((srt (D.names.map (·.1))).take i).filter fun x => decide (lateD D ((getA D.names x).getD 0) ≠ [])).map sv)) ∧ ∀ b o, b ≠ A2 → upd H r (.lst ((srt (D.names.map (·.1))).map sv)) b = some o → H' b = some o) ⟨upd_same, fun b o nb e => by rw [upd_ne nb]; exact e⟩ ?_ ?_ ?_
    · rintro i H' hi ⟨h1, h2⟩
      exact SqL.of (h2 _ _ (Ne.symm hrA) upd_same)
    · rintro i v H' hv ⟨h1, h2⟩
      obtain ⟨x, hx, rfl⟩ : ∃ x, (srt (D.names.map (·.1)))[i]? = some x ∧ v = sv x := by
        rw [List.getElem?_map] at hv
        cases e : (srt (D.names.map (·.1)))[i]? with
        | none => rw [e] at hv; cases hv
        | some t => rw [e] at hv; exact ⟨t, rfl, (Option.some.inj hv).symm⟩
      have mx : x ∈ D.names.map (·.1) := (srt_perm _).mem_iff.mp (List.mem_of_getElem? hx)
      obtain ⟨j, hj⟩ := Option.isSome_iff_exists.mp (getA_has.mpr mx)
      have dk2 : DiskAt M.CD H' a fp D := dk.keep fun b o e m => h2 b o (fun z => by rw [z, hA0] at e; cases e) (sA _ _ e)
      have hi2 := h2 _ _ (fun z => by rw [z, hA0] at hi; cases hi) (sA _ _ hi)
      (repeat array_get_dec)
      refine ⟨a, fp, D, x, j, rfl, dk2, hj, ?_⟩
      (repeat array_get_dec)
      have ll : (srt (D.names.map (·.1))).length < 64 := by rw [(srt_perm _).length_eq, List.length_map]; exact sm.names
      have lz : ((((srt (D.names.map (·.1))).take i).filter fun x => decide (lateD D ((getA D.names x).getD 0) ≠ [])).map sv).length < sizeLine := by
        rw [List.length_map]
        have := List.length_filter_le (fun x => decide (lateD D ((getA D.names x).getD 0) ≠ [])) ((srt (D.names.map (·.1))).take i)
        rw [List.length_take] at this
        rw [sizeLine_eq]; omega
      have ft : ∀ b, decide (lateD D ((getA D.names x).getD 0) ≠ []) = b → ((srt (D.names.map (·.1))).take (i + 1)).filter (fun x => decide (lateD D ((getA D.names x).getD 0) ≠ [])) = ((srt (D.names.map (·.1))).take i).filter (fun x => decide (lateD D ((getA D.names x).getD 0) ≠ [])) ++ (if b = true then [x] else []) := fun b hb => by
        rw [take_one hx, List.filter_append, List.filter_cons, hb]
        rfl
      have eg : lateD D ((getA D.names x).getD 0) = lateD D j := by rw [hj]; rfl
      refine ite2 (fun hb => ?_) (fun hb => ?_)
      · have hb' : lateD D j ≠ [] := fun z => by rw [z] at hb; exact absurd (of_decide_eq_true hb) (by decide)
        (repeat array_get_dec)
        refine ⟨by rw [upd_same, ft true (decide_eq_true (by rw [eg]; exact hb')), List.map_append]; rfl, fun b o nb e => by rw [upd_ne nb]; exact h2 b o nb e⟩
      · have hb' : lateD D j = [] := by
          have : ¬ (0 : Int) < (((lateD D j).length : Nat) : Int) := fun z => hb (decide_eq_true z)
          exact List.eq_nil_of_length_eq_zero (by omega)
        refine ⟨by rw [h1, ft false (decide_eq_false (by rw [eg]; exact fun z => z hb')), if_neg (by simp), List.append_nil], h2⟩
    · rintro H' ⟨h1, h2⟩
      rw [List.length_map, List.take_length] at h1
      (repeat array_get_dec)
      exact q _ _ (fun b o e => h2 b o (fun z => by rw [z, hA0] at e; cases e) (sA _ _ e)) hA0 h1
end
end K54

namespace K54
open PySem PySem.Spec PyProof.Rows L2
/-! ### walks over the keys of a dict -/
section
variable {σ : L2.St} {H : Hp}
theorem w_iKeys {td : TE} {R : L2.It → Hp → Prop} (h : td σ H fun x H1 => ∃ d o, x = .ref d ∧ ((∃ kvs, H1 d = some (.frz o (.dK kvs)) ∧ R (Itk d o kvs) H1) ∨ ∃ kvs, H1 d = some (.frz o (.dT kvs)) ∧ R (Itkt d o kvs) H1)) : iKeys td σ H R := h
theorem w_keysF {d : Addr} {o : Obj} {kvs : List (Key × V)} {R : Addr → Obj → List (Key × V) → Prop} {R2 : Addr → Obj → List (List Key × V) → Prop} (h : H d = some (.frz o (.dK kvs))) (k : R d o kvs) : ∃ d' o', V.ref d = .ref d' ∧ ((∃ kvs, H d' = some (.frz o' (.dK kvs)) ∧ R d' o' kvs) ∨ ∃ kvs, H d' = some (.frz o' (.dT kvs)) ∧ R2 d' o' kvs) := ⟨d, o, rfl, .inl ⟨kvs, h, k⟩⟩
theorem w_dgetSF {a : Addr} {od : Obj} {kvs : List (Key × V)} {x : Str} {v : V} {R : V → Prop} (h : H a = some (.frz od (.dK kvs))) (e : valV kvs (Sum.inr x : Key) = some v) (k : R v) : ∃ a' v', V.ref a = .ref a' ∧ DGet H a' (.str x) (some v') ∧ R v' := ⟨a, v, rfl, e ▸ .inl ⟨kvs, Sum.inr x, .inr ⟨od, h⟩, rfl, rfl⟩, k⟩
theorem w_scX {w : World} {wi : TI} {g : TG} {tt : TT} {te : TE} {vs : List Nat} {Q : VK} (h : wi σ H fun J H1 => ∀ D, H1 D = none → ∃ W : Nat → Nat → Hp → Prop, (∃ n, W 0 n (upd H1 D (TxtSet.SetXO w D (fun _ => false) 0))) ∧ ∀ i n G, W i n G →
    (J.stop i G ∧ Q (.ref D) G) ∨ (J.go i G ∧ ∃ Nx : Hp → Prop, (∀ G', Nx G' → ∃ n', n' < n ∧ W (i + 1) n' G') ∧ ∀ v G', J.yld i G v G' → g v (wipe σ vs) G' fun τ G2 => wipe τ vs = wipe σ vs ∧ tt τ G2 fun b G3 =>
      if b = true then te τ G3 fun y G4 => ∃ (x : Str) (S : Str → Bool) (m : Nat), y = .str x ∧ G4 D = some (TxtSet.SetXO w D S m) ∧ m + 1 < scanBound ∧ Nx (upd G4 D (TxtSet.SetXO w D (TxtSet.grow S x) (TxtSet.grown S m x))) else Nx G3)) : TxtSet.tScX w wi g tt te vs σ H Q := h
theorem for_keys {d : Addr} {od : Obj} {kvs : List (Key × V)} {g : TG} {tb : TS} {D : Ends} (Pv : Nat → L2.St → Hp → Prop) (h0 : Pv 0 σ H) (hl : ∀ i σ H, i ≤ kvs.length → Pv i σ H → H d = some (.frz od (.dK kvs)))
    (hs : ∀ i k v σ H, kvs[i]? = some (k, v) → Pv i σ H → g (kV k) σ H fun σ2 H2 => tb { D with nx := Pv (i + 1), ct := Pv (i + 1), bk := D.nx } σ2 H2) (hd : ∀ σ H, Pv kvs.length σ H → D.nx σ H) :
    ∃ W : Nat → Nat → L2.St → Hp → Prop, (∃ m, W 0 m σ H) ∧ ∀ i m σ H, W i m σ H →
      ((Itk d od kvs).stop i H ∧ D.nx σ H) ∨ ((Itk d od kvs).go i H ∧ ∃ N : L2.St → Hp → Prop, (∀ σ' H', N σ' H' → ∃ m', m' < m ∧ W (i + 1) m' σ' H') ∧ ∀ x H', (Itk d od kvs).yld i H x H' → g x σ H' fun σ2 H2 => tb { D with nx := N, ct := N, bk := D.nx } σ2 H2) := by
  refine ⟨fun i m σ H => m = kvs.length - i ∧ i ≤ kvs.length ∧ Pv i σ H, ⟨kvs.length, by simp, Nat.zero_le _, h0⟩, ?_⟩
  rintro i m σ H ⟨rfl, hi, p⟩
  have q := hl i σ H hi p
  by_cases hlt : i < kvs.length
  · refine .inr ⟨⟨q, hlt⟩, Pv (i + 1), fun σ' H' p' => ⟨kvs.length - (i + 1), by omega, rfl, hlt, p'⟩, fun x H' y => ?_⟩
    obtain ⟨e, k, v, y, z⟩ := y
    subst e z
    exact hs i k v σ _ y p
  · have e : i = kvs.length := by omega
    subst e
    exact .inl ⟨⟨q, Nat.le_refl _⟩, hd σ H p⟩
theorem lc_keys {d : Addr} {od : Obj} {kvs : List (Key × V)} {g : TG} {tt : TT} {te : TE} {vs : List Nat} {H1 : Hp} {D : Addr} {Qd : Hp → Prop} (Pv : Nat → Hp → Prop) (h0 : Pv 0 (upd H1 D (.lst []))) (hl : ∀ i H, i ≤ kvs.length → Pv i H → H d = some (.frz od (.dK kvs)))
    (hs : ∀ i k v H, kvs[i]? = some (k, v) → Pv i H → g (kV k) (wipe σ vs) H fun σ2 H2 => wipe σ2 vs = wipe σ vs ∧ tt σ2 H2 fun b H3 =>
      if b = true then te σ2 H3 fun y H4 => ∃ acc, H4 D = some (.lst acc) ∧ acc.length < sizeLine ∧ Pv (i + 1) (upd H4 D (.lst (acc ++ [y]))) else Pv (i + 1) H3) (hd : ∀ H, Pv kvs.length H → Qd H) :
    ∃ W : Nat → Nat → Hp → Prop, (∃ m, W 0 m (upd H1 D (.lst []))) ∧ ∀ i m H, W i m H →
      ((Itk d od kvs).stop i H ∧ Qd H) ∨ ((Itk d od kvs).go i H ∧ ∃ Nx : Hp → Prop, (∀ H', Nx H' → ∃ m', m' < m ∧ W (i + 1) m' H') ∧ ∀ x H', (Itk d od kvs).yld i H x H' → g x (wipe σ vs) H' fun σ2 H2 => wipe σ2 vs = wipe σ vs ∧ tt σ2 H2 fun b H3 =>
        if b = true then te σ2 H3 fun y H4 => ∃ acc, H4 D = some (.lst acc) ∧ acc.length < sizeLine ∧ Nx (upd H4 D (.lst (acc ++ [y]))) else Nx H3) := by
  refine ⟨fun i m H => m = kvs.length - i ∧ i ≤ kvs.length ∧ Pv i H, ⟨kvs.length, by simp, Nat.zero_le _, h0⟩, ?_⟩
  rintro i m H ⟨rfl, hi, p⟩
  have q := hl i H hi p
  by_cases hlt : i < kvs.length
  · refine .inr ⟨⟨q, hlt⟩, Pv (i + 1), fun H' p' => ⟨kvs.length - (i + 1), by omega, rfl, hlt, p'⟩, fun x H' y => ?_⟩
    obtain ⟨e, k, v, y, z⟩ := y
    subst e z
    exact hs i k v _ y p
  · have e : i = kvs.length := by omega
    subst e
    exact .inl ⟨⟨q, Nat.le_refl _⟩, hd H p⟩
end
theorem w_dget2 {td ty tx : TE} {σ : L2.St} {H : Hp} {Q : VK} (h : td σ H fun x H1 => ∃ a, x = .ref a ∧ IsD H1 a ∧ ty σ H1 fun y H2 => tx σ H2 fun z H3 => ∃ o, DGet H3 a y o ∧ Q (o.getD z) H3) : tDGet2 td ty tx σ H Q := h
theorem w_setL {H : Hp} {p : Addr} {xs : List V} {k : Int} {j : Nat} {v : V} {R : Hp → Prop} (h : H p = some (.lst xs)) (e : ixN xs.length k = some j) (q : R (upd H p (.lst (xs.set j v)))) : rSetL (.ref p) (.int k) v H R := ⟨p, xs, k, j, rfl, rfl, h, e, q⟩
theorem w_cat {H : Hp} {l b : Addr} {xs zs : List V} {Q : VK} (h1 : H l = some (.lst xs)) (h2 : H b = some (.lst zs)) (hz : xs.length + zs.length ≤ sizeLine) (k : ∀ p, H p = none → Q (.ref p) (upd H p (.lst (xs ++ zs)))) : rCat (.ref l) (.ref b) H Q := ⟨l, b, xs, zs, rfl, rfl, h1, h2, hz, k⟩
/-! ### lists of texts compared -/
theorem strOkT {x : Tx} (h : ∀ c ∈ x, c < 1114112) : PyData.strOk (mkS x) = true := by
  unfold PyData.strOk
  rw [Array.all_eq_true_iff_forall_mem]
  intro c m
  exact decide_eq_true (h c (by simpa [mkS] using m))
def dS (l : List Tx) : List PyData := l.map fun t => .str (mkS t)
theorem dS_lay : ∀ {l : List Tx}, (∀ x ∈ l, ∀ c ∈ x, c < 1114112) → PyData.canLayAll0 (dS l) = true
  | [], _ => by simp [dS, PyData.canLayAll0]
  | x :: r, h => by
    show (PyData.canLay0 (.str (mkS x)) && PyData.canLayAll0 (dS r)) = true
    rw [Bool.and_eq_true]
    exact ⟨by show PyData.strOk (mkS x) = true; exact strOkT (h x List.mem_cons_self), dS_lay fun y m => h y (List.mem_cons_of_mem _ m)⟩
theorem dS_depth : ∀ (l : List Tx), PyData.depthAll (dS l) ≤ 1
  | [] => by simp [dS, PyData.depthAll]
  | x :: r => by
    have := dS_depth r
    show PyData.depthAll (.str (mkS x) :: dS r) ≤ 1
    simp [PyData.depthAll, PyData.depth]
    omega
theorem dS_shaped {l : List Tx} (h : ∀ x ∈ l, ∀ c ∈ x, c < 1114112) : SeqAt.shaped (.list (dS l)) = true := by
  unfold SeqAt.shaped
  rw [Bool.and_eq_true]
  refine ⟨by simp only [PyData.canLay0]; exact dS_lay h, decide_eq_true ?_⟩
  have := dS_depth l
  simp [PyData.depth]
  omega
theorem dS_all {K : PySem.W.Frag} {H : Hp} : ∀ l : List Tx, DpAll K H (l.map sv) (dS l)
  | [] => .nil
  | x :: r => .cons (.str _) (dS_all r)
theorem dS_eqv : ∀ (l m : List Tx), PyData.eqvAll (dS l) (dS m) = decide (l = m)
  | [], [] => by simp [dS, PyData.eqvAll]
  | [], _ :: _ => by simp [dS, PyData.eqvAll]
  | _ :: _, [] => by simp [dS, PyData.eqvAll]
  | x :: r, y :: s => by
    have ih := dS_eqv r s
    show PyData.eqvAll (.str (mkS x) :: dS r) (.str (mkS y) :: dS s) = _
    rw [PyData.eqvAll, ih]
    simp only [PyData.eqv]
    rw [Bool.eq_iff_iff, Bool.and_eq_true, beq_iff_eq, decide_eq_true_eq, decide_eq_true_eq]
    exact ⟨fun ⟨a, b⟩ => by rw [mkS_inj' a, b], fun z => by cases z; exact ⟨rfl, rfl⟩⟩
theorem w_neT {K : PySem.W.Frag} {H : Hp} {a b : Addr} {l m : List Tx} {Q : VK} (ha : H a = some (.lst (l.map sv))) (hb : H b = some (.lst (m.map sv))) (hl : ∀ x ∈ l, ∀ c ∈ x, c < 1114112) (hm : ∀ x ∈ m, ∀ c ∈ x, c < 1114112) (k : Q (.bl (!decide (l = m))) H) : rNeD K (.ref a) (.ref b) H Q :=
  ⟨.list (dS l), .list (dS m), .lst (SqL.of ha) (dS_all l), .lst (SqL.of hb) (dS_all m), dS_shaped hl, dS_shaped hm, by
    have : PyData.eqv (.list (dS l)) (.list (dS m)) = decide (l = m) := by simp only [PyData.eqv]; exact dS_eqv l m
    rw [this]; exact k⟩
theorem w_eqT {K : PySem.W.Frag} {H : Hp} {a b : Addr} {l m : List Tx} {Q : VK} (ha : H a = some (.lst (l.map sv))) (hb : H b = some (.lst (m.map sv))) (hl : ∀ x ∈ l, ∀ c ∈ x, c < 1114112) (hm : ∀ x ∈ m, ∀ c ∈ x, c < 1114112) (k : Q (.bl (decide (l = m))) H) : rEqD K (.ref a) (.ref b) H Q :=
  ⟨.list (dS l), .list (dS m), .lst (SqL.of ha) (dS_all l), .lst (SqL.of hb) (dS_all m), dS_shaped hl, dS_shaped hm, by
    have : PyData.eqv (.list (dS l)) (.list (dS m)) = decide (l = m) := by simp only [PyData.eqv]; exact dS_eqv l m
    rw [this]; exact k⟩
/-! ### a set of texts, sorted -/
theorem srt_set {names : List Tx} {xs : List Str} (up : sortedS xs = true) (nd : xs.Nodup) (mem : ∀ x, x ∈ xs ↔ x ∈ names.map mkS) : ∃ ys : List Tx, xs = ys.map mkS ∧ (∀ y ∈ ys, y ∈ names) ∧ (names = ys ↔ names.Nodup ∧ names.Pairwise fun a b => a ≤ b) := by
  have e : xs = (xs.map tl).map mkS := by
    rw [List.map_map]
    exact (List.map_id' xs).symm.trans (List.map_congr_left fun x _ => TL.ext_tl rfl)
  have pw : (xs.map tl).Pairwise fun a b => a ≤ b := List.pairwise_map.mpr (sortedS_pair _ up)
  have nd2 : (xs.map tl).Nodup := by
    rw [e] at nd
    exact (List.pairwise_map.mp nd).imp fun h z => h (by rw [z])
  have mm : ∀ y, y ∈ xs.map tl ↔ y ∈ names := fun y => by
    constructor
    · intro h
      have : mkS y ∈ xs := by rw [e]; exact List.mem_map_of_mem h
      obtain ⟨z, hz, ez⟩ := List.mem_map.mp ((mem _).mp this)
      rw [← mkS_inj' ez]; exact hz
    · intro h
      have := (mem (mkS y)).mpr (List.mem_map_of_mem h)
      rw [e] at this
      obtain ⟨z, hz, ez⟩ := List.mem_map.mp this
      rw [← mkS_inj' ez]; exact hz
  refine ⟨xs.map tl, e, fun y h => (mm y).mp h, fun z => ?_, fun z => ?_⟩
  · rw [z]; exact ⟨nd2, pw⟩
  · have p : names.Perm (xs.map tl) := (List.perm_ext_iff_of_nodup z.1 nd2).mpr fun y => (mm y).symm
    exact List.Perm.eq_of_pairwise (fun a b _ _ h1 h2 => List.le_antisymm h1 h2) z.2 pw p
theorem cutV_pre {α : Type} {f : α → V} {l : List α} {k : Nat} : cutV (l.map f) none (some (k : Int)) = (l.take k).map f := by
  unfold cutV
  rw [HT.sIx_none, HT.sIx_nat, List.length_map, List.drop_zero, Nat.sub_zero, List.map_take]
  by_cases h : k ≤ l.length
  · rw [Nat.min_eq_left h]
  · have e1 : min k l.length = l.length := Nat.min_eq_right (by omega)
    rw [e1, List.take_of_length_le (by rw [List.length_map]; exact Nat.le_refl _), List.take_of_length_le (by rw [List.length_map]; omega)]
theorem cut_last (x : Str) : cutS x none (some (-1)) = mkS ((tl x).dropLast) := by
  have hn : x.length = (tl x).length := len_tl x
  have e : cutS x none (some (-1)) = cutS x none (some ((x.length - 1 : Nat) : Int)) := by
    have e1 : HT.sIx x.length x.length (some (-1)) = HT.sIx x.length x.length (some ((x.length - 1 : Nat) : Int)) := by
      rw [HT.sIx_nat]
      show (if (-1 : Int) < 0 then ((-1 : Int) + (x.length : Int)).toNat else min (-1 : Int).toNat x.length) = min (x.length - 1) x.length
      rw [if_pos (by decide)]
      omega
    unfold cutS
    rw [e1]
  rw [e, cut_pre, hn, ← List.dropLast_eq_take]
end K54

namespace K54
open PySem PySem.Spec PyProof.Rows L2
local macro_rules | `(tactic| array_mem_dec) => `(tactic| first | with_reducible assumption | with_reducible exact upd_same | ((with_reducible apply same_at); (with_reducible assumption); array_mem_dec) | ((with_reducible apply upd_atN); (with_reducible assumption); array_mem_dec) | ((with_reducible apply upd_at); (first | with_reducible assumption | (apply Ne.symm; with_reducible assumption)); array_mem_dec))
local macro_rules | `(tactic| array_get_dec) => `(tactic| first | (with_reducible refine w_seq ?_) | (with_reducible refine w_asg ?_) | (with_reducible refine w_drop ?_) | (with_reducible refine w_ret ?_) | (with_reducible refine w_retN ?_) | (with_reducible refine w_next ?_) | (with_reducible refine w_break ?_) | (with_reducible refine w_cont ?_) | (with_reducible refine w_ifS ?_) | (with_reducible refine w_sub ?_) | (with_reducible refine w_c ?_) | (with_reducible refine w_op ?_) | (with_reducible refine w_un ?_) | (with_reducible refine w_test ?_) | (with_reducible refine w_B ?_) | (with_reducible refine w_yes ?_) | (with_reducible refine w_not ?_) | (with_reducible refine w_and ?_) | (with_reducible refine w_or ?_) | (with_reducible refine w_andV ?_) | (with_reducible refine w_orV ?_) | (with_reducible refine w_notV ?_) | (with_reducible refine w_ifE ?_) | (with_reducible refine w_nil ?_) | (with_reducible refine w_cons ?_) | (with_reducible refine w_call ?_) | (with_reducible refine w_callS ?_) | (with_reducible refine w_cB ?_) | (with_reducible refine w_lst ?_) | (with_reducible refine w_tup ?_) | (with_reducible refine w_sl ?_) | (with_reducible refine w_noPart ?_) | (with_reducible refine w_part ?_) | (with_reducible refine w_bm ?_) | (with_reducible refine w_bm0 ?_) | (with_reducible refine w_strTy ?_) | (with_reducible refine w_bl ?_) | (with_reducible refine w_int1 ?_) | (with_reducible refine w_str1 ?_) | (with_reducible refine w_rI0 ?_) | (with_reducible refine w_rU ?_) | (with_reducible refine w_eqI ?_) | (with_reducible refine w_eqS ?_) | (with_reducible refine w_neI ?_) | (with_reducible refine w_neS ?_) | (with_reducible refine w_bl2 ?_) | (with_reducible refine w_isN ?_) | (with_reducible refine w_for ?_) | (with_reducible refine w_iRng1 ?_) | (with_reducible refine w_iRng2 ?_) | (with_reducible refine w_iList ?_) | (with_reducible refine w_iTup ?_) | (with_reducible refine w_iStr ?_) | (with_reducible refine w_lc ?_) | (with_reducible refine w_M1 ?_) | (with_reducible refine w_M0 ?_) | (with_reducible refine w_isS ?_) | ((with_reducible apply w_name); (simp only [wipe, List.map_cons, List.map_nil, List.foldl_cons, List.foldl_nil, List.set_cons_zero, List.set_cons_succ]; exact rfl)) | ((with_reducible apply w_var); exact rfl) | ((with_reducible apply w_lstTy); array_mem_dec) | ((with_reducible apply w_lenL); array_mem_dec) | ((with_reducible apply w_lenT); array_mem_dec) | ((with_reducible apply w_listOf); array_mem_dec) | ((with_reducible apply w_lenS); (first | (with_reducible assumption) | omega | (rw [sizeLine_eq]; omega))) | ((with_reducible apply w_slS); (first | (with_reducible assumption) | omega | (rw [sizeLine_eq]; omega))) | ((with_reducible apply w_wipe); exact rfl) | ((with_reducible apply w_acc); array_mem_dec; (try (first | (with_reducible assumption) | omega | (rw [sizeLine_eq]; omega)))) | ((with_reducible apply w_itl); array_mem_dec) | ((with_reducible apply w_itt); array_mem_dec) | ((with_reducible apply w_append); array_mem_dec; (try (first | (with_reducible assumption) | omega | (rw [sizeLine_eq]; omega)))) | ((with_reducible apply w_rng1); (first | (with_reducible assumption) | omega); (first | (with_reducible assumption) | omega)) | ((with_reducible apply w_ixL); array_mem_dec; (first | (with_reducible assumption) | exact rfl | (apply atI_nat; (with_reducible assumption)) | exact atI_last _ _)) | ((with_reducible apply w_ixT); array_mem_dec; (first | (with_reducible assumption) | exact rfl | (apply atI_nat; (with_reducible assumption)) | exact atI_last _ _)) | ((with_reducible apply w_iT); first | exact rfl | (with_reducible assumption)) | ((with_reducible apply w_iF); first | exact rfl | (with_reducible assumption)) | ((with_reducible apply w_isiI (b := true)); decide +kernel) | ((with_reducible apply w_isiI (b := false)); decide +kernel) | ((with_reducible apply w_isiB (b := true)); decide +kernel) | ((with_reducible apply w_isiB (b := false)); decide +kernel) | ((with_reducible apply w_isiS (b := true)); decide +kernel) | ((with_reducible apply w_isiS (b := false)); decide +kernel) | ((with_reducible apply w_isiN (b := true)); decide +kernel) | ((with_reducible apply w_isiN (b := false)); decide +kernel) | ((with_reducible apply w_isiL (b := true)); array_mem_dec; decide +kernel) | ((with_reducible apply w_isiL (b := false)); array_mem_dec; decide +kernel) | ((with_reducible apply w_isiT (b := true)); array_mem_dec; decide +kernel) | ((with_reducible apply w_isiT (b := false)); array_mem_dec; decide +kernel) | (with_reducible refine w_notT ?_) | (with_reducible refine w_chain ?_) | ((with_reducible apply w_trL); array_mem_dec) | ((with_reducible apply w_gTup); array_mem_dec; exact rfl) | ((with_reducible apply w_gLst); array_mem_dec; exact rfl) | (with_reducible refine w_gCons ?_) | (with_reducible refine w_gNil ?_) | (with_reducible refine w_Fld ?_) | (with_reducible refine w_sFld ?_) | (with_reducible refine w_dget ?_) | (with_reducible refine w_dIn ?_) | (with_reducible refine w_dNotIn ?_) | (with_reducible refine w_sDPut ?_) | (with_reducible refine w_dnewK ?_) | (with_reducible refine w_meth ?_) | (with_reducible refine w_make ?_) | (with_reducible refine w_methS ?_) | (with_reducible refine w_makeS ?_) | (with_reducible refine w_dpop ?_) | ((with_reducible apply w_fld1); array_mem_dec; (with_reducible assumption); (with_reducible assumption); exact rfl) | ((with_reducible apply w_sfld1); array_mem_dec; (with_reducible assumption); (with_reducible assumption); exact Nat.le_of_ble_eq_true rfl) | ((with_reducible apply w_meth1); array_mem_dec; exact rfl) | ((with_reducible apply w_dgetS); array_mem_dec; (with_reducible assumption)) | ((with_reducible apply w_dgetI); array_mem_dec; (with_reducible assumption)) | ((with_reducible apply w_dinS); array_mem_dec) | ((with_reducible apply w_dputI); array_mem_dec; (try (first | (with_reducible assumption) | omega | (rw [sizeLine_eq]; omega)))) | ((with_reducible apply w_dputS); array_mem_dec; (try (first | (with_reducible assumption) | omega | (rw [sizeLine_eq]; omega)))) | ((with_reducible apply w_isD); array_mem_dec) | ((with_reducible apply w_dictD); array_mem_dec) | ((with_reducible apply w_dpopS); array_mem_dec; (with_reducible assumption)) | ((with_reducible apply w_setL); array_mem_dec; exact rfl) | ((with_reducible apply w_cat); array_mem_dec; array_mem_dec; (try (first | (with_reducible assumption) | omega | (rw [sizeLine_eq]; omega)))) | (with_reducible refine w_iKeys ?_) | (with_reducible refine w_dget2 ?_) | (with_reducible refine w_scX ?_) | ((with_reducible apply w_keysF); array_mem_dec) | ((with_reducible apply w_dgetSF); array_mem_dec; (with_reducible assumption)))
/-! ### tears -/
inductive Tear
  | three (x : Tx) (s : Int) (v : IB)
  | two (a b : Int)
def tupT : Tear → List V
  | .three x s v => [sv x, .int s, vIB v]
  | .two a b => [.int a, .int b]
def TeAt (H : Hp) : List Addr → List Tear → Prop
  | [], [] => True
  | t :: ts, c :: cs => H t = some (.tup (tupT c)) ∧ TeAt H ts cs
  | _, _ => False
theorem TeAt.keep {H H' : Hp} : ∀ {ts : List Addr} {cs : List Tear}, TeAt H ts cs → (∀ t xs, H t = some (.tup xs) → H' t = some (.tup xs)) → TeAt H' ts cs
  | [], [], _, _ => trivial
  | t :: ts, c :: cs, h, k => ⟨k t _ h.1, TeAt.keep h.2 k⟩
  | [], _ :: _, h, _ => h.elim
  | _ :: _, [], h, _ => h.elim
theorem TeAt.len {H : Hp} : ∀ {ts : List Addr} {cs : List Tear}, TeAt H ts cs → ts.length = cs.length
  | [], [], _ => rfl
  | t :: ts, c :: cs, h => by rw [List.length_cons, List.length_cons, TeAt.len h.2]
  | [], _ :: _, h => h.elim
  | _ :: _, [], h => h.elim
theorem TeAt.get {H : Hp} : ∀ {ts : List Addr} {cs : List Tear} (i : Nat) {t : Addr}, TeAt H ts cs → ts[i]? = some t → ∃ c, cs[i]? = some c ∧ H t = some (.tup (tupT c))
  | [], [], _, _, _, e => by simp at e
  | u :: ts, d :: cs, 0, t, h, e => by
    simp at e
    subst e
    exact ⟨d, rfl, h.1⟩
  | u :: ts, d :: cs, i + 1, t, h, e => by
    obtain ⟨c, a, b⟩ := TeAt.get i h.2 (t := t) (by simpa using e)
    exact ⟨c, by simpa using a, b⟩
  | [], _ :: _, _, _, h, _ => h.elim
  | _ :: _, [], _, _, h, _ => h.elim
theorem TeAt.snoc {H : Hp} {t : Addr} {c : Tear} : ∀ {ts : List Addr} {cs : List Tear}, TeAt H ts cs → H t = some (.tup (tupT c)) → TeAt H (ts ++ [t]) (cs ++ [c])
  | [], [], _, e => ⟨e, trivial⟩
  | u :: ts, d :: cs, h, e => ⟨h.1, TeAt.snoc h.2 e⟩
  | [], _ :: _, h, _ => h.elim
  | _ :: _, [], h, _ => h.elim
def isTwo : Tear → Bool
  | .two _ _ => true
  | _ => false
def nameT : Tear → Tx
  | .three x _ _ => x
  | _ => []
def okTear (D : DS) : Tear → Prop
  | .three x s v => (∃ i, getA D.names x = some i ∧ (inIB (lateD D i).length (.int s)).isSome = true) ∧ ∃ b, v = .bl b ∧ ¬ (b = true ∧ s = 0)
  | .two _ _ => False
def okNms (l : List Tx) : Prop := l.Nodup ∧ l.Pairwise fun a b => a ≤ b
def okTears (D : DS) (c : IB) (trs : List Tear) : Prop := (inIB D.ch.length c).isSome = true ∧ (∀ t ∈ trs, isTwo t = false) ∧ okNms (trs.map nameT) ∧ ∀ t ∈ trs, okTear D t
def spChkT (CD CP : Addr) : Sp := fun vs H Q E => ∃ (a : Addr) (fp : List Addr) (D : DS) (ch : IB) (c : Addr) (ts : List Addr) (trs : List Tear), vs = [.ref a, vIB ch, .ref c] ∧ DiskAt CD H a fp D ∧ H c = some (.lst (ts.map V.ref)) ∧ TeAt H ts trs ∧ trs.length < 64 ∧ c ∉ fp ∧
  (∀ t ∈ trs, ∀ k ∈ nameT t, k < 1114112) ∧
  (okTears D ch trs → ∀ p H', Same H H' → H p = none → H' p = some (.lst (ts.map V.ref)) → Q (.ref p) H') ∧ (¬ okTears D ch trs → ∀ H', Same H H' → E (.ref CP) none H')
theorem upd_atS {H H' : Hp} {A : Addr} (hA : H A = none) (k : ∀ b o, b ≠ A → H b = some o → H' b = some o) : Same H H' := fun b o e => k b o (fun z => by rw [z, hA] at e; cases e) e
theorem getE_map {α : Type} {f : α → V} {l : List α} {i : Nat} {v : V} (h : (l.map f)[i]? = some v) : ∃ t, l[i]? = some t ∧ v = f t := by
  rw [List.getElem?_map] at h
  cases e : l[i]? with
  | none => rw [e] at h; cases h
  | some t => rw [e] at h; exact ⟨t, rfl, (Option.some.inj h).symm⟩
section
variable {P : Program} {w : World} {K : PySem.W.Frag} {mg : Str → Option Value} {base : Heap}
theorem ok_checked_tears (M : Nms K mg) : FnOk P w K mg base (L2N.CX P w) 3 M.a_checked_tears M.d_checked_tears ["disk", "changes", "tears"] (spChkT M.CD M.CP) := by
  refine M.F_checked_tears.okN sc_checked_tears (fun vs H Q E h => ?_) (fun cdv A outer s H vs Q E hr h => ?_)
  · obtain ⟨a, fp, D, ch, c, ts, trs, rfl, _⟩ := h
    rfl
  · have hu := hu1 hr
    have clD := M.clD
    have nD_kept := M.nD_kept
    have nD_late := M.nD_late
    have nD_names := M.nD_names
    have nD_sure := M.nD_sure
    have nD_changes := M.nD_changes
    have nD_next := M.nD_next
    refine ⟨_, (pss_cons (ps_if (pt_not (pt_val (pe_call (ok_is_number M) (hr.mono (by decide)) rfl M.g_is_number M.k_is_number M.b_is_number .nil pass0 (pa_cons (pv 1) (pa_cons pe_int (pa_cons (pe_meth0 (pv 0) M.clD M.m_Disk_late_changes (ok_Disk_late_changes M) (hr.mono (by decide)) M.b_Disk_late_changes .nil pass0) pa_nil)))))) (pss_one (L2N.ps_raise rfl (L2N.takes_of rfl rfl rfl rfl) (L2N.pmk_own PySem.F.excBase_ValueError M.XP.xP M.XP.gP M.XP.kP (raises_own M.XP.bP M.XP.tP) rfl))) pss_nil)
    (pss_cons (ps_if (PW.pt (pw_or (pt_truth (pe_lc (own := [("row", 3)]) rfl sc_checked_tears.nd (pi_list (pv 2)) (blkOk_by (N := ["disk", "changes", "tears", "row", "name", "signs", "spoilt"]) (sc := defScope s_checked_tears) (own := [("row", 3)]) (by decide +kernel)) (fun _ _ _ _ _ => (pg_name (i := 3) sc_checked_tears.nd rfl (Or.inl rfl))) (fun _ _ _ _ _ => pts_one (pt_cmpR op_ne (pe_callB (id := "len") (r := fun xs H Q => ∃ x n, xs = [x] ∧ LenV K x H n ∧ Q (V.int ((n : Nat) : Int)) H) call_len (by rfl) M.T.b_len (by decide +kernel) (pa_cons (pv 3) pa_nil)) pe_int (nomark _))) (fun _ _ _ _ _ => (pv 3))) (by intro _; rfl)) (pw_or1 (pt_cmpR (r := rNeD K) (op_neD hr.units) (pe_lc (own := [("row", 3)]) rfl sc_checked_tears.nd (pi_list (pv 2)) (blkOk_by (N := ["disk", "changes", "tears", "row", "name", "signs", "spoilt"]) (sc := defScope s_checked_tears) (own := [("row", 3)]) (by decide +kernel)) (fun _ _ _ _ _ => (pg_name (i := 3) sc_checked_tears.nd rfl (Or.inl rfl))) (fun _ _ _ _ _ => pts_nil) (fun _ _ _ _ _ => (pe_ix (r := rIxT K) ix_tup (pv 3) pe_int (fun _ _ => rfl)))) (pe_callB (TxtSet.cr_sortedX rfl) (by rfl) M.T.b_sorted (by decide +kernel) (pa_cons (TxtSet.pe_scX (own := [("row", 3)]) rfl sc_checked_tears.nd (pi_list (pv 2)) (blkOk_by (N := ["disk", "changes", "tears", "row", "name", "signs", "spoilt"]) (sc := defScope s_checked_tears) (own := [("row", 3)]) (by decide +kernel)) (fun _ _ _ _ _ => (pg_name (i := 3) sc_checked_tears.nd rfl (Or.inl rfl))) (fun _ _ _ _ _ => pts_nil) (fun _ _ _ _ _ => (pe_ix (r := rIxT K) ix_tup (pv 3) pe_int (fun _ _ => rfl)))) pa_nil)) (nomark _))))) (pss_one (L2N.ps_raise rfl (L2N.takes_of rfl rfl rfl rfl) (L2N.pmk_own PySem.F.excBase_ValueError M.XP.xP M.XP.gP M.XP.kP (raises_own M.XP.bP M.XP.tP) rfl))) pss_nil)
    (pss_cons (ps_for (passes_of rfl) rfl (pi_list (pv 2)) (pg_tup rfl (pgs_cons (pg_name (i := 4) sc_checked_tears.nd rfl (Or.inl rfl)) (pgs_cons (pg_name (i := 5) sc_checked_tears.nd rfl (Or.inl rfl)) (pgs_cons (pg_name (i := 6) sc_checked_tears.nd rfl (Or.inl rfl)) pgs_nil)))) (pss_cons (ps_if (PW.pt (pw_or (pt_not (pt_val (pe_meth (pv 0) M.clD M.m_Disk_has (ok_Disk_has M) (hr.mono (by decide)) M.b_Disk_has .nil pass0 (pa_cons (pv 4) pa_nil)))) (pw_or1 (pt_not (pt_val (pe_call (ok_is_number M) (hr.mono (by decide)) rfl M.g_is_number M.k_is_number M.b_is_number .nil pass0 (pa_cons (pv 5) (pa_cons pe_int (pa_cons (pe_methS1 (pv 0) M.clD M.m_Disk_late_size (ok_Disk_late_size M) (hr.mono (by decide)) M.b_Disk_late_size (fun σ => L2N.passAt (L2N.takes_of rfl rfl rfl rfl) σ) (pa_cons (pv 4) pa_nil)) pa_nil))))))))) (pss_one (L2N.ps_raise rfl (L2N.takes_of rfl rfl rfl rfl) (L2N.pmk_own PySem.F.excBase_ValueError M.XP.xP M.XP.gP M.XP.kP (raises_own M.XP.bP M.XP.tP) rfl))) pss_nil)
    (pss_one (ps_if (PW.pt (pw_or (pt_not (pt_val (pe_callB call_isi (by rfl) M.T.b_isinstance (by decide +kernel) (pa_cons (pv 6) (pa_cons (pe_bltn (v := .ty "bool") (u := .type "bool") (by rfl) M.T.b_bool (by decide +kernel) rfl) pa_nil))))) (pw_or1 (PW.pt (pw_and (pt_val (pv 6)) (pw_and1 (pt_cmpR op_eq (pv 5) pe_int (nomark _)))))))) (pss_one (L2N.ps_raise rfl (L2N.takes_of rfl rfl rfl rfl) (L2N.pmk_own PySem.F.excBase_ValueError M.XP.xP M.XP.gP M.XP.kP (raises_own M.XP.bP M.XP.tP) rfl))) pss_nil))))
    (pss_one (ps_ret (pe_callTy call_list_of (by rfl) M.T.b_list (by decide +kernel) (pa_cons (pv 2) pa_nil))))))), ?_⟩
    try dsimp only [cxOf, Cx.nox]
    obtain ⟨a, fp, D, ch, c, ts, trs, rfl, dk, hc, te, h60, ncf, na, q, ke⟩ := h
    obtain ⟨⟨k0, l0, n0, sa0, c0, ts0, efp, ⟨_, ⟨dx0, hi⟩, _, _, _, _, _, _, sm⟩⟩, wfd⟩ := id dk
    refine w_start (σ' := [some (.ref a), some (vIB ch), some (.ref c), none, none, none, none]) rfl ?_
    have tl := te.len
    (repeat array_get_dec)
    refine ⟨a, fp, D, rfl, dk.1, ?_⟩
    (repeat array_get_dec)
    refine ⟨ch, D.ch.length, rfl, ?_⟩
    (repeat array_get_dec)
    cases hch : (inIB D.ch.length ch).isSome with
    | false =>
      refine iteT' rfl ?_
      (repeat array_get_dec)
      exact ke (fun z => by rw [z.1] at hch; cases hch) _ (Same.refl _)
    | true =>
      refine iteF' rfl ?_
      (repeat array_get_dec)
      intro A1 hA1
      refine lc_list (K := K) (a := c) (xs := ts.map V.ref) (fun i H' => H' A1 = some (.lst (((ts.zip trs).take i |>.filter fun p => isTwo p.2).map fun p => V.ref p.1)) ∧ ∀ b o, b ≠ A1 → H b = some o → H' b = some o) ⟨by rw [upd_same]; rfl, fun b o nb e => by rw [upd_ne nb]; exact e⟩ ?_ ?_ ?_
      · rintro i H' hi ⟨h1, h2⟩
        exact SqL.of (h2 _ _ (ne_of_none hc hA1) hc)
      · rintro i v H' hv ⟨h1, h2⟩
        obtain ⟨t, ht, rfl⟩ := getE_map hv
        obtain ⟨tr, htr, htt⟩ := te.get i ht
        have htt' := h2 _ _ (ne_of_none htt hA1) htt
        have ez : (ts.zip trs)[i]? = some (t, tr) := by rw [List.getElem?_zip_eq_some]; exact ⟨ht, htr⟩
        have tk : (ts.zip trs).take (i + 1) = (ts.zip trs).take i ++ [(t, tr)] := take_one ez
        have lz : ((((ts.zip trs).take i).filter fun p => isTwo p.2).map fun p => V.ref p.1).length < sizeLine := by
          rw [List.length_map]
          have := List.length_filter_le (fun p : Addr × Tear => isTwo p.2) ((ts.zip trs).take i)
          rw [List.length_take, List.length_zip] at this
          rw [sizeLine_eq]; omega
        cases tr with
        | three x s2 v2 =>
          unfold tupT at htt'
          (repeat array_get_dec)
          refine ⟨by rw [tk, List.filter_append, h1]; simp [isTwo], h2⟩
        | two x y =>
          unfold tupT at htt'
          (repeat array_get_dec)
          refine ⟨by rw [upd_same, tk, List.filter_append, List.map_append]; rfl, fun b o nb e => by rw [upd_ne nb]; exact h2 b o nb e⟩
      · rintro H1 ⟨h1, h2⟩
        have s1 := upd_atS hA1 h2
        have zf : (ts.zip trs).take (ts.map V.ref).length = ts.zip trs := List.take_of_length_le (by rw [List.length_zip, List.length_map]; omega)
        rw [zf] at h1
        refine ⟨_, .inl ⟨_, SqL.of h1, rfl⟩, ?_⟩
        by_cases two : ∀ t ∈ trs, isTwo t = false
        · have ez : (((ts.zip trs).filter fun p => isTwo p.2).map fun p => V.ref p.1) = [] := by
            rw [List.map_eq_nil_iff, List.filter_eq_nil_iff]
            rintro ⟨t, tr⟩ m
            have := two tr (List.of_mem_zip m).2
            simp [this]
          rw [ez]
          refine iteF' rfl ?_
          have th : ∀ (i : Nat) (t : Addr), ts[i]? = some t → ∃ x s2 v2, trs[i]? = some (.three x s2 v2) ∧ H t = some (.tup [sv x, .int s2, vIB v2]) := fun i t ht => by
            obtain ⟨tr, htr, htt⟩ := te.get i ht
            cases tr with
            | three x s2 v2 => exact ⟨x, s2, v2, htr, htt⟩
            | two x y => have := two _ (List.mem_of_getElem? htr); cases this
          have hc1 := s1 _ _ hc
          (repeat array_get_dec)
          intro A2 hA2
          refine lc_list (K := K) (a := c) (xs := ts.map V.ref) (fun i H' => H' A2 = some (.lst (((trs.take i).map nameT).map sv)) ∧ ∀ b o, b ≠ A2 → H1 b = some o → H' b = some o) ⟨by rw [upd_same]; rfl, fun b o nb e => by rw [upd_ne nb]; exact e⟩ ?_ ?_ ?_
          · rintro i H' hi ⟨h3, h4⟩
            exact SqL.of (h4 _ _ (ne_of_none hc1 hA2) hc1)
          · rintro i v H' hv ⟨h3, h4⟩
            obtain ⟨t, ht, rfl⟩ := getE_map hv
            obtain ⟨x, s2, v2, htr, htt⟩ := th i t ht
            have htt' := h4 _ _ (ne_of_none (s1 _ _ htt) hA2) (s1 _ _ htt)
            have lz : (((trs.take i).map nameT).map sv).length < sizeLine := by
              rw [List.length_map, List.length_map, List.length_take, sizeLine_eq]; omega
            (repeat array_get_dec)
            refine ⟨by rw [upd_same, take_one htr, List.map_append, List.map_append]; rfl, fun b o nb e => by rw [upd_ne nb]; exact h4 b o nb e⟩
          · rintro H2 ⟨h3, h4⟩
            have s2 := upd_atS hA2 h4
            have hc2 := s2 _ _ hc1
            have ln : (ts.map V.ref).length = trs.length := by rw [List.length_map, tl]
            rw [ln, List.take_length] at h3
            (repeat array_get_dec)
            intro A3 hA3
            refine TxtSet.scX_list (K := K) (a := c) (xs := ts.map V.ref) (fun i H' => (∃ S m, H' A3 = some (TxtSet.SetXO w A3 S m) ∧ (∀ x, S x = true ↔ x ∈ ((trs.take i).map nameT).map mkS) ∧ m ≤ i) ∧ ∀ b o, b ≠ A3 → H2 b = some o → H' b = some o) ⟨⟨_, _, upd_same, fun x => ⟨fun z => (by cases z), fun z => (by simp at z)⟩, Nat.le_refl _⟩, fun b o nb e => by rw [upd_ne nb]; exact e⟩ ?_ ?_ ?_
            · rintro i H' hi ⟨h5, h6⟩
              exact SqL.of (h6 _ _ (ne_of_none hc2 hA3) hc2)
            · rintro i v H' hv ⟨⟨S, m, h5, h5a, h5b⟩, h6⟩
              obtain ⟨t, ht, rfl⟩ := getE_map hv
              obtain ⟨x, s3, v3, htr, htt⟩ := th i t ht
              have htt' := h6 _ _ (ne_of_none (s2 _ _ (s1 _ _ htt)) hA3) (s2 _ _ (s1 _ _ htt))
              have li : i < trs.length := (List.getElem?_eq_some_iff.mp htr).1
              (repeat array_get_dec)
              refine ⟨mkS x, S, m, rfl, h5, by unfold scanBound; omega, ⟨_, _, upd_same, fun y => ?_, ?_⟩, fun b o nb e => by rw [upd_ne nb]; exact h6 b o nb e⟩
              · unfold TxtSet.grow
                rw [take_one htr, List.map_append, List.map_append, List.mem_append, Bool.or_eq_true, h5a y]
                simp [nameT]
              · unfold TxtSet.grown
                split <;> omega
            · rintro H3 ⟨⟨S, m, h5, h5a, h5b⟩, h6⟩
              rw [ln, List.take_length] at h5a
              have s3 := upd_atS hA3 h6
              (repeat array_get_dec)
              refine ⟨A3, S, m, rfl, h5, by omega, fun xs r up nd mem len hr2 => ?_⟩
              obtain ⟨ys, rfl, yn, yeq⟩ := srt_set (names := trs.map nameT) up nd fun x => (mem x).trans (h5a x)
              have e3 : H3 A2 = some (.lst ((trs.map nameT).map sv)) := s3 _ _ h3
              have nmOk : ∀ x ∈ trs.map nameT, ∀ c ∈ x, c < 1114112 := fun x m => by
                obtain ⟨t, mt, rfl⟩ := List.mem_map.mp m
                exact na t mt
              refine w_neT (l := trs.map nameT) (m := ys) (upd_atN hr2 e3) (by rw [upd_same, List.map_map]; rfl) nmOk (fun x m => nmOk x (yn x m)) ?_
              have s4 : Same H (upd H3 r (.lst ((ys.map mkS).map V.str))) := fun b o e => upd_atN hr2 (s3 _ _ (s2 _ _ (s1 _ _ e)))
              have hc4 := s4 _ _ hc
              have dk4 := dk.same s4
              have hi4 := s4 _ _ hi
              generalize upd H3 r (.lst ((ys.map mkS).map V.str)) = H4 at *
              (repeat array_get_dec)
              by_cases en : trs.map nameT = ys
              · have okn := yeq.mp en
                rw [decide_eq_true en]
                refine iteF' rfl ?_
                (repeat array_get_dec)
                refine for_list (K := K) (a := c) (xs := ts.map V.ref) (fun i σ H' => ∃ v4 v5 v6, σ = [some (.ref a), some (vIB ch), some (.ref c), none, v4, v5, v6] ∧ H' = H4 ∧ ∀ t ∈ trs.take i, okTear D t) ⟨_, _, _, rfl, rfl, fun t m => by simp at m⟩ ?_ ?_ ?_
                · rintro i σ H' hi ⟨v4, v5, v6, rfl, rfl, _⟩
                  exact SqL.of hc4
                · rintro i v σ H' hv ⟨v4, v5, v6, rfl, rfl, okl⟩
                  obtain ⟨t, ht, rfl⟩ := getE_map hv
                  obtain ⟨x, s5, v7, htr, htt⟩ := th i t ht
                  have htt' := s4 _ _ htt
                  have bad : ¬ okTear D (.three x s5 v7) → E (.ref M.CP) none H' := fun z => ke (fun y => z (y.2.2.2 _ (List.mem_of_getElem? htr))) _ s4
                  have good : okTear D (.three x s5 v7) → ∀ t ∈ trs.take (i + 1), okTear D t := fun z u m => by
                    rw [take_one htr] at m
                    rcases List.mem_append.mp m with m | m
                    · exact okl u m
                    · simp at m
                      subst m
                      exact z
                  (repeat array_get_dec)
                  refine ⟨a, fp, D, x, rfl, dk4.1, ?_⟩
                  (repeat array_get_dec)
                  cases hx : getA D.names x with
                  | none =>
                    unfold hasA
                    rw [hx]
                    refine iteT' rfl ?_
                    (repeat array_get_dec)
                    exact bad fun z => by obtain ⟨⟨i, z, _⟩, _⟩ := z; rw [hx] at z; cases z
                  | some j =>
                    unfold hasA
                    rw [hx]
                    refine iteF' rfl ?_
                    (repeat array_get_dec)
                    refine ⟨a, fp, D, x, rfl, dk4, ?_⟩
                    rw [hx]
                    dsimp only [look]
                    (repeat array_get_dec)
                    refine ⟨.int s5, (lateD D j).length, rfl, ?_⟩
                    (repeat array_get_dec)
                    cases hn : (inIB (lateD D j).length (.int s5)).isSome with
                    | false =>
                      refine iteT' rfl ?_
                      (repeat array_get_dec)
                      exact bad fun z => by
                        obtain ⟨⟨i, z1, z2⟩, _⟩ := z
                        rw [hx] at z1
                        cases z1
                        rw [z2] at hn
                        cases hn
                    | true =>
                      refine iteF' rfl ?_
                      (repeat array_get_dec)
                      cases v7 with
                      | int v7 =>
                        unfold vIB
                        (repeat array_get_dec)
                        exact bad fun z => by
                          obtain ⟨_, b, z, _⟩ := z
                          cases z
                      | bl b =>
                        unfold vIB
                        (repeat array_get_dec)
                        cases b with
                        | false =>
                          refine iteF' rfl ?_
                          refine iteF' rfl ?_
                          (repeat array_get_dec)
                          exact ⟨_, _, _, rfl, rfl, good ⟨⟨j, hx, hn⟩, false, rfl, fun z => by cases z.1⟩⟩
                        | true =>
                          refine iteT' rfl ?_
                          (repeat array_get_dec)
                          by_cases h0 : s5 = 0
                          · refine iteT' (decide_eq_true (by rw [h0])) ?_
                            (repeat array_get_dec)
                            exact bad fun z => by
                              obtain ⟨_, b, z1, z2⟩ := z
                              cases z1
                              exact z2 ⟨rfl, h0⟩
                          · refine iteF' (decide_eq_false fun z => h0 (V.int.inj z)) ?_
                            (repeat array_get_dec)
                            exact ⟨_, _, _, rfl, rfl, good ⟨⟨j, hx, hn⟩, true, rfl, fun z => h0 z.2⟩⟩
                · rintro σ H' ⟨v4, v5, v6, rfl, rfl, okl⟩
                  rw [ln, List.take_length] at okl
                  (repeat array_get_dec)
                  intro p hp
                  (repeat array_get_dec)
                  exact q ⟨hch, two, okn, okl⟩ p _ (fun b o e => upd_atN hp (s4 _ _ e)) (by
                    cases e : H p with
                    | none => rfl
                    | some o => rw [s4 _ _ e] at hp; cases hp) upd_same
              · rw [decide_eq_false en]
                refine iteT' rfl ?_
                (repeat array_get_dec)
                exact ke (fun z => en (yeq.mpr z.2.2.1)) _ s4
        · have ez : (((ts.zip trs).filter fun p => isTwo p.2).map fun p => V.ref p.1).isEmpty = false := by
            rw [List.isEmpty_eq_false_iff]
            intro z
            rw [List.map_eq_nil_iff, List.filter_eq_nil_iff] at z
            apply two
            intro tr m
            obtain ⟨i, hi⟩ := List.getElem?_of_mem m
            have li : i < ts.length := by rw [tl]; exact (List.getElem?_eq_some_iff.mp hi).1
            have := z (ts[i], tr) (List.mem_of_getElem? (i := i) (by rw [List.getElem?_zip_eq_some]; exact ⟨List.getElem?_eq_getElem li, hi⟩))
            simpa using this
          rw [ez]
          refine iteT' rfl ?_
          (repeat array_get_dec)
          exact ke (fun z => two z.2.1) _ s1
end
end K54

namespace K54
open PySem PySem.Spec PyProof.Rows L2
local macro_rules | `(tactic| array_mem_dec) => `(tactic| first | with_reducible assumption | with_reducible exact upd_same | ((with_reducible apply same_at); (with_reducible assumption); array_mem_dec) | ((with_reducible apply upd_atN); (with_reducible assumption); array_mem_dec) | ((with_reducible apply upd_at); (first | with_reducible assumption | (apply Ne.symm; with_reducible assumption)); array_mem_dec))
local macro_rules | `(tactic| array_get_dec) => `(tactic| first | (with_reducible refine w_seq ?_) | (with_reducible refine w_asg ?_) | (with_reducible refine w_drop ?_) | (with_reducible refine w_ret ?_) | (with_reducible refine w_retN ?_) | (with_reducible refine w_next ?_) | (with_reducible refine w_break ?_) | (with_reducible refine w_cont ?_) | (with_reducible refine w_ifS ?_) | (with_reducible refine w_sub ?_) | (with_reducible refine w_c ?_) | (with_reducible refine w_op ?_) | (with_reducible refine w_un ?_) | (with_reducible refine w_test ?_) | (with_reducible refine w_B ?_) | (with_reducible refine w_yes ?_) | (with_reducible refine w_not ?_) | (with_reducible refine w_and ?_) | (with_reducible refine w_or ?_) | (with_reducible refine w_andV ?_) | (with_reducible refine w_orV ?_) | (with_reducible refine w_notV ?_) | (with_reducible refine w_ifE ?_) | (with_reducible refine w_nil ?_) | (with_reducible refine w_cons ?_) | (with_reducible refine w_call ?_) | (with_reducible refine w_callS ?_) | (with_reducible refine w_cB ?_) | (with_reducible refine w_lst ?_) | (with_reducible refine w_tup ?_) | (with_reducible refine w_sl ?_) | (with_reducible refine w_noPart ?_) | (with_reducible refine w_part ?_) | (with_reducible refine w_bm ?_) | (with_reducible refine w_bm0 ?_) | (with_reducible refine w_strTy ?_) | (with_reducible refine w_bl ?_) | (with_reducible refine w_int1 ?_) | (with_reducible refine w_str1 ?_) | (with_reducible refine w_rI0 ?_) | (with_reducible refine w_rU ?_) | (with_reducible refine w_eqI ?_) | (with_reducible refine w_eqS ?_) | (with_reducible refine w_neI ?_) | (with_reducible refine w_neS ?_) | (with_reducible refine w_bl2 ?_) | (with_reducible refine w_isN ?_) | (with_reducible refine w_for ?_) | (with_reducible refine w_iRng1 ?_) | (with_reducible refine w_iRng2 ?_) | (with_reducible refine w_iList ?_) | (with_reducible refine w_iTup ?_) | (with_reducible refine w_iStr ?_) | (with_reducible refine w_lc ?_) | (with_reducible refine w_M1 ?_) | (with_reducible refine w_M0 ?_) | (with_reducible refine w_isS ?_) | ((with_reducible apply w_name); (simp only [wipe, List.map_cons, List.map_nil, List.foldl_cons, List.foldl_nil, List.set_cons_zero, List.set_cons_succ]; exact rfl)) | ((with_reducible apply w_var); exact rfl) | ((with_reducible apply w_lstTy); array_mem_dec) | ((with_reducible apply w_lenL); array_mem_dec) | ((with_reducible apply w_lenT); array_mem_dec) | ((with_reducible apply w_listOf); array_mem_dec) | ((with_reducible apply w_lenS); (first | (with_reducible assumption) | omega | (rw [sizeLine_eq]; omega))) | ((with_reducible apply w_slS); (first | (with_reducible assumption) | omega | (rw [sizeLine_eq]; omega))) | ((with_reducible apply w_wipe); exact rfl) | ((with_reducible apply w_acc); array_mem_dec; (try (first | (with_reducible assumption) | omega | (rw [sizeLine_eq]; omega)))) | ((with_reducible apply w_itl); array_mem_dec) | ((with_reducible apply w_itt); array_mem_dec) | ((with_reducible apply w_append); array_mem_dec; (try (first | (with_reducible assumption) | omega | (rw [sizeLine_eq]; omega)))) | ((with_reducible apply w_rng1); (first | (with_reducible assumption) | omega); (first | (with_reducible assumption) | omega)) | ((with_reducible apply w_ixL); array_mem_dec; (first | (with_reducible assumption) | exact rfl | (apply atI_nat; (with_reducible assumption)) | exact atI_last _ _)) | ((with_reducible apply w_ixT); array_mem_dec; (first | (with_reducible assumption) | exact rfl | (apply atI_nat; (with_reducible assumption)) | exact atI_last _ _)) | ((with_reducible apply w_iT); first | exact rfl | (with_reducible assumption)) | ((with_reducible apply w_iF); first | exact rfl | (with_reducible assumption)) | ((with_reducible apply w_isiI (b := true)); decide +kernel) | ((with_reducible apply w_isiI (b := false)); decide +kernel) | ((with_reducible apply w_isiB (b := true)); decide +kernel) | ((with_reducible apply w_isiB (b := false)); decide +kernel) | ((with_reducible apply w_isiS (b := true)); decide +kernel) | ((with_reducible apply w_isiS (b := false)); decide +kernel) | ((with_reducible apply w_isiN (b := true)); decide +kernel) | ((with_reducible apply w_isiN (b := false)); decide +kernel) | ((with_reducible apply w_isiL (b := true)); array_mem_dec; decide +kernel) | ((with_reducible apply w_isiL (b := false)); array_mem_dec; decide +kernel) | ((with_reducible apply w_isiT (b := true)); array_mem_dec; decide +kernel) | ((with_reducible apply w_isiT (b := false)); array_mem_dec; decide +kernel) | (with_reducible refine w_notT ?_) | (with_reducible refine w_chain ?_) | ((with_reducible apply w_trL); array_mem_dec) | ((with_reducible apply w_gTup); array_mem_dec; exact rfl) | ((with_reducible apply w_gLst); array_mem_dec; exact rfl) | (with_reducible refine w_gCons ?_) | (with_reducible refine w_gNil ?_) | (with_reducible refine w_Fld ?_) | (with_reducible refine w_sFld ?_) | (with_reducible refine w_dget ?_) | (with_reducible refine w_dIn ?_) | (with_reducible refine w_dNotIn ?_) | (with_reducible refine w_sDPut ?_) | (with_reducible refine w_dnewK ?_) | (with_reducible refine w_meth ?_) | (with_reducible refine w_make ?_) | (with_reducible refine w_methS ?_) | (with_reducible refine w_makeS ?_) | (with_reducible refine w_dpop ?_) | ((with_reducible apply w_fld1); array_mem_dec; (with_reducible assumption); (with_reducible assumption); exact rfl) | ((with_reducible apply w_sfld1); array_mem_dec; (with_reducible assumption); (with_reducible assumption); exact Nat.le_of_ble_eq_true rfl) | ((with_reducible apply w_meth1); array_mem_dec; exact rfl) | ((with_reducible apply w_dgetS); array_mem_dec; (with_reducible assumption)) | ((with_reducible apply w_dgetI); array_mem_dec; (with_reducible assumption)) | ((with_reducible apply w_dinS); array_mem_dec) | ((with_reducible apply w_dputI); array_mem_dec; (try (first | (with_reducible assumption) | omega | (rw [sizeLine_eq]; omega)))) | ((with_reducible apply w_dputS); array_mem_dec; (try (first | (with_reducible assumption) | omega | (rw [sizeLine_eq]; omega)))) | ((with_reducible apply w_isD); array_mem_dec) | ((with_reducible apply w_dictD); array_mem_dec) | ((with_reducible apply w_dpopS); array_mem_dec; (with_reducible assumption)) | ((with_reducible apply w_setL); array_mem_dec; exact rfl) | ((with_reducible apply w_cat); array_mem_dec; array_mem_dec; (try (first | (with_reducible assumption) | omega | (rw [sizeLine_eq]; omega)))) | (with_reducible refine w_iKeys ?_) | (with_reducible refine w_dget2 ?_) | (with_reducible refine w_scX ?_) | ((with_reducible apply w_keysF); array_mem_dec) | ((with_reducible apply w_dgetSF); array_mem_dec; (with_reducible assumption)))
/-! ### the disk that is found -/
def foldP (g : Nat → Tx) (L : Nm) (acc : List (Nat × Tx)) : List (Nat × Tx) := L.foldl (fun acc p => putA acc p.2 (g p.2)) acc
theorem foldP_snoc {g : Nat → Tx} {L : Nm} {p : Tx × Nat} {acc : List (Nat × Tx)} : foldP g (L ++ [p]) acc = putA (foldP g L acc) p.2 (g p.2) := by
  unfold foldP
  rw [List.foldl_append]; rfl
theorem getA_foldP {g : Nat → Tx} {n : Nat} : ∀ {L : Nm} {acc : List (Nat × Tx)}, getA (foldP g L acc) n = if n ∈ L.map (·.2) then some (g n) else getA acc n
  | [], acc => by simp [foldP]
  | p :: r, acc => by
    show getA (foldP g r (putA acc p.2 (g p.2))) n = _
    rw [getA_foldP, getA_put]
    by_cases h : n ∈ r.map (·.2)
    · rw [if_pos h, if_pos (by rw [List.map_cons]; exact List.mem_cons_of_mem _ h)]
    · rw [if_neg h]
      by_cases e : n = p.2
      · rw [if_pos e, if_pos (by rw [List.map_cons, e]; exact List.mem_cons_self), e]
      · rw [if_neg e, if_neg (by rw [List.map_cons, List.mem_cons]; exact fun z => z.elim e h)]
theorem foldP_len {g : Nat → Tx} : ∀ {L : Nm} {acc : List (Nat × Tx)}, (foldP g L acc).length ≤ acc.length + L.length
  | [], acc => Nat.le_refl _
  | p :: r, acc => by
    have h := foldP_len (g := g) (L := r) (acc := putA acc p.2 (g p.2))
    have := putA_len (l := acc) (x := p.2) (v := g p.2)
    show (foldP g r (putA acc p.2 (g p.2))).length ≤ _
    rw [List.length_cons]; omega
theorem foldP_mem {g : Nat → Tx} {q : Nat × Tx} : ∀ {L : Nm} {acc : List (Nat × Tx)}, q ∈ foldP g L acc → q ∈ acc ∨ ∃ n ∈ L.map (·.2), q = (n, g n)
  | [], acc, h => .inl h
  | p :: r, acc, h => by
    rcases foldP_mem (L := r) h with h | ⟨n, hn, e⟩
    · rcases putA_mem h with h | h
      · exact .inl h
      · exact .inr ⟨p.2, by simp, h⟩
    · exact .inr ⟨n, by rw [List.map_cons]; exact List.mem_cons_of_mem _ hn, e⟩
def partT (u : Tx) (n : Nat) (b : Bool) : Tx := if b = true then (u.take n).dropLast ++ [63] else u.take n
def toldS (D : DS) (acc : List (Nat × Tx)) : Tear → List (Nat × Tx)
  | .three x s (.bl b) => match getA D.names x with | some i => putA acc i (partT (lateD D i) s.toNat b) | none => acc
  | _ => acc
def toldD (D : DS) (trs : List Tear) : List (Nat × Tx) := trs.foldl (toldS D) []
theorem toldD_snoc {D : DS} {l : List Tear} {t : Tear} : toldD D (l ++ [t]) = toldS D (toldD D l) t := by
  unfold toldD
  rw [List.foldl_append]; rfl
theorem toldS_len {D : DS} {acc : List (Nat × Tx)} {t : Tear} : (toldS D acc t).length ≤ acc.length + 1 := by
  unfold toldS
  split
  · split
    · exact putA_len
    · omega
  · omega
theorem toldD_len {D : DS} : ∀ {l : List Tear}, (toldD D l).length ≤ l.length := by
  intro l
  suffices h : ∀ (l : List Tear) (acc : List (Nat × Tx)), (l.foldl (toldS D) acc).length ≤ acc.length + l.length by
    have := h l []
    simpa [toldD] using this
  intro l
  induction l with
  | nil => intro acc; exact Nat.le_refl _
  | cons t r ih =>
    intro acc
    have := ih (toldS D acc t)
    have := toldS_len (D := D) (acc := acc) (t := t)
    show (r.foldl (toldS D) (toldS D acc t)).length ≤ _
    rw [List.length_cons]; omega
def toldA (told : List (Nat × Tx)) (n : Nat) : Tx := (getA told n).getD []
def foundD (D : DS) (k : Nat) (told : List (Nat × Tx)) : DS :=
  { kept := foldP (fun n => keptD D n ++ toldA told n) (applyA D.sure (D.ch.take k)) [], late := foldP (fun _ => []) (applyA D.sure (D.ch.take k)) [], names := applyA D.sure (D.ch.take k), sure := applyA D.sure (D.ch.take k), ch := [], next := D.next }
theorem nums_take {D : DS} {k n : Nat} (h : n ∈ (applyA D.sure (D.ch.take k)).map (·.2)) : numsD D n := by
  rcases applyA_nums _ h with h | h
  · exact .inl h
  · obtain ⟨c, hc, e⟩ := List.mem_filterMap.mp h
    exact .inr (List.mem_filterMap.mpr ⟨c, List.mem_of_mem_take hc, e⟩)
theorem wf_found {D : DS} (w : wf D) (k : Nat) (told : List (Nat × Tx)) : wf (foundD D k told) := by
  have num : ∀ n, numsD (foundD D k told) n → n ∈ (applyA D.sure (D.ch.take k)).map (·.2) := fun n z => z.elim id fun y => by
    have y' : n ∈ ([] : List Nat) := y
    cases y'
  refine ⟨trivial, rfl, applyA_nodup _ w.nd, fun n z => ?_, fun n z => ?_, fun n z => w.nx n (nums_take (num n z))⟩
  · rw [show (foundD D k told).kept = foldP (fun n => keptD D n ++ toldA told n) (applyA D.sure (D.ch.take k)) [] from rfl, getA_foldP, if_pos (num n z)]; rfl
  · rw [show (foundD D k told).late = foldP (fun _ => []) (applyA D.sure (D.ch.take k)) [] from rfl, getA_foldP, if_pos (num n z)]; rfl
def spCutOff (CD CP : Addr) : Sp := fun vs H Q E => ∃ (a : Addr) (fp : List Addr) (D : DS) (ch : IB) (c : Addr) (ts : List Addr) (trs : List Tear), vs = [.ref a, vIB ch, .ref c] ∧ DiskAt CD H a fp D ∧ H c = some (.lst (ts.map V.ref)) ∧ TeAt H ts trs ∧ trs.length < 64 ∧ c ∉ fp ∧
  (∀ t ∈ trs, ∀ k ∈ nameT t, k < 1114112) ∧
  (okTears D ch trs → ∀ k, inIB D.ch.length ch = some k → bd (foundD D k (toldD D trs)) ∧ ∀ b H' fp', DiskAt CD H' b fp' (foundD D k (toldD D trs)) → Same H H' → (∀ c ∈ fp', H c = none) → Q (.ref b) H') ∧ (¬ okTears D ch trs → ∀ H', Same H H' → E (.ref CP) none H')
section
variable {P : Program} {w : World} {K : PySem.W.Frag} {mg : Str → Option Value} {base : Heap}
theorem ok_Disk_cut_off (M : Nms K mg) : FnOk P w K mg base (L2N.CX P w) 4 M.a_Disk_cut_off M.d_Disk_cut_off ["self", "changes", "tears"] (spCutOff M.CD M.CP) := by
  obtain ⟨tSP, GSP⟩ := M.cSP
  refine M.F_Disk_cut_off.okN sc_Disk_cut_off (fun vs H Q E h => ?_) (fun cdv A outer s H vs Q E hr h => ?_)
  · obtain ⟨a, fp, D, ch, c, ts, trs, rfl, _⟩ := h
    rfl
  · have hu := hu1 hr
    have clD := M.clD
    have nD_kept := M.nD_kept
    have nD_late := M.nD_late
    have nD_names := M.nD_names
    have nD_sure := M.nD_sure
    have nD_changes := M.nD_changes
    have nD_next := M.nD_next
    refine ⟨_, (pss_cons (ps_set (i := 3) sc_Disk_cut_off.nd rfl (Or.inl rfl) (pe_callS (ok_checked_tears M) (hr.mono (by decide)) rfl M.g_checked_tears M.k_checked_tears M.b_checked_tears (fun σ => L2N.passAt (L2N.takes_of rfl rfl rfl rfl) σ) (pa_cons (pv 0) (pa_cons (pv 1) (pa_cons (pv 2) pa_nil)))))
    (pss_cons (ps_set (i := 4) sc_Disk_cut_off.nd rfl (Or.inl rfl) pe_dnewK)
    (pss_cons (ps_for (passes_of rfl) rfl (pi_list (pv 3)) (pg_tup rfl (pgs_cons (pg_name (i := 5) sc_Disk_cut_off.nd rfl (Or.inl rfl)) (pgs_cons (pg_name (i := 6) sc_Disk_cut_off.nd rfl (Or.inl rfl)) (pgs_cons (pg_name (i := 7) sc_Disk_cut_off.nd rfl (Or.inl rfl)) pgs_nil)))) (pss_cons (ps_set (i := 8) sc_Disk_cut_off.nd rfl (Or.inl rfl) (pe_dget hu (pe_fld (pv 0) rfl) (pv 5) (fun _ _ => rfl)))
    (pss_cons (ps_set (i := 9) sc_Disk_cut_off.nd rfl (Or.inl rfl) (pe_slice sl_str (pe_dget hu (pe_fld (pv 0) rfl) (pv 8) (fun _ _ => rfl)) po_none (po_some (pv 6))))
    (pss_one (ps_dput hu (pv 4) (pv 8) (pe_ifExp (pt_val (pv 7)) (pe_op op_add_str (pe_slice sl_str (pv 9) po_none (po_some (pe_un un_neg pe_int))) (pe_glob (v := .str (Str.ofString "?")) rfl GSP ⟨_, rfl⟩)) (pv 9)) rfl)))))
    (pss_cons (ps_set (i := 10) sc_Disk_cut_off.nd rfl (Or.inl rfl) (pe_make0 M.mkD (ok_Disk___init__ M) (hr.mono (by decide)) rfl M.gD M.b_Disk___init__ .nil pass0))
    (pss_cons (ps_fld (pv 10) (pe_call (ok_applied M) (hr.mono (by decide)) rfl M.g_applied M.k_applied M.b_applied .nil pass0 (pa_cons (pe_fld (pv 0) rfl) (pa_cons (pe_slice (r := rSlL K) sl_list (pe_fld (pv 0) rfl) po_none (po_some (pv 1))) pa_nil))) rfl)
    (pss_cons (ps_lock (ps_for (passes_of rfl) rfl (pi_keys (pe_fld (pv 10) rfl)) (pg_name (i := 5) sc_Disk_cut_off.nd rfl (Or.inl rfl)) (pss_cons (ps_set (i := 8) sc_Disk_cut_off.nd rfl (Or.inl rfl) (pe_dget hu (pe_fld (pv 10) rfl) (pv 5) (fun _ _ => rfl)))
    (pss_cons (ps_dput hu (pe_fld (pv 10) rfl) (pv 8) (pe_op op_add_str (pe_dget hu (pe_fld (pv 0) rfl) (pv 8) (fun _ _ => rfl)) (pe_dget2 hu (pv 4) (pv 8) pe_str ⟨rfl, rfl, rfl, rfl⟩)) rfl)
    (pss_one (ps_dput hu (pe_fld (pv 10) rfl) (pv 8) pe_str rfl))))))
    (pss_cons (ps_fld (pv 10) (pe_fld (pv 0) rfl) rfl)
    (pss_cons (ps_fld (pv 10) (pe_callTy call_dictD (by rfl) M.T.b_dict (by decide +kernel) (pa_cons (pe_fld (pv 10) rfl) pa_nil)) rfl)
    (pss_one (ps_ret (pv 10))))))))))), ?_⟩
    try dsimp only [cxOf, Cx.nox]
    obtain ⟨a, fp, D, ch, c, ts, trs, rfl, dk, hc, te, h60, ncf, na, q, ke⟩ := h
    obtain ⟨⟨k0, l0, n0, sa0, c0, ts0, efp, ⟨nd0, ⟨dx0, hi⟩, hk, hl, hn, hs, hch0, tp, sm⟩⟩, wfd⟩ := id dk
    refine w_start (σ' := [some (.ref a), some (vIB ch), some (.ref c), none, none, none, none, none, none, none, none]) rfl ?_
    have tln := te.len
    (repeat array_get_dec)
    refine ⟨a, fp, D, ch, c, ts, trs, rfl, dk, hc, te, h60, ncf, na, fun okt p H1 s1 fp1 hp1 => ?_, ke⟩
    obtain ⟨k, hk2⟩ := Option.isSome_iff_exists.mp okt.1
    obtain ⟨bdF, qq⟩ := q okt k hk2
    obtain ⟨rfl, hkl⟩ : ch = .int (k : Int) ∧ k ≤ D.ch.length := by
      cases ch with
      | bl b => cases hk2
      | int i0 =>
        have em' : (if 0 ≤ i0 ∧ i0 ≤ (D.ch.length : Int) then some i0.toNat else none) = some k := hk2
        split at em'
        · rename_i w2
          have := Option.some.inj em'
          exact ⟨by rw [← this, Int.toNat_of_nonneg w2.1], by omega⟩
        · cases em'
    (repeat array_get_dec)
    intro td htd
    have s2 : Same H (upd H1 td (.dK [])) := fun b o e => upd_atN htd (s1 _ _ e)
    have tdH : H td = none := by
      cases e : H td with
      | none => rfl
      | some o => rw [s1 _ _ e] at htd; cases htd
    have hp2 := upd_atN (o := .dK []) htd hp1
    (repeat array_get_dec)
    refine for_list (K := K) (a := p) (xs := ts.map V.ref) (fun i σ H' => ∃ v5 v6 v7 v8 v9, σ = [some (.ref a), some (.int (k : Int)), some (.ref c), some (.ref p), some (.ref td), v5, v6, v7, v8, v9, none] ∧ H' td = some (.dK (kvM (toldD D (trs.take i)))) ∧ ∀ b o, b ≠ td → upd H1 td (.dK []) b = some o → H' b = some o) ⟨_, _, _, _, _, rfl, upd_same, fun b o _ e => e⟩ ?_ ?_ ?_
    · rintro i σ H' hi' ⟨v5, v6, v7, v8, v9, rfl, h1, h2⟩
      exact SqL.of (h2 _ _ (ne_of_none hp1 htd) hp2)
    · rintro i v σ H' hv ⟨v5, v6, v7, v8, v9, rfl, h1, h2⟩
      obtain ⟨t, ht, rfl⟩ := getE_map hv
      obtain ⟨tr, htr, htt⟩ := te.get i ht
      have back : ∀ b o, H b = some o → H' b = some o := fun b o e => h2 b o (fun z => by rw [z, tdH] at e; cases e) (s2 _ _ e)
      have htt' := back _ _ htt
      have hi' := back _ _ hi
      have hl' := back _ _ hl
      have hn' := back _ _ hn
      have okr := okt.2.2.2 tr (List.mem_of_getElem? htr)
      cases tr with
      | two x y => exact okr.elim
      | three x s5 v0 =>
        obtain ⟨⟨j, hj, hjs⟩, b, rfl, hb⟩ := okr
        have e1 : valV (kvT D.names) (Sum.inr (mkS x)) = some (.int ((j : Nat) : Int)) := by rw [kvT_val, hj]; rfl
        obtain ⟨t0, u, g1, g2, b1, b2, er, eu, ek⟩ := texts_at wfd sm hj
        have e2 : valV (kvM D.late) (Sum.inl ((j : Nat) : Int)) = some (sv u) := by rw [kvM_val, g2]; rfl
        obtain ⟨n, rfl⟩ : ∃ n : Nat, s5 = (n : Int) := by
          rw [inIB_int] at hjs
          rw [Bool.and_eq_true, decide_eq_true_eq] at hjs
          exact ⟨s5.toNat, (Int.toNat_of_nonneg hjs.1).symm⟩
        unfold tupT vIB at htt'
        have hz : (mkS u).length ≤ sizeLine := by rw [sizeLine_eq, len_tl]; show u.length ≤ _; omega
        have lz : (kvM (toldD D (trs.take i))).length < sizeLine := by
          rw [kvM_len, sizeLine_eq]
          have := toldD_len (D := D) (l := trs.take i)
          rw [List.length_take] at this
          omega
        have fin : ∀ H2 : Hp, H2 td = some (.dK (putK (kvM (toldD D (trs.take i))) (Sum.inl ((j : Nat) : Int)) (sv (partT u n b)))) → (∀ b o, b ≠ td → upd H1 td (.dK []) b = some o → H2 b = some o) → H2 td = some (.dK (kvM (toldD D (trs.take (i + 1))))) ∧ ∀ b o, b ≠ td → upd H1 td (.dK []) b = some o → H2 b = some o := fun H2 a1 a2 => ⟨by
          rw [a1, kvM_put, take_one htr, toldD_snoc]
          unfold toldS
          dsimp only
          rw [hj]
          dsimp only
          rw [eu, Int.toNat_natCast], a2⟩
        (repeat array_get_dec)
        rw [cut_pre]
        have tm : tl (mkS u) = u := rfl
        rw [tm]
        have lp : (u.take n).length ≤ 400000 := by rw [List.length_take]; omega
        have hz2 : (mkS (u.take n)).length ≤ sizeLine := by rw [sizeLine_eq, len_tl]; show (u.take n).length ≤ _; omega
        cases b with
        | false =>
          (repeat array_get_dec)
          exact ⟨_, _, _, _, _, rfl, fin _ (by rw [upd_same]; rfl) fun b o nb e => by rw [upd_ne nb]; exact h2 b o nb e⟩
        | true =>
          (repeat array_get_dec)
          rw [cut_last]
          have tm2 : tl (mkS (u.take n)) = u.take n := rfl
          rw [tm2]
          have eq : Str.ofString "?" = mkS [63] := by decide +kernel
          rw [eq]
          refine w_addS (fit_add (s := mkS (u.take n).dropLast) (t := mkS [63]) (a := 400000) (b := 1) (by rw [len_tl]; show ((u.take n).dropLast).length ≤ _; rw [List.length_dropLast]; omega) (by decide +kernel) (by omega)) ?_
          rw [mkS_app]
          (repeat array_get_dec)
          exact ⟨_, _, _, _, _, rfl, fin _ (by rw [upd_same]; rfl) fun b o nb e => by rw [upd_ne nb]; exact h2 b o nb e⟩
    · rintro σ H2 ⟨v5, v6, v7, v8, v9, rfl, h1, h2⟩
      have ln : (ts.map V.ref).length = trs.length := by rw [List.length_map, tln]
      rw [ln, List.take_length] at h1
      have back : ∀ b o, H b = some o → H2 b = some o := fun b o e => h2 b o (fun z => by rw [z, tdH] at e; cases e) (s2 _ _ e)
      (repeat array_get_dec)
      intro b db hb hdb hne
      refine ⟨b, db, rfl, upd_same, fun H3 fp3 dk3 fr3 => ⟨rfl, ?_⟩⟩
      have s3 : Same H2 H3 := fun x o e => fr3.keep (by rw [upd_ne (ne_of_none e hb), upd_ne (ne_of_none e hdb)]; exact e) (by simp; exact ne_of_none e hb)
      have sH3 : Same H H3 := fun x o e => s3 _ _ (back _ _ e)
      obtain ⟨⟨k3, l3, n3, sa3, c3, ts3, efp3, ⟨nd3, ⟨dx3, gi⟩, gk, gl, gn, gs, gc, gtp, _⟩⟩, _⟩ := dk3
      have ts3e : ts3 = [] := List.eq_nil_of_length_eq_zero gtp.len
      subst ts3e
      have fresh32 : ∀ x ∈ fp3, H2 x = none := fun x m => by
        rcases fr3.2 x m with z | z
        · simp at z
          subst z
          exact hb
        · cases e : H2 x with
          | none => rfl
          | some o =>
            rw [upd_ne (ne_of_none e hb), upd_ne (ne_of_none e hdb), e] at z
            cases z
      have fresh3 : ∀ x ∈ fp3, H x = none := fun x m => by
        cases e : H x with
        | none => rfl
        | some o =>
          have e2 := back _ _ e
          rw [fresh32 x m] at e2
          cases e2
      have tdk : td ≠ k3 := ne_of_none h1 (fresh32 k3 (by rw [efp3]; simp))
      have tdl : td ≠ l3 := ne_of_none h1 (fresh32 l3 (by rw [efp3]; simp))
      have tdb : td ≠ b := ne_of_none h1 (fresh32 b (by rw [efp3]; simp))
      have f1 : H b = none := fresh3 b (by rw [efp3]; simp)
      have f2 : H k3 = none := fresh3 k3 (by rw [efp3]; simp)
      have f3 : H l3 = none := fresh3 l3 (by rw [efp3]; simp)
      have f6 : H c3 = none := fresh3 c3 (by rw [efp3]; simp)
      have gt3 := s3 _ _ h1
      have hi3 := sH3 _ _ hi
      have hs3 := sH3 _ _ hs
      have hc3 := sH3 _ _ hch0
      (repeat array_get_dec)
      refine ⟨c0, _, rfl, SqL.of hc3, fun cp hcp => ?_⟩
      rw [cutV_pre]
      have hs4 := upd_atN (o := .lst ((ts0.take k).map V.ref)) hcp hs3
      have oka := okA_take wfd.ok k
      have lenN : (applyA D.sure (D.ch.take k)).length < 64 := bdF.names
      refine ⟨sa0, cp, ts0.take k, D.sure, D.ch.take k, rfl, hs4, upd_same, ChAt.take k (tp.keep fun u m o e => upd_atN hcp (sH3 _ _ e)), oka, by have := sm.sure; have := sm.ch; rw [List.length_take]; omega, fun n4 H4 s4 fn4 hn4 => ?_⟩
      have sc : ∀ x o, H3 x = some o → H4 x = some o := fun x o e => s4 _ _ (upd_atN hcp e)
      have n4n : ∀ x o, H3 x = some o → x ≠ n4 := fun x o e => ne_of_none (upd_atN (o := .lst ((ts0.take k).map V.ref)) hcp e) fn4
      have f4 : H n4 = none := by
        cases e : H n4 with
        | none => rfl
        | some o => exact absurd rfl (n4n _ _ (sH3 _ _ e))
      generalize hL : applyA D.sure (D.ch.take k) = L at *
      have numL : ∀ n ∈ L.map (·.2), numsD D n := fun n m => nums_take (k := k) (by rw [hL]; exact m)
      have ndL : (L.map (·.1)).Nodup := by rw [← hL]; exact applyA_nodup _ wfd.nd
      have gi3 := gi
      replace gi := sc _ _ gi
      have gk4 := sc _ _ gk
      have gl4 := sc _ _ gl
      have gs4 := sc _ _ gs
      have gc4 := sc _ _ gc
      have gt4 := sc _ _ gt3
      have hi4 := sc _ _ hi3
      have hk4 := sc _ _ (sH3 _ _ hk)
      simp only [List.nodup_cons, List.mem_cons, List.not_mem_nil, or_false, not_or] at nd3
      obtain ⟨⟨n1, n2, n3', n4', n5⟩, ⟨n6, n7, n8, n9⟩, ⟨n10, n11, n12⟩, ⟨n13, n14⟩, n15, _⟩ := nd3
      (repeat array_get_dec)
      have cb4 : b ≠ n4 := n4n _ _ gi3
      have n4k : n4 ≠ k3 := Ne.symm (n4n _ _ gk)
      have n4l : n4 ≠ l3 := Ne.symm (n4n _ _ gl)
      have n4c : n4 ≠ c3 := Ne.symm (n4n _ _ gc)
      have hn5 : upd H4 b (.ins M.CD dx3 (putF (Str.ofString "_names") (.ref n4) (dF k3 l3 n3 sa3 c3 noneD.next))) n4 = some (.dK (kvT L)) := by rw [upd_ne (Ne.symm cb4)]; exact hn4
      refine ⟨n4, _, hn5, trivial, fun od => ?_⟩
      have s5 : ∀ x o, H x = some o → upd (upd H4 b (.ins M.CD dx3 (putF (Str.ofString "_names") (.ref n4) (dF k3 l3 n3 sa3 c3 noneD.next)))) n4 (.frz od (.dK (kvT L))) x = some o := fun x o e => by
        rw [upd_ne (n4n _ _ (sH3 _ _ e)), upd_ne (ne_of_none e f1)]
        exact sc _ _ (sH3 _ _ e)
      (repeat array_get_dec)
      refine for_keys (d := n4) (od := od) (kvs := kvT L) (fun i σ H' => ∃ v5 v8, σ = [some (.ref a), some (.int (k : Int)), some (.ref c), some (.ref p), some (.ref td), v5, v6, v7, v8, v9, some (.ref b)] ∧
          H' k3 = some (.dK (kvM (foldP (fun n => keptD D n ++ toldA (toldD D trs) n) (L.take i) []))) ∧ H' l3 = some (.dK (kvM (foldP (fun _ => []) (L.take i) []))) ∧ ∀ x o, x ≠ k3 → x ≠ l3 → upd (upd H4 b (.ins M.CD dx3 (putF (Str.ofString "_names") (.ref n4) (dF k3 l3 n3 sa3 c3 noneD.next)))) n4 (.frz od (.dK (kvT L))) x = some o → H' x = some o) ⟨_, _, rfl, ?_, ?_, fun x o _ _ e => e⟩ ?_ ?_ ?_
      · rw [upd_ne (Ne.symm n4k), upd_ne (Ne.symm n1)]
        exact gk4
      · rw [upd_ne (Ne.symm n4l), upd_ne (Ne.symm n2)]
        exact gl4
      · rintro i σ H' hi' ⟨v5, v8, rfl, g1, g2, g3⟩
        exact g3 _ _ n4k n4l upd_same
      · rintro i ky v σ H' hkv ⟨v5, v8, rfl, g1, g2, g3⟩
        obtain ⟨⟨x, n⟩, hLi, ekv⟩ : ∃ p, L[i]? = some p ∧ (ky, v) = ((Sum.inr (mkS p.1) : Key), V.int (p.2 : Int)) := by
          unfold kvT at hkv
          rw [List.getElem?_map] at hkv
          cases e : L[i]? with
          | none => rw [e] at hkv; cases hkv
          | some p => rw [e] at hkv; exact ⟨p, rfl, (Option.some.inj hkv).symm⟩
        cases ekv
        have mL := List.mem_of_getElem? hLi
        have gx : getA L x = some n := getA_of_mem ndL mL
        have numn : numsD D n := numL n (List.mem_map_of_mem (f := (·.2)) mL)
        have e1 : valV (kvT L) (Sum.inr (mkS x)) = some (.int ((n : Nat) : Int)) := by rw [kvT_val, gx]; rfl
        have hfz := g3 _ _ n4k n4l upd_same
        have gb : H' b = some (.ins M.CD dx3 (putF (Str.ofString "_names") (.ref n4) (dF k3 l3 n3 sa3 c3 noneD.next))) := g3 _ _ n1 n2 (by rw [upd_ne cb4, upd_same])
        have keepH : ∀ x o, H x = some o → H' x = some o := fun x o e => g3 x o (ne_of_none e f2) (ne_of_none e f3) (s5 x o e)
        have hi6 := keepH _ _ hi
        have hk6 := keepH _ _ hk
        have gtd : H' td = some (.dK (kvM (toldD D trs))) := g3 _ _ tdk tdl (by rw [upd_ne (n4n _ _ gt3), upd_ne tdb]; exact gt4)
        obtain ⟨t0, ht0⟩ := Option.isSome_iff_exists.mp (wfd.kp n numn)
        have e2 : valV (kvM D.kept) (Sum.inl ((n : Nat) : Int)) = some (sv t0) := by rw [kvM_val, ht0]; rfl
        have b1 : t0.length ≤ 400000 := sm.kt _ (getA_mem ht0)
        dsimp only [kV]
        (repeat array_get_dec)
        refine ⟨_, DGet.k (k := Sum.inl ((n : Nat) : Int)) gtd, ?_⟩
        have ev : (valV (kvM (toldD D trs)) (Sum.inl ((n : Nat) : Int))).getD (.str (Str.ofString "")) = sv (toldA (toldD D trs) n) := by
          rw [kvM_val]
          unfold toldA
          cases getA (toldD D trs) n <;> rfl
        rw [ev]
        have ek : keptD D n = t0 := by unfold keptD; rw [ht0]; rfl
        have lg : (t0 ++ toldA (toldD D trs) n).length ≤ 400000 := by
          have := bdF.kt (n, keptD D n ++ toldA (toldD D trs) n) (getA_mem (by
            rw [show (foundD D k (toldD D trs)).kept = foldP (fun n => keptD D n ++ toldA (toldD D trs) n) (applyA D.sure (D.ch.take k)) [] from rfl, hL, getA_foldP, if_pos (List.mem_map_of_mem (f := (·.2)) mL)]))
          rw [ek] at this
          exact this
        rw [List.length_append] at lg
        refine w_addS (fit_add (s := mkS t0) (t := mkS (toldA (toldD D trs) n)) (a := t0.length) (b := (toldA (toldD D trs) n).length) (Nat.le_of_eq (len_tl _)) (Nat.le_of_eq (len_tl _)) (by omega)) ?_
        rw [mkS_app]
        have lz1 : (kvM (foldP (fun n => keptD D n ++ toldA (toldD D trs) n) (L.take i) [])).length < sizeLine := by
          rw [kvM_len, sizeLine_eq]
          have := foldP_len (g := fun n => keptD D n ++ toldA (toldD D trs) n) (L := L.take i) (acc := [])
          rw [List.length_take] at this
          simp at this
          omega
        have lz2 : (kvM (foldP (fun _ => []) (L.take i) [])).length < sizeLine := by
          rw [kvM_len, sizeLine_eq]
          have := foldP_len (g := fun _ => []) (L := L.take i) (acc := [])
          rw [List.length_take] at this
          simp at this
          omega
        (repeat array_get_dec)
        refine ⟨_, _, rfl, ?_, ?_, fun x o nk nl e => by rw [upd_ne nl, upd_ne nk]; exact g3 x o nk nl e⟩
        · rw [upd_ne n6, upd_same, take_one hLi, foldP_snoc, ← ek]
          exact congrArg (fun z => some (HO.dK z)) (kvM_put _ _ _)
        · rw [upd_same, take_one hLi, foldP_snoc]
          exact congrArg (fun z => some (HO.dK z)) (kvM_put _ _ _)
      · rintro σ H' ⟨v5, v8, rfl, g1, g2, g3⟩
        rw [kvT_len, List.take_length] at g1 g2
        have hfz := g3 _ _ n4k n4l upd_same
        refine ⟨hfz, ?_⟩
        have gb : H' b = some (.ins M.CD dx3 (putF (Str.ofString "_names") (.ref n4) (dF k3 l3 n3 sa3 c3 noneD.next))) := g3 _ _ n1 n2 (by rw [upd_ne cb4, upd_same])
        have gb6 : upd H' n4 (.dK (kvT L)) b = some (.ins M.CD dx3 (putF (Str.ofString "_names") (.ref n4) (dF k3 l3 n3 sa3 c3 noneD.next))) := by rw [upd_ne cb4]; exact gb
        have gk6 : upd H' n4 (.dK (kvT L)) k3 = some (.dK (kvM (foldP (fun n => keptD D n ++ toldA (toldD D trs) n) L []))) := by rw [upd_ne (Ne.symm n4k)]; exact g1
        have gl6 : upd H' n4 (.dK (kvT L)) l3 = some (.dK (kvM (foldP (fun _ => []) L []))) := by rw [upd_ne (Ne.symm n4l)]; exact g2
        have gc6 : upd H' n4 (.dK (kvT L)) c3 = some (.lst []) := by
          rw [upd_ne (Ne.symm n4c)]
          exact g3 _ _ (Ne.symm n9) (Ne.symm n12) (by rw [upd_ne (Ne.symm n4c), upd_ne (Ne.symm n5)]; exact gc4)
        have gn6 : upd H' n4 (.dK (kvT L)) n4 = some (.dK (kvT L)) := upd_same
        have s6 : ∀ x o, H x = some o → upd H' n4 (.dK (kvT L)) x = some o := fun x o e => by
          rw [upd_ne (ne_of_none e f4)]
          exact g3 x o (ne_of_none e f2) (ne_of_none e f3) (s5 x o e)
        have hi6 := s6 _ _ hi
        generalize upd H' n4 (.dK (kvT L)) = H6 at *
        (repeat array_get_dec)
        intro s7 hs7
        obtain ⟨s7b, s7n⟩ := hu2 hs7
        have m1 := ne_of_none gk6 s7n
        have m2 := ne_of_none gl6 s7n
        have m3 := ne_of_none gn6 s7n
        have m4 := ne_of_none gc6 s7n
        have f7 : H s7 = none := by
          cases e : H s7 with
          | none => rfl
          | some o => rw [s6 _ _ e] at s7n; cases s7n
        have bs7 := Ne.symm s7b
        (repeat array_get_dec)
        have eF : foundD D k (toldD D trs) = { kept := foldP (fun n => keptD D n ++ toldA (toldD D trs) n) L [], late := foldP (fun _ => []) L [], names := L, sure := L, ch := [], next := D.next } := by
          unfold foundD
          rw [hL]
        have wff := wf_found wfd k (toldD D trs)
        rw [eF] at qq bdF wff
        refine qq b _ [b, k3, l3, n4, s7, c3] ⟨⟨k3, l3, n4, s7, c3, [], rfl, ⟨?_, ⟨dx3, upd_same⟩, by ((repeat (first | with_reducible exact upd_same | with_reducible refine (upd_ne (by first | assumption | (apply Ne.symm; assumption))).trans ?_)); (try (first | assumption | exact upd_same))), by ((repeat (first | with_reducible exact upd_same | with_reducible refine (upd_ne (by first | assumption | (apply Ne.symm; assumption))).trans ?_)); (try (first | assumption | exact upd_same))), by ((repeat (first | with_reducible exact upd_same | with_reducible refine (upd_ne (by first | assumption | (apply Ne.symm; assumption))).trans ?_)); (try (first | assumption | exact upd_same))), by ((repeat (first | with_reducible exact upd_same | with_reducible refine (upd_ne (by first | assumption | (apply Ne.symm; assumption))).trans ?_)); (try (first | assumption | exact upd_same))), by ((repeat (first | with_reducible exact upd_same | with_reducible refine (upd_ne (by first | assumption | (apply Ne.symm; assumption))).trans ?_)); (try (first | assumption | exact upd_same))), trivial, bdF⟩⟩, wff⟩ (fun x o e => ?_) fun x m => ?_
        · simp only [List.nodup_cons, List.mem_cons, List.not_mem_nil, or_false, not_or]
          refine ⟨⟨n1, n2, cb4, bs7, n5⟩, ⟨n6, Ne.symm n4k, m1, n9⟩, ⟨Ne.symm n4l, m2, n12⟩, ⟨m3, n4c⟩, Ne.symm m4, not_false, List.nodup_nil⟩
        · have xb : x ≠ b := ne_of_none e f1
          have xs7 : x ≠ s7 := ne_of_none e f7
          rw [upd_ne xb, upd_ne xs7, upd_ne xb]
          exact s6 _ _ e
        · simp only [List.mem_cons, List.not_mem_nil, or_false] at m
          rcases m with rfl | rfl | rfl | rfl | rfl | rfl
          · exact f1
          · exact f2
          · exact f3
          · exact f4
          · exact f7
          · exact f6
end
end K54

namespace K54
open PySem PySem.Spec PyProof.Rows L2
local macro_rules | `(tactic| array_mem_dec) => `(tactic| first | with_reducible assumption | with_reducible exact upd_same | ((with_reducible apply same_at); (with_reducible assumption); array_mem_dec) | ((with_reducible apply upd_atN); (with_reducible assumption); array_mem_dec) | ((with_reducible apply upd_at); (first | with_reducible assumption | (apply Ne.symm; with_reducible assumption)); array_mem_dec))
local macro_rules | `(tactic| array_get_dec) => `(tactic| first | (with_reducible refine w_seq ?_) | (with_reducible refine w_asg ?_) | (with_reducible refine w_drop ?_) | (with_reducible refine w_ret ?_) | (with_reducible refine w_retN ?_) | (with_reducible refine w_next ?_) | (with_reducible refine w_break ?_) | (with_reducible refine w_cont ?_) | (with_reducible refine w_ifS ?_) | (with_reducible refine w_sub ?_) | (with_reducible refine w_c ?_) | (with_reducible refine w_op ?_) | (with_reducible refine w_un ?_) | (with_reducible refine w_test ?_) | (with_reducible refine w_B ?_) | (with_reducible refine w_yes ?_) | (with_reducible refine w_not ?_) | (with_reducible refine w_and ?_) | (with_reducible refine w_or ?_) | (with_reducible refine w_andV ?_) | (with_reducible refine w_orV ?_) | (with_reducible refine w_notV ?_) | (with_reducible refine w_ifE ?_) | (with_reducible refine w_nil ?_) | (with_reducible refine w_cons ?_) | (with_reducible refine w_call ?_) | (with_reducible refine w_callS ?_) | (with_reducible refine w_cB ?_) | (with_reducible refine w_lst ?_) | (with_reducible refine w_tup ?_) | (with_reducible refine w_sl ?_) | (with_reducible refine w_noPart ?_) | (with_reducible refine w_part ?_) | (with_reducible refine w_bm ?_) | (with_reducible refine w_bm0 ?_) | (with_reducible refine w_strTy ?_) | (with_reducible refine w_bl ?_) | (with_reducible refine w_int1 ?_) | (with_reducible refine w_str1 ?_) | (with_reducible refine w_rI0 ?_) | (with_reducible refine w_rU ?_) | (with_reducible refine w_eqI ?_) | (with_reducible refine w_eqS ?_) | (with_reducible refine w_neI ?_) | (with_reducible refine w_neS ?_) | (with_reducible refine w_bl2 ?_) | (with_reducible refine w_isN ?_) | (with_reducible refine w_for ?_) | (with_reducible refine w_iRng1 ?_) | (with_reducible refine w_iRng2 ?_) | (with_reducible refine w_iList ?_) | (with_reducible refine w_iTup ?_) | (with_reducible refine w_iStr ?_) | (with_reducible refine w_lc ?_) | (with_reducible refine w_M1 ?_) | (with_reducible refine w_M0 ?_) | (with_reducible refine w_isS ?_) | ((with_reducible apply w_name); (simp only [wipe, List.map_cons, List.map_nil, List.foldl_cons, List.foldl_nil, List.set_cons_zero, List.set_cons_succ]; exact rfl)) | ((with_reducible apply w_var); exact rfl) | ((with_reducible apply w_lstTy); array_mem_dec) | ((with_reducible apply w_lenL); array_mem_dec) | ((with_reducible apply w_lenT); array_mem_dec) | ((with_reducible apply w_listOf); array_mem_dec) | ((with_reducible apply w_lenS); (first | (with_reducible assumption) | omega | (rw [sizeLine_eq]; omega))) | ((with_reducible apply w_slS); (first | (with_reducible assumption) | omega | (rw [sizeLine_eq]; omega))) | ((with_reducible apply w_wipe); exact rfl) | ((with_reducible apply w_acc); array_mem_dec; (try (first | (with_reducible assumption) | omega | (rw [sizeLine_eq]; omega)))) | ((with_reducible apply w_itl); array_mem_dec) | ((with_reducible apply w_itt); array_mem_dec) | ((with_reducible apply w_append); array_mem_dec; (try (first | (with_reducible assumption) | omega | (rw [sizeLine_eq]; omega)))) | ((with_reducible apply w_rng1); (first | (with_reducible assumption) | omega); (first | (with_reducible assumption) | omega)) | ((with_reducible apply w_ixL); array_mem_dec; (first | (with_reducible assumption) | exact rfl | (apply atI_nat; (with_reducible assumption)) | exact atI_last _ _)) | ((with_reducible apply w_ixT); array_mem_dec; (first | (with_reducible assumption) | exact rfl | (apply atI_nat; (with_reducible assumption)) | exact atI_last _ _)) | ((with_reducible apply w_iT); first | exact rfl | (with_reducible assumption)) | ((with_reducible apply w_iF); first | exact rfl | (with_reducible assumption)) | ((with_reducible apply w_isiI (b := true)); decide +kernel) | ((with_reducible apply w_isiI (b := false)); decide +kernel) | ((with_reducible apply w_isiB (b := true)); decide +kernel) | ((with_reducible apply w_isiB (b := false)); decide +kernel) | ((with_reducible apply w_isiS (b := true)); decide +kernel) | ((with_reducible apply w_isiS (b := false)); decide +kernel) | ((with_reducible apply w_isiN (b := true)); decide +kernel) | ((with_reducible apply w_isiN (b := false)); decide +kernel) | ((with_reducible apply w_isiL (b := true)); array_mem_dec; decide +kernel) | ((with_reducible apply w_isiL (b := false)); array_mem_dec; decide +kernel) | ((with_reducible apply w_isiT (b := true)); array_mem_dec; decide +kernel) | ((with_reducible apply w_isiT (b := false)); array_mem_dec; decide +kernel) | (with_reducible refine w_notT ?_) | (with_reducible refine w_chain ?_) | ((with_reducible apply w_trL); array_mem_dec) | ((with_reducible apply w_gTup); array_mem_dec; exact rfl) | ((with_reducible apply w_gLst); array_mem_dec; exact rfl) | (with_reducible refine w_gCons ?_) | (with_reducible refine w_gNil ?_) | (with_reducible refine w_Fld ?_) | (with_reducible refine w_sFld ?_) | (with_reducible refine w_dget ?_) | (with_reducible refine w_dIn ?_) | (with_reducible refine w_dNotIn ?_) | (with_reducible refine w_sDPut ?_) | (with_reducible refine w_dnewK ?_) | (with_reducible refine w_meth ?_) | (with_reducible refine w_make ?_) | (with_reducible refine w_methS ?_) | (with_reducible refine w_makeS ?_) | (with_reducible refine w_dpop ?_) | ((with_reducible apply w_fld1); array_mem_dec; (with_reducible assumption); (with_reducible assumption); exact rfl) | ((with_reducible apply w_sfld1); array_mem_dec; (with_reducible assumption); (with_reducible assumption); exact Nat.le_of_ble_eq_true rfl) | ((with_reducible apply w_meth1); array_mem_dec; exact rfl) | ((with_reducible apply w_dgetS); array_mem_dec; (with_reducible assumption)) | ((with_reducible apply w_dgetI); array_mem_dec; (with_reducible assumption)) | ((with_reducible apply w_dinS); array_mem_dec) | ((with_reducible apply w_dputI); array_mem_dec; (try (first | (with_reducible assumption) | omega | (rw [sizeLine_eq]; omega)))) | ((with_reducible apply w_dputS); array_mem_dec; (try (first | (with_reducible assumption) | omega | (rw [sizeLine_eq]; omega)))) | ((with_reducible apply w_isD); array_mem_dec) | ((with_reducible apply w_dictD); array_mem_dec) | ((with_reducible apply w_dpopS); array_mem_dec; (with_reducible assumption)) | ((with_reducible apply w_setL); array_mem_dec; exact rfl) | ((with_reducible apply w_cat); array_mem_dec; array_mem_dec; (try (first | (with_reducible assumption) | omega | (rw [sizeLine_eq]; omega)))) | (with_reducible refine w_iKeys ?_) | (with_reducible refine w_dget2 ?_) | (with_reducible refine w_scX ?_) | ((with_reducible apply w_keysF); array_mem_dec) | ((with_reducible apply w_dgetSF); array_mem_dec; (with_reducible assumption)))
/-! ### nothing lost, all lost, alike -/
theorem okL_Disk_cut_off {P : Program} {w : World} {K : PySem.W.Frag} {mg : Str → Option Value} {base : Heap} (M : Nms K mg) : FnOk P w K mg base CX0 4 M.a_Disk_cut_off M.d_Disk_cut_off ["self", "changes", "tears"] (fun vs H Q _ => ∃ (a : Addr) (fp : List Addr) (D : DS) (ch : IB) (c : Addr) (ts : List Addr) (trs : List Tear), vs = [.ref a, vIB ch, .ref c] ∧ DiskAt M.CD H a fp D ∧ H c = some (.lst (ts.map V.ref)) ∧ TeAt H ts trs ∧ trs.length < 64 ∧ c ∉ fp ∧
  (∀ t ∈ trs, ∀ k ∈ nameT t, k < 1114112) ∧ okTears D ch trs ∧ ∀ k, inIB D.ch.length ch = some k → bd (foundD D k (toldD D trs)) ∧ ∀ b H' fp', DiskAt M.CD H' b fp' (foundD D k (toldD D trs)) → Same H H' → (∀ c ∈ fp', H c = none) → Q (.ref b) H') :=
  ok_low (ok_Disk_cut_off M) fun vs H Q E ⟨a, fp, D, ch, c, ts, trs, e, dk, hc, te, h60, ncf, na, okt, q⟩ => ⟨a, fp, D, ch, c, ts, trs, e, dk, hc, te, h60, ncf, na, fun _ => q, fun z => absurd okt z⟩
def lateN (D : DS) : List Tx := (srt (D.names.map (·.1))).filter fun x => decide (lateD D ((getA D.names x).getD 0) ≠ [])
def allT (D : DS) : List Tear := (lateN D).map fun x => .three x (((lateD D ((getA D.names x).getD 0)).length : Nat) : Int) (.bl false)
theorem srt_nd {l : List Tx} (h : l.Nodup) : (srt l).Nodup := (srt_perm l).nodup_iff.mpr h
theorem lateN_mem {D : DS} {x : Tx} (h : x ∈ lateN D) : ∃ i, getA D.names x = some i := by
  have := (List.mem_filter.mp h).1
  exact Option.isSome_iff_exists.mp (getA_has.mpr ((srt_perm _).mem_iff.mp this))
theorem inIB_all {n : Nat} : inIB n (.int (n : Int)) = some n := by
  show (if 0 ≤ (n : Int) ∧ (n : Int) ≤ (n : Int) then some (n : Int).toNat else none) = some n
  rw [if_pos ⟨by omega, by omega⟩, Int.toNat_natCast]
theorem allT_ok {D : DS} (w : wf D) : okTears D (.int (D.ch.length : Int)) (allT D) := by
  have nms : (allT D).map nameT = lateN D := by
    unfold allT
    rw [List.map_map]
    exact (List.map_congr_left fun x _ => rfl).trans (List.map_id' _)
  refine ⟨by rw [inIB_all]; rfl, fun t m => ?_, ?_, fun t m => ?_⟩
  · obtain ⟨x, _, rfl⟩ := List.mem_map.mp m
    rfl
  · rw [nms]
    exact ⟨List.Sublist.nodup List.filter_sublist (srt_nd w.ndN), List.Pairwise.sublist List.filter_sublist (srt_pair _)⟩
  · obtain ⟨x, hx, rfl⟩ := List.mem_map.mp m
    obtain ⟨i, hi⟩ := lateN_mem hx
    refine ⟨⟨i, hi, ?_⟩, false, rfl, fun z => by cases z.1⟩
    rw [hi]
    show (inIB (lateD D i).length (.int ((lateD D i).length : Int))).isSome = true
    rw [inIB_all]; rfl
section
variable {P : Program} {w : World} {K : PySem.W.Frag} {mg : Str → Option Value} {base : Heap}
theorem ok_all_lost (M : Nms K mg) : FnOk P w K mg base CX0 5 M.a_all_lost M.d_all_lost ["disk"] (fun vs H Q _ => ∃ a fp D, vs = [.ref a] ∧ DiskAt M.CD H a fp D ∧ bd (foundD D 0 []) ∧ ∀ b H' fp', DiskAt M.CD H' b fp' (foundD D 0 []) → Same H H' → (∀ c ∈ fp', H c = none) → Q (.ref b) H') := by
  refine M.F_all_lost.ok sc_all_lost (fun vs H Q E h => ?_) (fun cdv A outer s H vs Q E hr h => ?_)
  · obtain ⟨a, fp, D, rfl, _⟩ := h
    rfl
  · have hu := hu1 hr
    have clD := M.clD
    have nD_kept := M.nD_kept
    have nD_late := M.nD_late
    have nD_names := M.nD_names
    have nD_sure := M.nD_sure
    have nD_changes := M.nD_changes
    have nD_next := M.nD_next
    refine ⟨_, (pss_one (ps_ret (pe_meth (pv 0) M.clD M.m_Disk_cut_off (okL_Disk_cut_off M) (hr.mono (by decide)) M.b_Disk_cut_off .nil pass0 (pa_cons pe_int (pa_cons (pe_lst pa_nil) pa_nil))))), ?_⟩
    try dsimp only [cxOf, Cx.nox]
    obtain ⟨a, fp, D, rfl, dk, bdF, q⟩ := h
    obtain ⟨⟨k0, l0, n0, sa0, c0, ts0, efp, ⟨nd0, ⟨dx0, hi⟩, hk, hl, hn, hs, hch0, tp, sm⟩⟩, wfd⟩ := id dk
    refine w_start (σ' := [some (.ref a)]) rfl ?_
    (repeat array_get_dec)
    refine ⟨by show 0 ≤ sizeLine; decide, fun A2 hA2 => ?_⟩
    have s4 : Same H (upd H A2 (.lst [])) := same_upd (Same.refl _) hA2
    (repeat array_get_dec)
    refine ⟨a, fp, D, .int 0, A2, [], [], rfl, dk.same s4, upd_same, trivial, by decide, fun z => dk.1.has A2 z hA2, fun t m => (by cases m), ⟨by show (if (0 : Int) ≤ 0 ∧ (0 : Int) ≤ (D.ch.length : Int) then some (0 : Int).toNat else none).isSome = true; rw [if_pos ⟨by omega, by omega⟩]; rfl, fun t m => (by cases m), ⟨List.nodup_nil, .nil⟩, fun t m => (by cases m)⟩, fun k hk2 => ?_⟩
    have hk3 : (if (0 : Int) ≤ 0 ∧ (0 : Int) ≤ (D.ch.length : Int) then some (0 : Int).toNat else none) = some k := hk2
    rw [if_pos ⟨by omega, by omega⟩] at hk3
    cases hk3
    refine ⟨bdF, fun b H5 fp' dk5 s5 fr5 => ?_⟩
    (repeat array_get_dec)
    refine q b H5 fp' dk5 (fun b o e => s5 _ _ (s4 _ _ e)) fun c m => ?_
    cases e : H c with
    | none => rfl
    | some o => have := fr5 c m; rw [s4 _ _ e] at this; cases this
end
end K54

namespace K54
open PySem PySem.Spec PyProof.Rows L2
local macro_rules | `(tactic| array_mem_dec) => `(tactic| first | with_reducible assumption | with_reducible exact upd_same | ((with_reducible apply same_at); (with_reducible assumption); array_mem_dec) | ((with_reducible apply upd_atN); (with_reducible assumption); array_mem_dec) | ((with_reducible apply upd_at); (first | with_reducible assumption | (apply Ne.symm; with_reducible assumption)); array_mem_dec))
local macro_rules | `(tactic| array_get_dec) => `(tactic| first | (with_reducible refine w_seq ?_) | (with_reducible refine w_asg ?_) | (with_reducible refine w_drop ?_) | (with_reducible refine w_ret ?_) | (with_reducible refine w_retN ?_) | (with_reducible refine w_next ?_) | (with_reducible refine w_break ?_) | (with_reducible refine w_cont ?_) | (with_reducible refine w_ifS ?_) | (with_reducible refine w_sub ?_) | (with_reducible refine w_c ?_) | (with_reducible refine w_op ?_) | (with_reducible refine w_un ?_) | (with_reducible refine w_test ?_) | (with_reducible refine w_B ?_) | (with_reducible refine w_yes ?_) | (with_reducible refine w_not ?_) | (with_reducible refine w_and ?_) | (with_reducible refine w_or ?_) | (with_reducible refine w_andV ?_) | (with_reducible refine w_orV ?_) | (with_reducible refine w_notV ?_) | (with_reducible refine w_ifE ?_) | (with_reducible refine w_nil ?_) | (with_reducible refine w_cons ?_) | (with_reducible refine w_call ?_) | (with_reducible refine w_callS ?_) | (with_reducible refine w_cB ?_) | (with_reducible refine w_lst ?_) | (with_reducible refine w_tup ?_) | (with_reducible refine w_sl ?_) | (with_reducible refine w_noPart ?_) | (with_reducible refine w_part ?_) | (with_reducible refine w_bm ?_) | (with_reducible refine w_bm0 ?_) | (with_reducible refine w_strTy ?_) | (with_reducible refine w_bl ?_) | (with_reducible refine w_int1 ?_) | (with_reducible refine w_str1 ?_) | (with_reducible refine w_rI0 ?_) | (with_reducible refine w_rU ?_) | (with_reducible refine w_eqI ?_) | (with_reducible refine w_eqS ?_) | (with_reducible refine w_neI ?_) | (with_reducible refine w_neS ?_) | (with_reducible refine w_bl2 ?_) | (with_reducible refine w_isN ?_) | (with_reducible refine w_for ?_) | (with_reducible refine w_iRng1 ?_) | (with_reducible refine w_iRng2 ?_) | (with_reducible refine w_iList ?_) | (with_reducible refine w_iTup ?_) | (with_reducible refine w_iStr ?_) | (with_reducible refine w_lc ?_) | (with_reducible refine w_M1 ?_) | (with_reducible refine w_M0 ?_) | (with_reducible refine w_isS ?_) | ((with_reducible apply w_name); (simp only [wipe, List.map_cons, List.map_nil, List.foldl_cons, List.foldl_nil, List.set_cons_zero, List.set_cons_succ]; exact rfl)) | ((with_reducible apply w_var); exact rfl) | ((with_reducible apply w_lstTy); array_mem_dec) | ((with_reducible apply w_lenL); array_mem_dec) | ((with_reducible apply w_lenT); array_mem_dec) | ((with_reducible apply w_listOf); array_mem_dec) | ((with_reducible apply w_lenS); (first | (with_reducible assumption) | omega | (rw [sizeLine_eq]; omega))) | ((with_reducible apply w_slS); (first | (with_reducible assumption) | omega | (rw [sizeLine_eq]; omega))) | ((with_reducible apply w_wipe); exact rfl) | ((with_reducible apply w_acc); array_mem_dec; (try (first | (with_reducible assumption) | omega | (rw [sizeLine_eq]; omega)))) | ((with_reducible apply w_itl); array_mem_dec) | ((with_reducible apply w_itt); array_mem_dec) | ((with_reducible apply w_append); array_mem_dec; (try (first | (with_reducible assumption) | omega | (rw [sizeLine_eq]; omega)))) | ((with_reducible apply w_rng1); (first | (with_reducible assumption) | omega); (first | (with_reducible assumption) | omega)) | ((with_reducible apply w_ixL); array_mem_dec; (first | (with_reducible assumption) | exact rfl | (apply atI_nat; (with_reducible assumption)) | exact atI_last _ _)) | ((with_reducible apply w_ixT); array_mem_dec; (first | (with_reducible assumption) | exact rfl | (apply atI_nat; (with_reducible assumption)) | exact atI_last _ _)) | ((with_reducible apply w_iT); first | exact rfl | (with_reducible assumption)) | ((with_reducible apply w_iF); first | exact rfl | (with_reducible assumption)) | ((with_reducible apply w_isiI (b := true)); decide +kernel) | ((with_reducible apply w_isiI (b := false)); decide +kernel) | ((with_reducible apply w_isiB (b := true)); decide +kernel) | ((with_reducible apply w_isiB (b := false)); decide +kernel) | ((with_reducible apply w_isiS (b := true)); decide +kernel) | ((with_reducible apply w_isiS (b := false)); decide +kernel) | ((with_reducible apply w_isiN (b := true)); decide +kernel) | ((with_reducible apply w_isiN (b := false)); decide +kernel) | ((with_reducible apply w_isiL (b := true)); array_mem_dec; decide +kernel) | ((with_reducible apply w_isiL (b := false)); array_mem_dec; decide +kernel) | ((with_reducible apply w_isiT (b := true)); array_mem_dec; decide +kernel) | ((with_reducible apply w_isiT (b := false)); array_mem_dec; decide +kernel) | (with_reducible refine w_notT ?_) | (with_reducible refine w_chain ?_) | ((with_reducible apply w_trL); array_mem_dec) | ((with_reducible apply w_gTup); array_mem_dec; exact rfl) | ((with_reducible apply w_gLst); array_mem_dec; exact rfl) | (with_reducible refine w_gCons ?_) | (with_reducible refine w_gNil ?_) | (with_reducible refine w_Fld ?_) | (with_reducible refine w_sFld ?_) | (with_reducible refine w_dget ?_) | (with_reducible refine w_dIn ?_) | (with_reducible refine w_dNotIn ?_) | (with_reducible refine w_sDPut ?_) | (with_reducible refine w_dnewK ?_) | (with_reducible refine w_meth ?_) | (with_reducible refine w_make ?_) | (with_reducible refine w_methS ?_) | (with_reducible refine w_makeS ?_) | (with_reducible refine w_dpop ?_) | ((with_reducible apply w_fld1); array_mem_dec; (with_reducible assumption); (with_reducible assumption); exact rfl) | ((with_reducible apply w_sfld1); array_mem_dec; (with_reducible assumption); (with_reducible assumption); exact Nat.le_of_ble_eq_true rfl) | ((with_reducible apply w_meth1); array_mem_dec; exact rfl) | ((with_reducible apply w_dgetS); array_mem_dec; (with_reducible assumption)) | ((with_reducible apply w_dgetI); array_mem_dec; (with_reducible assumption)) | ((with_reducible apply w_dinS); array_mem_dec) | ((with_reducible apply w_dputI); array_mem_dec; (try (first | (with_reducible assumption) | omega | (rw [sizeLine_eq]; omega)))) | ((with_reducible apply w_dputS); array_mem_dec; (try (first | (with_reducible assumption) | omega | (rw [sizeLine_eq]; omega)))) | ((with_reducible apply w_isD); array_mem_dec) | ((with_reducible apply w_dictD); array_mem_dec) | ((with_reducible apply w_dpopS); array_mem_dec; (with_reducible assumption)) | ((with_reducible apply w_setL); array_mem_dec; exact rfl) | ((with_reducible apply w_cat); array_mem_dec; array_mem_dec; (try (first | (with_reducible assumption) | omega | (rw [sizeLine_eq]; omega)))) | (with_reducible refine w_iKeys ?_) | (with_reducible refine w_dget2 ?_) | (with_reducible refine w_scX ?_) | ((with_reducible apply w_keysF); array_mem_dec) | ((with_reducible apply w_dgetSF); array_mem_dec; (with_reducible assumption)))
/-! ### frames, numbers, names of snapshots -/
theorem con {K : PySem.W.Frag} {mg : Str → Option Value} (M : Nms K mg) : Con51 mg := ⟨M.cGREAT, M.cSTEP, M.cMO⟩
def spTextX (CP : Addr) (f : Tx → Tx) : Sp := fun vs H Q E => ∃ t : Tx, vs = [sv t] ∧ t.length ≤ 1000000 ∧ (goodT t → ∀ H', Same H H' → Q (sv (f t)) H') ∧ (¬ goodT t → ∀ H', Same H H' → E (.ref CP) none H')
def spChkNum (CN : Addr) : Sp := fun vs H Q E => ∃ (v : IB) (m : Nat), vs = [vIB v, .int 0, .int (m : Int)] ∧ m ≤ 1000000 ∧ ((inIB m v).isSome = true → Q (vIB v) H) ∧ ((inIB m v).isSome = false → E (.ref CN) none H)
def pre : Tx := [115, 110, 97, 112, 46]
def snapL (n : Nat) : Tx := pre ++ (List.replicate (6 - (TL.numL n).length) 48 ++ TL.numL n)
def spSnapN (CN : Addr) : Sp := fun vs H Q E => ∃ v : IB, vs = [vIB v] ∧ (∀ n, inIB 999999 v = some n → Q (sv (snapL n)) H) ∧ (inIB 999999 v = none → E (.ref CN) none H)
def isSnapL (l : Tx) : Bool := (l.take 5 == pre) && (decide ((l.drop 5).length = 6) && (l.drop 5).all isDig)
def spIsSnap : Sp := fun vs H Q _ => ∃ l : Tx, vs = [sv l] ∧ l.length ≤ 100 ∧ ∀ H', Same H H' → Q (.bl (isSnapL l)) H'
def numS (l : Tx) : Nat := NumText.digitsVal (l.drop 5)
def spNumOf (CP : Addr) : Sp := fun vs H Q E => ∃ l : Tx, vs = [sv l] ∧ l.length ≤ 100 ∧ (isSnapL l = true → ∀ H', Same H H' → Q (.int ((numS l : Nat) : Int)) H') ∧ (isSnapL l = false → ∀ H', Same H H' → E (.ref CP) none H')
theorem sw5 (l : Tx) : Txt.startswith (mkS l) (Str.ofString "snap.") = (l.take 5 == pre) := by
  have e : Str.ofString "snap." = mkS pre := by decide +kernel
  rw [e]
  unfold Txt.startswith PySem.Builtin.Str.subAt
  show (decide (0 + 5 ≤ l.toArray.size) && (l.toArray.extract 0 (0 + 5) == pre.toArray)) = _
  have e2 : l.toArray.extract 0 (0 + 5) = (l.take 5).toArray := by simp
  rw [e2]
  have e3 : ((l.take 5).toArray == pre.toArray) = (l.take 5 == pre) := by
    rw [Bool.eq_iff_iff, beq_iff_eq, beq_iff_eq]
    exact ⟨fun z => by simpa using z, fun z => by rw [z]⟩
  rw [e3, Bool.eq_iff_iff, Bool.and_eq_true, beq_iff_eq, decide_eq_true_eq]
  refine ⟨fun z => z.2, fun z => ⟨?_, z⟩⟩
  have := congrArg List.length z
  rw [List.length_take] at this
  simp [pre] at this ⊢
  omega
theorem numS_len {n : Nat} (h : n ≤ 9999999) : (Str.ofString (toString ((n : Nat) : Int))).length ≤ 7 := by rw [len_tl, show tl _ = TL.numL _ from TL.tl_num _]; exact num_len h
theorem cut_from5 (x : Str) : cutS x (some 5) none = mkS ((tl x).drop 5) := by
  have hn : x.length = (tl x).length := len_tl x
  have e : cutS x (some 5) none = cutS x (some ((5 : Nat) : Int)) (some ((x.length : Nat) : Int)) := by
    have e1 : HT.sIx x.length x.length (some ((x.length : Nat) : Int)) = x.length := by
      show (if (((x.length : Nat) : Int)) < 0 then (((x.length : Nat) : Int) + (x.length : Int)).toNat else min (((x.length : Nat) : Int)).toNat x.length) = _
      rw [if_neg (by omega)]
      show min x.length x.length = x.length
      omega
    unfold cutS
    rw [e1]
    rfl
  rw [e, cut_any, hn, List.take_of_length_le (by rw [List.length_drop]; omega)]
theorem mul0 : ∀ k, k ≤ 6 → MulOk (Str.ofString "0") ((k : Nat) : Int) ∧ Txt.mul (Str.ofString "0") ((k : Nat) : Int) = mkS (List.replicate k 48) := by
  intro k hk
  match k, hk with
  | 0, _ => exact ⟨by refine ⟨by decide +kernel, by decide +kernel, by decide +kernel⟩, by decide +kernel⟩
  | 1, _ => exact ⟨by refine ⟨by decide +kernel, by decide +kernel, by decide +kernel⟩, by decide +kernel⟩
  | 2, _ => exact ⟨by refine ⟨by decide +kernel, by decide +kernel, by decide +kernel⟩, by decide +kernel⟩
  | 3, _ => exact ⟨by refine ⟨by decide +kernel, by decide +kernel, by decide +kernel⟩, by decide +kernel⟩
  | 4, _ => exact ⟨by refine ⟨by decide +kernel, by decide +kernel, by decide +kernel⟩, by decide +kernel⟩
  | 5, _ => exact ⟨by refine ⟨by decide +kernel, by decide +kernel, by decide +kernel⟩, by decide +kernel⟩
  | 6, _ => exact ⟨by refine ⟨by decide +kernel, by decide +kernel, by decide +kernel⟩, by decide +kernel⟩
  | k + 7, h => omega
theorem snap_txt (n : Nat) : Str.ofString "snap." ++ mkS (List.replicate (6 - (TL.numL n).length) 48) ++ Str.ofString (toString ((n : Nat) : Int)) = mkS (snapL n) := by
  refine TL.ext_tl ?_
  rw [TL.tl_append, TL.tl_append, TL.tl_num]
  unfold snapL
  show (pre ++ _) ++ _ = pre ++ (_ ++ _)
  rw [List.append_assoc]
theorem strsOf {n : Nat} {v : IB} {m : Nat} (h : inIB m v = some n) : v = .int (n : Int) ∧ n ≤ m := by
  cases v with
  | bl b => cases h
  | int i0 =>
    have em' : (if 0 ≤ i0 ∧ i0 ≤ (m : Int) then some i0.toNat else none) = some n := h
    split at em'
    · rename_i w2
      have := Option.some.inj em'
      exact ⟨by rw [← this, Int.toNat_of_nonneg w2.1], by omega⟩
    · cases em'
section
variable {P : Program} {w : World} {K : PySem.W.Frag} {mg : Str → Option Value} {base : Heap}
theorem ok_check_of (M : Nms K mg) : FnOk P w K mg base CX0 1 M.a_check_of M.d_check_of ["text"] spCheck := ok_check M.F_check_of M.T (con M)
theorem ok__number (M : Nms K mg) : FnOk P w K mg base CX0 1 M.a__number M.d__number ["text", "at"] spNum := ok_number M.F__number M.T
theorem ok_one_frame (M : Nms K mg) : FnOk P w K mg base CX0 2 M.a_one_frame M.d_one_frame ["text", "at"] spOneF := ok_oneF M.F_one_frame M.T (con M) (ok__number M) M.g__number M.k__number M.b__number (ok_check_of M) M.g_check_of M.k_check_of M.b_check_of
theorem ok_checked_text (M : Nms K mg) : FnOk P w K mg base (L2N.CX P w) 1 M.a_checked_text M.d_checked_text ["text"] (spTextX M.CP id) := by
  obtain ⟨tMO, GMO⟩ := M.cMO
  refine M.F_checked_text.okN sc_checked_text (fun vs H Q E h => ?_) (fun cdv A outer s H vs Q E hr h => ?_)
  · obtain ⟨t, rfl, _⟩ := h
    rfl
  · have hu := hu1 hr
    refine ⟨_, (pss_cons (ps_if (PW.pt (pw_or (pt_not (pt_val (pe_callB call_isi (by rfl) M.T.b_isinstance (by decide +kernel) (pa_cons (pv 0) (pa_cons (pe_bltn (v := .ty "str") (u := .type "str") (by rfl) M.T.b_str (by decide +kernel) rfl) pa_nil))))) (pw_or1 (pt_cmpR op_gt (pe_callB (id := "len") (r := fun xs H Q => ∃ x n, xs = [x] ∧ LenV K x H n ∧ Q (V.int ((n : Nat) : Int)) H) call_len (by rfl) M.T.b_len (by decide +kernel) (pa_cons (pv 0) pa_nil)) (pe_glob (v := .int 1000000) rfl GMO ⟨_, rfl⟩) (nomark _))))) (pss_one (L2N.ps_raise rfl (L2N.takes_of rfl rfl rfl rfl) (L2N.pmk_own PySem.F.excBase_ValueError M.XP.xP M.XP.gP M.XP.kP (raises_own M.XP.bP M.XP.tP) rfl))) pss_nil)
    (pss_cons (ps_if (pt_truth (pe_lc (own := [("sign", 1)]) rfl sc_checked_text.nd (pi_str (pv 0)) (blkOk_by (N := ["text", "sign"]) (sc := defScope s_checked_text) (own := [("sign", 1)]) (by decide +kernel)) (fun _ _ _ _ _ => (pg_name (i := 1) sc_checked_text.nd rfl (Or.inl rfl))) (fun _ _ _ _ _ => pts_one (PW.pt (pw_or (pt_cmpR op_eq (pv 1) pe_str (nomark _)) (pw_or1 (PW.pt (pw_and (pt_cmpR op_ne (pv 1) pe_str (nomark _)) (pw_and1 (pt_not (pt_chain op_le_str op_le_str pe_str (pv 1) pe_str))))))))) (fun _ _ _ _ _ => (pv 1))) (by intro _; rfl)) (pss_one (L2N.ps_raise rfl (L2N.takes_of rfl rfl rfl rfl) (L2N.pmk_own PySem.F.excBase_ValueError M.XP.xP M.XP.gP M.XP.kP (raises_own M.XP.bP M.XP.tP) rfl))) pss_nil)
    (pss_one (ps_ret (pv 0))))), ?_⟩
    try dsimp only [cxOf, Cx.nox]
    obtain ⟨t, rfl, ht, q, e⟩ := h
    have hx' : (mkS t).length ≤ sizeLine := by rw [len_tl, sizeLine_eq]; show t.length ≤ _; omega
    refine w_start (σ' := [some (sv t), none]) rfl ?_
    (repeat array_get_dec)
    refine iteF' (decide_eq_false (by rw [len_tl]; show ¬ (1000000 : Int) < ((t.length : Nat) : Int); omega)) ?_
    (repeat array_get_dec)
    intro D hD
    refine lc_filter (bad := fun c => !okSign c) hx' hD (fun _ => rfl) (fun _ => rfl) ?_ ?_
    · intro c H' R hc hR
      (repeat array_get_dec)
      rw [show decide (V.str ⟨#[c]⟩ = V.str (Str.ofString "?")) = decide (c = 63) from one_eq c 63]
      refine ite2 (fun h1 => ?_) (fun h1 => ?_)
      · rw [bad_test rfl rfl rfl, h1] at hR; exact hR
      · have h1' : decide (c = 63) = false := by simpa using h1
        (repeat array_get_dec)
        rw [show decide (V.str ⟨#[c]⟩ = V.str (Str.ofString "\n")) = decide (c = 10) from one_eq c 10]
        refine ite2 (fun h2 => ?_) (fun h2 => ?_)
        · (repeat array_get_dec)
          refine ⟨_, _, rfl, rfl, ?_⟩
          rw [show (!decide (tl (⟨#[c]⟩ : Str) < tl (Str.ofString " "))) = decide (32 ≤ c) from le1 c 32]
          (repeat array_get_dec)
          refine ite2 (fun h3 => ?_) (fun h3 => ?_)
          · (repeat array_get_dec)
            refine ⟨_, _, rfl, rfl, ?_⟩
            rw [show (!decide (tl (Str.ofString "~") < tl (⟨#[c]⟩ : Str))) = decide (c ≤ 126) from le1 126 c]
            (repeat array_get_dec)
            rw [bad_test rfl rfl rfl, h1', h2, h3] at hR
            simpa using hR
          · (repeat array_get_dec)
            have h3' : decide (32 ≤ c) = false := by simpa using h3
            rw [bad_test rfl rfl rfl, h1', h2, h3'] at hR
            simpa using hR
        · have h2' : (!decide (c = 10)) = false := by simpa using h2
          rw [bad_test rfl rfl rfl, h1', h2'] at hR
          simpa using hR
    · intro H' s1 h1
      refine ⟨_, .inl ⟨_, SqL.of h1, rfl⟩, ?_⟩
      rw [filt_empty]
      by_cases hg : goodT t
      · have ea : ((tl (mkS t)).all fun c => !!okSign c) = true := by rw [all_nn]; exact hg
        refine iteF' (by rw [ea]; rfl) ?_
        (repeat array_get_dec)
        exact q hg _ s1
      · have ea : ((tl (mkS t)).all fun c => !!okSign c) = false := by
          rw [all_nn]
          cases z : (tl (mkS t)).all okSign with
          | false => rfl
          | true => exact absurd z hg
        rw [ea]
        refine iteT ?_
        (repeat array_get_dec)
        exact e hg _ s1
theorem okL_checked_text (M : Nms K mg) : FnOk P w K mg base CX0 1 M.a_checked_text M.d_checked_text ["text"] (fun vs H Q _ => ∃ t : Tx, vs = [sv t] ∧ t.length ≤ 1000000 ∧ goodT t ∧ ∀ H', Same H H' → Q (sv t) H') :=
  ok_low (ok_checked_text M) fun vs H Q E ⟨t, e, l, g, q⟩ => ⟨t, e, l, fun _ => q, fun z => absurd g z⟩
theorem ok_framed (M : Nms K mg) : FnOk P w K mg base (L2N.CX P w) 2 M.a_framed M.d_framed ["text"] (spTextX M.CP frameL) := by
  refine M.F_framed.okN sc_framed (fun vs H Q E h => ?_) (fun cdv A outer s H vs Q E hr h => ?_)
  · obtain ⟨t, rfl, _⟩ := h
    rfl
  · have hu := hu1 hr
    refine ⟨_, (pss_cons (ps_expr (pe_callS (ok_checked_text M) (hr.mono (by decide)) rfl M.g_checked_text M.k_checked_text M.b_checked_text (fun σ => L2N.passAt (L2N.takes_of rfl rfl rfl rfl) σ) (pa_cons (pv 0) pa_nil)))
    (pss_one (ps_ret (pe_op op_add_str (pe_op op_add_str (pe_op op_add_str (pe_op op_add_str (pe_op op_add_str (pe_callTy call_str_int (by rfl) M.T.b_str (by decide +kernel) (pa_cons (pe_callB (id := "len") (r := fun xs H Q => ∃ x n, xs = [x] ∧ LenV K x H n ∧ Q (V.int ((n : Nat) : Int)) H) call_len (by rfl) M.T.b_len (by decide +kernel) (pa_cons (pv 0) pa_nil)) pa_nil)) pe_str) (pe_callTy call_str_int (by rfl) M.T.b_str (by decide +kernel) (pa_cons (pe_call (ok_check_of M) (hr.mono (by decide)) rfl M.g_check_of M.k_check_of M.b_check_of .nil pass0 (pa_cons (pv 0) pa_nil)) pa_nil))) pe_str) (pv 0)) pe_str)))), ?_⟩
    try dsimp only [cxOf, Cx.nox]
    obtain ⟨t, rfl, ht, q, e⟩ := h
    have hl : (mkS t).length = t.length := len_tl (mkS t)
    have hx' : (mkS t).length ≤ sizeLine := by rw [hl, sizeLine_eq]; omega
    refine w_start (σ' := [some (sv t)]) rfl ?_
    (repeat array_get_dec)
    refine ⟨t, rfl, ht, fun hg H1 s1 => ?_, fun hg H1 s1 => e hg _ s1⟩
    have l1 : (Str.ofString (toString (((mkS t).length : Nat) : Int))).length ≤ 7 := by rw [len_tl, show tl _ = TL.numL _ from TL.tl_num _]; exact num_len (by omega)
    have l2 : (Str.ofString (toString ((chk t : Nat) : Int))).length ≤ 7 := by rw [len_tl, show tl _ = TL.numL _ from TL.tl_num _]; exact num_len (by have := chk_lt t; omega)
    have c1 : (Str.ofString ":").length ≤ 1 := by decide +kernel
    have c2 : (Str.ofString "\n").length ≤ 1 := by decide +kernel
    (repeat array_get_dec)
    refine w_strOf (log_small _ (by omega)) ?_
    (repeat array_get_dec)
    refine w_addS (fit_add l1 c1 (by decide)) ?_
    (repeat array_get_dec)
    refine ⟨mkS t, rfl, ?_⟩
    (repeat array_get_dec)
    refine w_strOf (log_small _ (by have := chk_lt t; show chk t ≤ _; omega)) ?_
    (repeat array_get_dec)
    have l2' : (Str.ofString (toString ((chk (tl (mkS t)) : Nat) : Int))).length ≤ 7 := l2
    refine w_addS (fit_add (fit_app l1 c1 (Nat.le_refl _)) l2' (by decide)) ?_
    (repeat array_get_dec)
    refine w_addS (fit_add (fit_app (fit_app l1 c1 (Nat.le_refl _)) l2' (Nat.le_refl _)) c1 (by decide)) ?_
    (repeat array_get_dec)
    refine w_addS (fit_add (fit_app (fit_app (fit_app l1 c1 (Nat.le_refl _)) l2' (Nat.le_refl _)) c1 (Nat.le_refl _)) (Nat.le_of_eq hl) (by omega)) ?_
    (repeat array_get_dec)
    refine w_addS (fit_add (fit_app (fit_app (fit_app (fit_app l1 c1 (Nat.le_refl _)) l2' (Nat.le_refl _)) c1 (Nat.le_refl _)) (Nat.le_of_eq hl) (Nat.le_refl _)) c2 (by omega)) ?_
    rw [frame_txt]
    exact q hg _ s1
theorem okL_framed (M : Nms K mg) : FnOk P w K mg base CX0 2 M.a_framed M.d_framed ["text"] (fun vs H Q _ => ∃ t : Tx, vs = [sv t] ∧ t.length ≤ 1000000 ∧ goodT t ∧ ∀ H', Same H H' → Q (sv (frameL t)) H') :=
  ok_low (ok_framed M) fun vs H Q E ⟨t, e, l, g, q⟩ => ⟨t, e, l, fun _ => q, fun z => absurd g z⟩
theorem ok_checked_number (M : Nms K mg) : FnOk P w K mg base (L2N.CX P w) 2 M.a_checked_number M.d_checked_number ["value", "least", "most"] (spChkNum M.CN) := by
  obtain ⟨dvs, F⟩ := M.F_checked_number
  refine F.ok sc_checked_number (fun vs H Q E h => ?_) (fun cdv A outer s H vs Q E hr h => ?_)
  · obtain ⟨v, m, rfl, _⟩ := h
    rfl
  · refine ⟨_, (pss_cons (ps_if (pt_not (pt_val (pe_call (ok_is_number M) (hr.mono (by decide)) rfl M.g_is_number M.k_is_number M.b_is_number .nil pass0 (pa_cons (pv 0) (pa_cons (pv 1) (pa_cons (pv 2) pa_nil)))))) (pss_one (L2N.ps_raise rfl (L2N.takes_of rfl rfl rfl rfl) (pmk_own1N PySem.F.excBase_ValueError M.XN.xP M.XN.gP M.XN.kP (raises_own M.XN.bP M.XN.tP) rfl (pe_op op_add_str (pe_op op_add_str (pe_op op_add_str pe_str (pe_callTy call_str_int (by rfl) M.T.b_str (by decide +kernel) (pa_cons (pv 1) pa_nil))) pe_str) (pe_callTy call_str_int (by rfl) M.T.b_str (by decide +kernel) (pa_cons (pv 2) pa_nil)))))) pss_nil)
    (pss_one (ps_ret (pv 0)))), ?_⟩
    try dsimp only [cxOf, Cx.nox]
    obtain ⟨v, m, rfl, hm, q, e⟩ := h
    refine w_start (σ' := [some (vIB v), some (.int 0), some (.int (m : Int))]) rfl ?_
    have l1 : (Str.ofString (toString (0 : Int))).length ≤ 7 := by decide +kernel
    have l2 := numS_len (n := m) (by omega)
    have c1 : (Str.ofString "no number from ").length ≤ 15 := by decide +kernel
    have c2 : (Str.ofString " to ").length ≤ 4 := by decide +kernel
    (repeat array_get_dec)
    refine ⟨v, m, rfl, ?_⟩
    (repeat array_get_dec)
    cases hv : (inIB m v).isSome with
    | true =>
      refine iteF' rfl ?_
      (repeat array_get_dec)
      exact q hv
    | false =>
      refine iteT' rfl ?_
      (repeat array_get_dec)
      refine w_strOf (by decide) ?_
      (repeat array_get_dec)
      refine w_addS (fit_add c1 l1 (by decide)) ?_
      (repeat array_get_dec)
      refine w_addS (fit_add (fit_app c1 l1 (Nat.le_refl _)) c2 (by decide)) ?_
      (repeat array_get_dec)
      refine w_strOf (log_small m (by omega)) ?_
      (repeat array_get_dec)
      refine w_addS (fit_add (fit_app (fit_app c1 l1 (Nat.le_refl _)) c2 (Nat.le_refl _)) l2 (by decide)) ?_
      (repeat array_get_dec)
      exact e hv
theorem ok_snap_name (M : Nms K mg) : FnOk P w K mg base (L2N.CX P w) 3 M.a_snap_name M.d_snap_name ["number"] (spSnapN M.CN) := by
  refine M.F_snap_name.okN sc_snap_name (fun vs H Q E h => ?_) (fun cdv A outer s H vs Q E hr h => ?_)
  · obtain ⟨v, rfl, _⟩ := h
    rfl
  · refine ⟨_, (pss_cons (ps_set (i := 1) sc_snap_name.nd rfl (Or.inl rfl) (pe_callTy call_str_int (by rfl) M.T.b_str (by decide +kernel) (pa_cons (pe_callS (ok_checked_number M) (hr.mono (by decide)) rfl M.g_checked_number M.k_checked_number M.b_checked_number (fun σ => L2N.passAt (L2N.takes_of rfl rfl rfl rfl) σ) (pa_cons (pv 0) (pa_cons pe_int (pa_cons pe_int pa_nil)))) pa_nil)))
    (pss_one (ps_ret (pe_op op_add_str (pe_op op_add_str pe_str (pe_op op_mul_str pe_str (pe_op op_sub pe_int (pe_callB (id := "len") (r := fun xs H Q => ∃ x n, xs = [x] ∧ LenV K x H n ∧ Q (V.int ((n : Nat) : Int)) H) call_len (by rfl) M.T.b_len (by decide +kernel) (pa_cons (pv 1) pa_nil))))) (pv 1))))), ?_⟩
    try dsimp only [cxOf, Cx.nox]
    obtain ⟨v, rfl, q, e⟩ := h
    refine w_start (σ' := [some (vIB v), none]) rfl ?_
    (repeat array_get_dec)
    refine ⟨v, 999999, rfl, by decide, fun hv => ?_, fun hv => e (by simpa using hv)⟩
    obtain ⟨n, hn⟩ := Option.isSome_iff_exists.mp hv
    obtain ⟨rfl, hn6⟩ := strsOf hn
    replace q := q n hn
    unfold vIB
    (repeat array_get_dec)
    refine w_strOf (log_small n (by omega)) ?_
    have l6 : (TL.numL n).length ≤ 6 := TL.numL_len (by decide) (by omega)
    have ln : (Str.ofString (toString ((n : Nat) : Int))).length = (TL.numL n).length := by rw [len_tl, show tl _ = TL.numL _ from TL.tl_num _]
    have lz : (Str.ofString (toString ((n : Nat) : Int))).length ≤ sizeLine := by rw [ln, sizeLine_eq]; omega
    (repeat array_get_dec)
    have e6 : (6 : Int) - (((Str.ofString (toString ((n : Nat) : Int))).length : Nat) : Int) = ((6 - (TL.numL n).length : Nat) : Int) := by rw [ln]; omega
    obtain ⟨m1, m2⟩ := mul0 (6 - (TL.numL n).length) (by omega)
    refine ⟨_, ((6 - (TL.numL n).length : Nat) : Int), rfl, congrArg V.int e6, m1, ?_⟩
    rw [m2]
    have c1 : (Str.ofString "snap.").length ≤ 5 := by decide +kernel
    have c2 : (mkS (List.replicate (6 - (TL.numL n).length) 48)).length ≤ 6 := by rw [len_tl]; show (List.replicate _ _).length ≤ 6; rw [List.length_replicate]; omega
    refine w_addS (fit_add c1 c2 (by decide)) ?_
    (repeat array_get_dec)
    refine w_addS (fit_add (fit_app c1 c2 (Nat.le_refl _)) (Nat.le_of_eq ln) (by omega)) ?_
    rw [snap_txt]
    exact q
theorem okL_snap_name (M : Nms K mg) : FnOk P w K mg base CX0 3 M.a_snap_name M.d_snap_name ["number"] (fun vs H Q _ => ∃ n : Nat, vs = [.int (n : Int)] ∧ n ≤ 999999 ∧ Q (sv (snapL n)) H) :=
  ok_low (ok_snap_name M) fun vs H Q E ⟨n, e, l, q⟩ => ⟨.int n, e, fun m hm => by
    obtain ⟨z, _⟩ := strsOf hm
    have : n = m := by injection z with z; omega
    rw [← this]; exact q, fun z => by
    have z' : (if 0 ≤ (n : Int) ∧ (n : Int) ≤ (999999 : Int) then some (n : Int).toNat else none) = none := z
    rw [if_pos ⟨by omega, by omega⟩] at z'
    cases z'⟩
theorem ok_is_snap (M : Nms K mg) : FnOk P w K mg base CX0 1 M.a_is_snap M.d_is_snap ["name"] spIsSnap := by
  refine M.F_is_snap.ok sc_is_snap (fun vs H Q E h => ?_) (fun cdv A outer s H vs Q E hr h => ?_)
  · obtain ⟨l, rfl, _⟩ := h
    rfl
  · refine ⟨_, (pss_cons (ps_set (i := 1) sc_is_snap.nd rfl (Or.inl rfl) (pe_slice sl_str (pv 0) (po_some pe_int) po_none))
    (pss_one (ps_ret (pe_and (pe_bm PySem.F.plainAttrs_str PySem.F.slot_str_startswith PySem.F.type_str_startswith mt_startswith (pv 0) (pa_cons pe_str pa_nil)) (pe_and (pe_cmpR op_eq (pe_callB (id := "len") (r := fun xs H Q => ∃ x n, xs = [x] ∧ LenV K x H n ∧ Q (V.int ((n : Nat) : Int)) H) call_len (by rfl) M.T.b_len (by decide +kernel) (pa_cons (pv 1) pa_nil)) pe_int (nomark _)) (pe_one (pe_notT (pe_lc (own := [("sign", 2)]) rfl sc_is_snap.nd (pi_str (pv 1)) (blkOk_by (N := ["name", "figures", "sign"]) (sc := defScope s_is_snap) (own := [("sign", 2)]) (by decide +kernel)) (fun _ _ _ _ _ => (pg_name (i := 2) sc_is_snap.nd rfl (Or.inl rfl))) (fun _ _ _ _ _ => pts_one (pt_cmpR op_notIn_sign (pv 2) pe_str rfl)) (fun _ _ _ _ _ => (pv 2)))))))))), ?_⟩
    try dsimp only [cxOf, Cx.nox]
    obtain ⟨l, rfl, hl, q⟩ := h
    refine w_start (σ' := [some (.str (mkS l)), none, none]) rfl ?_
    have hl' : (mkS l).length ≤ sizeLine := by rw [sizeLine_eq]; show l.toArray.size ≤ _; simp; omega
    (repeat array_get_dec)
    rw [cut_from5]
    have lu' : (mkS ((tl (mkS l)).drop 5)).length ≤ sizeLine := by rw [len_tl, sizeLine_eq]; show (l.drop 5).length ≤ _; rw [List.length_drop]; omega
    (repeat array_get_dec)
    refine ⟨_, _, rfl, rfl, ?_⟩
    rw [sw5]
    (repeat array_get_dec)
    unfold isSnapL at q
    refine ite2 (fun h1 => ?_) (fun h1 => ?_)
    · (repeat array_get_dec)
      have ed : decide (V.int (((mkS ((tl (mkS l)).drop 5)).length : Nat) : Int) = V.int 6) = decide ((l.drop 5).length = 6) := by
        rw [len_tl, Bool.eq_iff_iff, decide_eq_true_eq, decide_eq_true_eq]
        show V.int (((l.drop 5).length : Nat) : Int) = V.int 6 ↔ _
        exact ⟨fun z => by have := V.int.inj z; omega, fun z => by rw [z]; rfl⟩
      rw [ed]
      rw [h1, Bool.true_and] at q
      refine ite2 (fun h2 => ?_) (fun h2 => ?_)
      · rw [h2, Bool.true_and] at q
        (repeat array_get_dec)
        intro D hD
        refine lc_filter (bad := fun c => !isDig c) lu' hD (fun _ => rfl) (fun _ => rfl) ?_ ?_
        · intro c H' R hc hR
          (repeat array_get_dec)
          refine ⟨c, Str.ofString "0123456789", rfl, rfl, ?_⟩
          rw [dig_in]
          (repeat array_get_dec)
          exact hR
        intro H' s1 g1
        (repeat array_get_dec)
        rw [filt_empty]
        have ea : ((tl (mkS ((tl (mkS l)).drop 5))).all fun c => !!isDig c) = (l.drop 5).all isDig := by
          congr 1
          funext c
          exact Bool.not_not _
        rw [ea, Bool.not_not]
        exact q _ s1
      · have h2' : decide ((l.drop 5).length = 6) = false := by simpa using h2
        rw [h2', Bool.false_and] at q
        exact q _ (Same.refl _)
    · have h1' : (l.take 5 == pre) = false := by simpa using h1
      rw [h1', Bool.false_and] at q
      exact q _ (Same.refl _)
theorem ok_number_of (M : Nms K mg) : FnOk P w K mg base (L2N.CX P w) 2 M.a_number_of M.d_number_of ["name"] (spNumOf M.CP) := by
  refine M.F_number_of.okN sc_number_of (fun vs H Q E h => ?_) (fun cdv A outer s H vs Q E hr h => ?_)
  · obtain ⟨l, rfl, _⟩ := h
    rfl
  · refine ⟨_, (pss_cons (ps_if (pt_not (pt_val (pe_call (ok_is_snap M) (hr.mono (by decide)) rfl M.g_is_snap M.k_is_snap M.b_is_snap .nil pass0 (pa_cons (pv 0) pa_nil)))) (pss_one (L2N.ps_raise rfl (L2N.takes_of rfl rfl rfl rfl) (L2N.pmk_own PySem.F.excBase_ValueError M.XP.xP M.XP.gP M.XP.kP (raises_own M.XP.bP M.XP.tP) rfl))) pss_nil)
    (pss_one (ps_ret (pe_callTy call_int_str (by rfl) M.T.b_int (by decide +kernel) (pa_cons (pe_slice sl_str (pv 0) (po_some pe_int) po_none) pa_nil))))), ?_⟩
    try dsimp only [cxOf, Cx.nox]
    obtain ⟨l, rfl, hl, q, e⟩ := h
    refine w_start (σ' := [some (.str (mkS l))]) rfl ?_
    have hl' : (mkS l).length ≤ sizeLine := by rw [sizeLine_eq]; show l.toArray.size ≤ _; simp; omega
    (repeat array_get_dec)
    refine ⟨l, rfl, hl, fun H1 s1 => ?_⟩
    (repeat array_get_dec)
    refine ite2 (fun h1 => ?_) (fun h1 => ?_)
    · (repeat array_get_dec)
      exact e (by simpa using h1) _ s1
    · have hp : isSnapL l = true := by simpa using h1
      (repeat array_get_dec)
      rw [cut_from5]
      have hp2 := hp
      unfold isSnapL at hp2
      rw [Bool.and_eq_true, Bool.and_eq_true, decide_eq_true_eq] at hp2
      have hAll : NumText.AllDigits (mkS (l.drop 5)).cps.toList := fun c hc => by
        have := List.all_eq_true.mp hp2.2.2 c hc
        unfold isDig at this
        rw [Bool.and_eq_true, decide_eq_true_eq, decide_eq_true_eq] at this
        exact this
      have ll : (mkS (l.drop 5)).length = 6 := by rw [len_tl]; exact hp2.2.1
      refine ⟨_, _, rfl, intText_digits hAll (fun z => by have z' : (l.drop 5) = [] := z; rw [z'] at hp2; exact absurd hp2.2.1 (by decide)) (by rw [ll]; decide), by show (mkS (l.drop 5)).length ≤ 640; rw [ll]; decide, ?_⟩
      exact q hp _ s1
theorem okL_number_of (M : Nms K mg) : FnOk P w K mg base CX0 2 M.a_number_of M.d_number_of ["name"] (fun vs H Q _ => ∃ l : Tx, vs = [sv l] ∧ l.length ≤ 100 ∧ isSnapL l = true ∧ ∀ H', Same H H' → Q (.int ((numS l : Nat) : Int)) H') :=
  ok_low (ok_number_of M) fun vs H Q E ⟨l, e, hl, hs, q⟩ => ⟨l, e, hl, fun _ => q, fun z => by rw [hs] at z; cases z⟩
end
end K54

namespace K54
open PySem PySem.Spec PyProof.Rows L2
/-! ### over a list from its end -/
theorem w_iRev {K : PySem.W.Frag} {ta : TA} {σ : L2.St} {H : Hp} {R : L2.It → Hp → Prop} (h : ta σ H fun vs H1 => ∃ (a : Addr) (xs : List V), vs = [.ref a] ∧ SqL K H1 a xs ∧ R (Itv K a xs.length) H1) : iRev K ta σ H R := h
theorem for_rev {K : PySem.W.Frag} {a : Addr} {xs : List V} {g : TG} {tb : TS} {D : Ends} {σ : L2.St} {H : Hp} (Pv : Nat → L2.St → Hp → Prop) (h0 : Pv 0 σ H) (hl : ∀ i σ H, i ≤ xs.length → Pv i σ H → SqL K H a xs)
    (hs : ∀ i x σ H, xs.reverse[i]? = some x → Pv i σ H → g x σ H fun σ2 H2 => tb { D with nx := Pv (i + 1), ct := Pv (i + 1), bk := D.nx } σ2 H2) (hd : ∀ σ H, Pv xs.length σ H → D.nx σ H) :
    ∃ W : Nat → Nat → L2.St → Hp → Prop, (∃ m, W 0 m σ H) ∧ ∀ i m σ H, W i m σ H →
      ((Itv K a xs.length).stop i H ∧ D.nx σ H) ∨ ((Itv K a xs.length).go i H ∧ ∃ N : L2.St → Hp → Prop, (∀ σ' H', N σ' H' → ∃ m', m' < m ∧ W (i + 1) m' σ' H') ∧ ∀ x H', (Itv K a xs.length).yld i H x H' → g x σ H' fun σ2 H2 => tb { D with nx := N, ct := N, bk := D.nx } σ2 H2) := by
  refine ⟨fun i m σ H => m = xs.length - i ∧ i ≤ xs.length ∧ Pv i σ H, ⟨xs.length, by simp, Nat.zero_le _, h0⟩, ?_⟩
  rintro i m σ H ⟨rfl, hi, p⟩
  have q := hl i σ H hi p
  by_cases hlt : i < xs.length
  · have hr : xs[xs.length - 1 - i]? = some xs[xs.length - 1 - i] := List.getElem?_eq_getElem (by omega)
    have hr2 : xs.reverse[i]? = some xs[xs.length - 1 - i] := by rw [List.getElem?_reverse hlt, hr]
    refine .inr ⟨⟨hlt, xs, _, q, hr⟩, Pv (i + 1), fun σ' H' p' => ⟨xs.length - (i + 1), by omega, rfl, hlt, p'⟩, fun x H' y => ?_⟩
    obtain ⟨e, y⟩ := y
    subst e
    exact hs i x σ _ (by rw [hr2, ← hr, y xs q]) p
  · have e : i = xs.length := by omega
    subst e
    exact .inl ⟨Nat.le_refl _, hd σ H p⟩
/-! ### disks with room -/
def okN (x : Tx) : Prop := x.length ≤ 100 ∧ ∀ c ∈ x, c < 1114112
structure cap (D : DS) (k : Nat) : Prop where
  kept : D.kept.length + k ≤ 1000
  late : D.late.length + k ≤ 1000
  sure : D.sure.length + k < 64
  names : D.names.length + k < 64
  ch : D.ch.length + k ≤ 1000
  ndk : (D.kept.map (·.1)).Nodup
  ndl : (D.late.map (·.1)).Nodup
  tx : ∀ i, (keptD D i).length + (lateD D i).length + 2000 * k ≤ 300000
  na : ∀ p ∈ D.names, okN p.1
theorem cap.bd {D : DS} {k : Nat} (c : cap D k) : bd D := by
  refine ⟨by have := c.kept; omega, by have := c.late; omega, by have := c.names; omega, by have := c.sure; omega, by have := c.ch; omega, fun p m => ?_, fun p m => ?_, fun p m => (c.na p m).2⟩
  · have := c.tx p.1
    have e : keptD D p.1 = p.2 := by unfold keptD; rw [getA_of_mem c.ndk (x := p.1) (v := p.2) m]; rfl
    rw [e] at this
    omega
  · have := c.tx p.1
    have e : lateD D p.1 = p.2 := by unfold lateD; rw [getA_of_mem c.ndl (x := p.1) (v := p.2) m]; rfl
    rw [e] at this
    omega
theorem cap.less {D : DS} {k m : Nat} (c : cap D k) (h : m ≤ k) : cap D m := ⟨by have := c.kept; omega, by have := c.late; omega, by have := c.sure; omega, by have := c.names; omega, by have := c.ch; omega, c.ndk, c.ndl, fun i => by have := c.tx i; omega, c.na⟩
def rowCap : Row → Prop
  | .make x => okN x
  | .write _ t => t.length ≤ 2000
  | .move _ y => okN y
  | _ => True
theorem getD_put {l : List (Nat × Tx)} {i j : Nat} {t : Tx} : (getA (putA l i t) j).getD [] = if j = i then t else (getA l j).getD [] := by
  rw [getA_put]
  split <;> rfl
theorem applyC_na {l : Nm} {c : Chg} (h : ∀ p ∈ l, okN p.1) (hc : ∀ x n, c = .make x n → okN x) (hm : ∀ x y, c = .move x y → okN y) : ∀ p ∈ applyC l c, okN p.1 := by
  intro p m
  cases c with
  | make x n =>
    rcases putA_mem m with m | m
    · exact h p m
    · rw [m]; exact hc x n rfl
  | move x y =>
    rw [show applyC l (.move x y) = (match getA l x with | some n => putA (dropA l x) y n | none => l) from rfl] at m
    cases e : getA l x with
    | none => rw [e] at m; exact h p m
    | some n =>
      rw [e] at m
      rcases putA_mem m with m | m
      · exact h p (dropA_mem m)
      · rw [m]; exact hm x y rfl
  | drop x => exact h p (dropA_mem m)
theorem cap_ch {D : DS} {k : Nat} (b : cap D (k + 1)) {c : Chg} (hc : ∀ x n, c = .make x n → okN x) (hm : ∀ x y, c = .move x y → okN y) : cap (chD D c) k := by
  refine ⟨by have := b.kept; show D.kept.length + k ≤ _; omega, by have := b.late; show D.late.length + k ≤ _; omega, by have := b.sure; show D.sure.length + k < _; omega, ?_, ?_, b.ndk, b.ndl, fun i => by have := b.tx i; show (keptD D i).length + (lateD D i).length + _ ≤ _; omega, applyC_na b.na hc hm⟩
  · have := applyC_len D.names c
    have := b.names
    show (applyC D.names c).length + k < _
    omega
  · have := b.ch
    show (D.ch ++ [c]).length + k ≤ _
    rw [List.length_append]
    simp
    omega
theorem cap_put {D : DS} {k : Nat} (b : cap D (k + 1)) {i : Nat} {t u : Tx} (h : t.length + u.length + 2000 * k ≤ 300000) : cap { D with kept := putA D.kept i t, late := putA D.late i u } k := by
  have k1 := putA_len (l := D.kept) (x := i) (v := t)
  have k2 := putA_len (l := D.late) (x := i) (v := u)
  refine ⟨by have := b.kept; show (putA D.kept i t).length + k ≤ _; omega, by have := b.late; show (putA D.late i u).length + k ≤ _; omega, by have := b.sure; show D.sure.length + k < _; omega, by have := b.names; show D.names.length + k < _; omega, by have := b.ch; show D.ch.length + k ≤ _; omega, putA_nodup b.ndk, putA_nodup b.ndl, fun j => ?_, b.na⟩
  have tj := b.tx j
  unfold keptD lateD at tj ⊢
  show ((getA (putA D.kept i t) j).getD []).length + ((getA (putA D.late i u) j).getD []).length + _ ≤ _
  rw [getD_put, getD_put]
  split <;> omega
theorem cap_step {D : DS} {k : Nat} (b : cap D (k + 1)) (r : Row) (h : rowCap r) : cap (step D r).1 k := by
  have up := b.less (Nat.le_succ k)
  cases r with
  | make x =>
    simp only [step]
    split
    · exact up
    · have b1 : cap (openD D) k := by
        refine cap_put b ?_
        simp
        have := b.tx 0
        omega
      refine ⟨b1.kept, b1.late, b1.sure, ?_, ?_, b1.ndk, b1.ndl, b1.tx, ?_⟩
      · have := applyC_len D.names (.make x D.next)
        have := b.names
        show (applyC D.names (.make x D.next)).length + k < _
        omega
      · have := b.ch
        show (D.ch ++ [Chg.make x D.next]).length + k ≤ _
        rw [List.length_append]; simp; omega
      · exact applyC_na (c := .make x D.next) b.na (fun y n e => by cases e; exact h) (fun y z e => by cases e)
  | names => exact ⟨up.kept, up.late, up.names, up.names, by have := up.ch; show 0 + k ≤ _; omega, up.ndk, up.ndl, up.tx, up.na⟩
  | write x t =>
    simp only [step]
    cases e : getA D.names x with
    | none => exact up
    | some i =>
      dsimp only
      split
      · exact up
      · have ht : t.length ≤ 2000 := h
        have ti := b.tx i
        have k2 := putA_len (l := D.late) (x := i) (v := lateD D i ++ t)
        refine ⟨up.kept, by have := b.late; show (putA D.late i _).length + k ≤ _; omega, up.sure, up.names, up.ch, up.ndk, putA_nodup b.ndl, fun j => ?_, up.na⟩
        have tj := b.tx j
        have e : lateD (writeD D i t) j = if j = i then lateD D i ++ t else lateD D j := getD_put
        show (keptD D j).length + (lateD (writeD D i t) j).length + _ ≤ _
        rw [e]
        split
        · rename_i ej
          subst ej
          rw [List.length_append]
          omega
        · omega
  | sync x =>
    simp only [step]
    cases e : getA D.names x with
    | none => exact up
    | some i =>
      refine cap_put b ?_
      have := b.tx i
      unfold readD
      rw [List.length_append]
      simp
      omega
  | move x y =>
    simp only [step]
    cases e : getA D.names x with
    | none => exact up
    | some i =>
      dsimp only
      split
      · exact up
      · exact cap_ch b (fun z n e => by cases e) (fun z w e => by cases e; exact h)
  | drop x =>
    simp only [step]
    cases e : getA D.names x with
    | none => exact up
    | some i => exact cap_ch b (fun z n e => by cases e) (fun z w e => by cases e)
  | cut x v =>
    simp only [step]
    cases e : getA D.names x with
    | none => exact up
    | some i =>
      dsimp only
      cases inIB (readD D i).length v with
      | none => exact up
      | some m =>
        refine cap_put b ?_
        have := b.tx i
        rw [List.length_take]
        unfold readD
        rw [List.length_append]
        simp
        omega
/-! ### snapshots on disks, as data -/
def viewD (D : DS) : List (Tx × Tx) := D.names.map fun p => (p.1, readD D p.2)
def asideL : Tx := tl (Str.ofString "snap.new")
def wholeT (u : Tx) : Option Tx := match oneFr u with
  | some (t, k) => if k = u.length then some t else none
  | none => none
def snapV (l : List (Tx × Tx)) : List Tx := (srt (l.map (·.1))).filter isSnapL
def wholeV (l : List (Tx × Tx)) (x : Tx) : Option Tx := (getA l x).bind wholeT
def loadV (l : List (Tx × Tx)) : Option (Nat × Tx) := (snapV l).reverse.findSome? fun x => (wholeV l x).map fun t => (numS x, t)
theorem view_get {D : DS} {x : Tx} : getA (viewD D) x = (getA D.names x).map (readD D) := by
  unfold viewD
  induction D.names with
  | nil => rfl
  | cons p r ih =>
    rw [List.map_cons]
    by_cases e : p.1 = x
    · rw [getA_pos (p := (p.1, readD D p.2)) e, getA_pos e]; rfl
    · rw [getA_neg (p := (p.1, readD D p.2)) e, getA_neg e, ih]
theorem view_keys (D : DS) : (viewD D).map (·.1) = D.names.map (·.1) := by
  unfold viewD
  rw [List.map_map]; rfl
def dropAll (D : DS) (l : List Tx) : DS := l.foldl (fun D x => (step D (.drop x)).1) D
theorem dropAll_cons (D : DS) (x : Tx) (r : List Tx) : dropAll D (x :: r) = dropAll (step D (.drop x)).1 r := rfl
theorem dropAll_snoc (D : DS) (x : Tx) (r : List Tx) : dropAll D (r ++ [x]) = (step (dropAll D r) (.drop x)).1 := by
  unfold dropAll
  rw [List.foldl_append]; rfl
theorem cap_drops {k : Nat} : ∀ {l : List Tx} {D : DS}, cap D (k + l.length) → cap (dropAll D l) k
  | [], _, c => c
  | x :: r, D, c => by
    rw [dropAll_cons]
    exact cap_drops (cap_step (k := k + r.length) c (.drop x) trivial)
theorem wf_drops : ∀ {l : List Tx} {D : DS}, wf D → wf (dropAll D l)
  | [], _, w => w
  | x :: r, D, w => by
    rw [dropAll_cons]
    exact wf_drops (wf_step w _)
theorem drop_names {D : DS} {x : Tx} : (step D (.drop x)).1.names = dropA D.names x := by
  simp only [step]
  cases e : getA D.names x with
  | none =>
    show D.names = _
    unfold dropA
    rw [List.filter_eq_self.mpr]
    intro p hp
    refine decide_eq_true fun z => ?_
    exact getA_none.mp e (z ▸ List.mem_map_of_mem (f := (·.1)) hp)
  | some i => rfl
def dropN (l : Nm) (xs : List Tx) : Nm := l.filter fun p => decide (p.1 ∉ xs)
theorem drops_names : ∀ {l : List Tx} {D : DS}, (dropAll D l).names = dropN D.names l
  | [], D => by
    unfold dropN
    rw [List.filter_eq_self.mpr (fun p _ => by simp)]
    rfl
  | x :: r, D => by
    rw [dropAll_cons, drops_names, drop_names]
    unfold dropN dropA
    rw [List.filter_filter]
    apply List.filter_congr
    intro p _
    rw [← Bool.decide_and]
    apply decide_eq_decide.mpr
    simp only [List.mem_cons, not_or]
    exact ⟨fun ⟨a, b⟩ => ⟨b, a⟩, fun ⟨a, b⟩ => ⟨b, a⟩⟩
theorem drop_files {D : DS} {x : Tx} : (step D (.drop x)).1.kept = D.kept ∧ (step D (.drop x)).1.late = D.late ∧ (step D (.drop x)).1.next = D.next ∧ (step D (.drop x)).1.sure = D.sure := by
  simp only [step]
  cases getA D.names x <;> exact ⟨rfl, rfl, rfl, rfl⟩
theorem drops_files : ∀ {l : List Tx} {D : DS}, (dropAll D l).kept = D.kept ∧ (dropAll D l).late = D.late ∧ (dropAll D l).next = D.next ∧ (dropAll D l).sure = D.sure
  | [], _ => ⟨rfl, rfl, rfl, rfl⟩
  | x :: r, D => by
    rw [dropAll_cons]
    obtain ⟨a, b, c, d⟩ := drops_files (l := r) (D := (step D (.drop x)).1)
    obtain ⟨e, f, g, h⟩ := drop_files (D := D) (x := x)
    exact ⟨a.trans e, b.trans f, c.trans g, d.trans h⟩
def asideD (D : DS) (u : Tx) : DS := (step (step (step (dropAll D (if hasA D.names asideL = true then [asideL] else [])) (.make asideL)).1 (.write asideL u)).1 (.sync asideL)).1
def nameD (D : DS) (n : Nat) : DS := syncN (step D (.move asideL (snapL n))).1
def olderL (D : DS) (n : Int) : List Tx := (snapV (viewD D)).filter fun x => decide (((numS x : Nat) : Int) < n)
def olderD (D : DS) (n : Int) : DS := syncN (dropAll D (olderL D n))
def goneL (l : List (Tx × Tx)) : List Tx := ((snapV l).filter fun x => match loadV l with | none => true | some p => decide (x ≠ snapL p.1)) ++ (if hasA l asideL = true then [asideL] else [])
def cleanD (D : DS) : DS := syncN (dropAll D (goneL (viewD D)))
end K54

namespace K54
open PySem PySem.Spec PyProof.Rows L2
local macro_rules | `(tactic| array_mem_dec) => `(tactic| first | with_reducible assumption | with_reducible exact upd_same | ((with_reducible apply same_at); (with_reducible assumption); array_mem_dec) | ((with_reducible apply upd_atN); (with_reducible assumption); array_mem_dec) | ((with_reducible apply upd_at); (first | with_reducible assumption | (apply Ne.symm; with_reducible assumption)); array_mem_dec))
local macro_rules | `(tactic| array_get_dec) => `(tactic| first | (with_reducible refine w_seq ?_) | (with_reducible refine w_asg ?_) | (with_reducible refine w_drop ?_) | (with_reducible refine w_ret ?_) | (with_reducible refine w_retN ?_) | (with_reducible refine w_next ?_) | (with_reducible refine w_break ?_) | (with_reducible refine w_cont ?_) | (with_reducible refine w_ifS ?_) | (with_reducible refine w_sub ?_) | (with_reducible refine w_c ?_) | (with_reducible refine w_op ?_) | (with_reducible refine w_un ?_) | (with_reducible refine w_test ?_) | (with_reducible refine w_B ?_) | (with_reducible refine w_yes ?_) | (with_reducible refine w_not ?_) | (with_reducible refine w_and ?_) | (with_reducible refine w_or ?_) | (with_reducible refine w_andV ?_) | (with_reducible refine w_orV ?_) | (with_reducible refine w_notV ?_) | (with_reducible refine w_ifE ?_) | (with_reducible refine w_nil ?_) | (with_reducible refine w_cons ?_) | (with_reducible refine w_call ?_) | (with_reducible refine w_callS ?_) | (with_reducible refine w_cB ?_) | (with_reducible refine w_lst ?_) | (with_reducible refine w_tup ?_) | (with_reducible refine w_sl ?_) | (with_reducible refine w_noPart ?_) | (with_reducible refine w_part ?_) | (with_reducible refine w_bm ?_) | (with_reducible refine w_bm0 ?_) | (with_reducible refine w_strTy ?_) | (with_reducible refine w_bl ?_) | (with_reducible refine w_int1 ?_) | (with_reducible refine w_str1 ?_) | (with_reducible refine w_rI0 ?_) | (with_reducible refine w_rU ?_) | (with_reducible refine w_eqI ?_) | (with_reducible refine w_eqS ?_) | (with_reducible refine w_neI ?_) | (with_reducible refine w_neS ?_) | (with_reducible refine w_bl2 ?_) | (with_reducible refine w_isN ?_) | (with_reducible refine w_for ?_) | (with_reducible refine w_iRng1 ?_) | (with_reducible refine w_iRng2 ?_) | (with_reducible refine w_iList ?_) | (with_reducible refine w_iTup ?_) | (with_reducible refine w_iStr ?_) | (with_reducible refine w_lc ?_) | (with_reducible refine w_M1 ?_) | (with_reducible refine w_M0 ?_) | (with_reducible refine w_isS ?_) | ((with_reducible apply w_name); (simp only [wipe, List.map_cons, List.map_nil, List.foldl_cons, List.foldl_nil, List.set_cons_zero, List.set_cons_succ]; exact rfl)) | ((with_reducible apply w_var); exact rfl) | ((with_reducible apply w_lstTy); array_mem_dec) | ((with_reducible apply w_lenL); array_mem_dec) | ((with_reducible apply w_lenT); array_mem_dec) | ((with_reducible apply w_listOf); array_mem_dec) | ((with_reducible apply w_lenS); (first | (with_reducible assumption) | omega | (rw [sizeLine_eq]; omega))) | ((with_reducible apply w_slS); (first | (with_reducible assumption) | omega | (rw [sizeLine_eq]; omega))) | ((with_reducible apply w_wipe); exact rfl) | ((with_reducible apply w_acc); array_mem_dec; (try (first | (with_reducible assumption) | omega | (rw [sizeLine_eq]; omega)))) | ((with_reducible apply w_itl); array_mem_dec) | ((with_reducible apply w_itt); array_mem_dec) | ((with_reducible apply w_append); array_mem_dec; (try (first | (with_reducible assumption) | omega | (rw [sizeLine_eq]; omega)))) | ((with_reducible apply w_rng1); (first | (with_reducible assumption) | omega); (first | (with_reducible assumption) | omega)) | ((with_reducible apply w_ixL); array_mem_dec; (first | (with_reducible assumption) | exact rfl | (apply atI_nat; (with_reducible assumption)) | exact atI_last _ _)) | ((with_reducible apply w_ixT); array_mem_dec; (first | (with_reducible assumption) | exact rfl | (apply atI_nat; (with_reducible assumption)) | exact atI_last _ _)) | ((with_reducible apply w_iT); first | exact rfl | (with_reducible assumption)) | ((with_reducible apply w_iF); first | exact rfl | (with_reducible assumption)) | ((with_reducible apply w_isiI (b := true)); decide +kernel) | ((with_reducible apply w_isiI (b := false)); decide +kernel) | ((with_reducible apply w_isiB (b := true)); decide +kernel) | ((with_reducible apply w_isiB (b := false)); decide +kernel) | ((with_reducible apply w_isiS (b := true)); decide +kernel) | ((with_reducible apply w_isiS (b := false)); decide +kernel) | ((with_reducible apply w_isiN (b := true)); decide +kernel) | ((with_reducible apply w_isiN (b := false)); decide +kernel) | ((with_reducible apply w_isiL (b := true)); array_mem_dec; decide +kernel) | ((with_reducible apply w_isiL (b := false)); array_mem_dec; decide +kernel) | ((with_reducible apply w_isiT (b := true)); array_mem_dec; decide +kernel) | ((with_reducible apply w_isiT (b := false)); array_mem_dec; decide +kernel) | (with_reducible refine w_notT ?_) | (with_reducible refine w_chain ?_) | ((with_reducible apply w_trL); array_mem_dec) | ((with_reducible apply w_gTup); array_mem_dec; exact rfl) | ((with_reducible apply w_gLst); array_mem_dec; exact rfl) | (with_reducible refine w_gCons ?_) | (with_reducible refine w_gNil ?_) | (with_reducible refine w_Fld ?_) | (with_reducible refine w_sFld ?_) | (with_reducible refine w_dget ?_) | (with_reducible refine w_dIn ?_) | (with_reducible refine w_dNotIn ?_) | (with_reducible refine w_sDPut ?_) | (with_reducible refine w_dnewK ?_) | (with_reducible refine w_meth ?_) | (with_reducible refine w_make ?_) | (with_reducible refine w_methS ?_) | (with_reducible refine w_makeS ?_) | (with_reducible refine w_dpop ?_) | ((with_reducible apply w_fld1); array_mem_dec; (with_reducible assumption); (with_reducible assumption); exact rfl) | ((with_reducible apply w_sfld1); array_mem_dec; (with_reducible assumption); (with_reducible assumption); exact Nat.le_of_ble_eq_true rfl) | ((with_reducible apply w_meth1); array_mem_dec; exact rfl) | ((with_reducible apply w_dgetS); array_mem_dec; (with_reducible assumption)) | ((with_reducible apply w_dgetI); array_mem_dec; (with_reducible assumption)) | ((with_reducible apply w_dinS); array_mem_dec) | ((with_reducible apply w_dputI); array_mem_dec; (try (first | (with_reducible assumption) | omega | (rw [sizeLine_eq]; omega)))) | ((with_reducible apply w_dputS); array_mem_dec; (try (first | (with_reducible assumption) | omega | (rw [sizeLine_eq]; omega)))) | ((with_reducible apply w_isD); array_mem_dec) | ((with_reducible apply w_dictD); array_mem_dec) | ((with_reducible apply w_dpopS); array_mem_dec; (with_reducible assumption)) | (with_reducible refine w_iRev ?_) | ((with_reducible apply w_setL); array_mem_dec; exact rfl) | ((with_reducible apply w_cat); array_mem_dec; array_mem_dec; (try (first | (with_reducible assumption) | omega | (rw [sizeLine_eq]; omega)))) | (with_reducible refine w_iKeys ?_) | (with_reducible refine w_dget2 ?_) | (with_reducible refine w_scX ?_) | ((with_reducible apply w_keysF); array_mem_dec) | ((with_reducible apply w_dgetSF); array_mem_dec; (with_reducible assumption)))
/-! ### the snapshots' walks -/
def spOpL (CD : Addr) (vs0 : List V) (row : Row) (a : Addr) (vs : List V) (H : Hp) (Q : VK) : Prop := ∃ fp D, vs = .ref a :: vs0 ∧ DiskAt CD H a fp D ∧ bd (step D row).1 ∧ (step D row).2 = .done ∧ ∀ H' fp', DiskAt CD H' a fp' (step D row).1 → Fr fp fp' H H' → Q .non H'
def spSnaps (CD : Addr) : Sp := fun vs H Q _ => ∃ a fp D, vs = [.ref a] ∧ DiskAt CD H a fp D ∧ (∀ p ∈ D.names, okN p.1) ∧ ∀ p H', Same H H' → H p = none → H' p = some (.lst ((snapV (viewD D)).map sv)) → Q (.ref p) H'
def vOpt : Option Tx → V
  | none => .non
  | some t => sv t
def spWhole (CD CU : Addr) : Sp := fun vs H Q E => ∃ a fp D x, vs = [.ref a, sv x] ∧ DiskAt CD H a fp D ∧ ((getA D.names x).isSome = true → ∀ H', Same H H' → Q (vOpt (wholeV (viewD D) x)) H') ∧ ((getA D.names x).isSome = false → E (.ref CU) none H)
def LoadAt (H : Hp) (v : V) (o : Option (Nat × Tx)) : Prop := match o with
  | none => v = .non
  | some (n, t) => ∃ p, v = .ref p ∧ H p = some (.tup [.int (n : Int), sv t])
theorem LoadAt.same {H H' : Hp} {v : V} {o : Option (Nat × Tx)} (x : LoadAt H v o) (s : Same H H') : LoadAt H' v o := by
  cases o with
  | none => exact x
  | some q => obtain ⟨p, e, h⟩ := x; exact ⟨p, e, s _ _ h⟩
def spLoad (CD : Addr) : Sp := fun vs H Q _ => ∃ a fp D, vs = [.ref a] ∧ DiskAt CD H a fp D ∧ (∀ p ∈ D.names, okN p.1) ∧ ∀ v H', Same H H' → LoadAt H' v (loadV (viewD D)) → Q v H'
theorem done_drop {D : DS} {x : Tx} (h : (getA D.names x).isSome = true) : (step D (.drop x)).2 = .done := by
  simp only [step]
  cases e : getA D.names x with
  | none => rw [e] at h; cases h
  | some i => rfl
theorem drops_done {D : DS} : ∀ {xs : List Tx} {x : Tx}, (getA D.names x).isSome = true → x ∉ xs → (getA (dropAll D xs).names x).isSome = true := by
  intro xs x h nx
  rw [drops_names]
  rw [getA_has] at h ⊢
  obtain ⟨p, hp, rfl⟩ := List.mem_map.mp h
  exact List.mem_map_of_mem (List.mem_filter.mpr ⟨hp, decide_eq_true nx⟩)
theorem snap_in {D : DS} {x : Tx} (h : x ∈ snapV (viewD D)) : (getA D.names x).isSome = true ∧ isSnapL x = true := by
  obtain ⟨a, b⟩ := List.mem_filter.mp h
  refine ⟨getA_has.mpr ?_, b⟩
  rw [← view_keys]
  exact (srt_perm _).mem_iff.mp a
theorem snap_nd {D : DS} (w : wf D) : (snapV (viewD D)).Nodup := by
  refine List.Sublist.nodup List.filter_sublist ((srt_perm _).nodup_iff.mpr ?_)
  rw [view_keys]
  exact w.ndN
theorem snap_len {D : DS} : (snapV (viewD D)).length ≤ D.names.length := by
  refine Nat.le_trans (List.length_filter_le _ _) ?_
  rw [(srt_perm _).length_eq, view_keys, List.length_map]
  exact Nat.le_refl _
theorem okN_of {D : DS} (h : ∀ p ∈ D.names, okN p.1) {x : Tx} (hx : (getA D.names x).isSome = true) : okN x := by
  obtain ⟨p, hp, rfl⟩ := List.mem_map.mp (getA_has.mp hx)
  exact h p hp
section
variable {P : Program} {w : World} {K : PySem.W.Frag} {mg : Str → Option Value} {base : Heap}
theorem okL_Disk_remove (M : Nms K mg) : FnOk P w K mg base CX0 3 M.a_Disk_remove M.d_Disk_remove ["self", "name"] (fun vs H Q _ => ∃ a x, spOpL M.CD [sv x] (.drop x) a vs H Q) :=
  ok_low (ok_Disk_remove M) fun vs H Q E ⟨a, x, fp, D, e, dk, b, hd, q⟩ => ⟨a, x, fp, D, e, dk, b, fun H' fp' dk' fr => by rw [hd]; exact q H' fp' dk' fr⟩
theorem okL_Disk_make (M : Nms K mg) : FnOk P w K mg base CX0 3 M.a_Disk_make M.d_Disk_make ["self", "name"] (fun vs H Q _ => ∃ a x, spOpL M.CD [sv x] (.make x) a vs H Q) :=
  ok_low (ok_Disk_make M) fun vs H Q E ⟨a, x, fp, D, e, dk, b, hd, q⟩ => ⟨a, x, fp, D, e, dk, b, fun H' fp' dk' fr => by rw [hd]; exact q H' fp' dk' fr⟩
theorem okL_Disk_write (M : Nms K mg) : FnOk P w K mg base CX0 2 M.a_Disk_write M.d_Disk_write ["self", "name", "text"] (fun vs H Q _ => ∃ a x t, spOpL M.CD [sv x, sv t] (.write x t) a vs H Q) :=
  ok_low (ok_Disk_write M) fun vs H Q E ⟨a, x, t, fp, D, e, dk, b, hd, q⟩ => ⟨a, x, t, fp, D, e, dk, b, fun H' fp' dk' fr => by rw [hd]; exact q H' fp' dk' fr⟩
theorem ok_snap_names (M : Nms K mg) : FnOk P w K mg base CX0 2 M.a_snap_names M.d_snap_names ["disk"] (spSnaps M.CD) := by
  refine M.F_snap_names.ok sc_snap_names (fun vs H Q E h => ?_) (fun cdv A outer s H vs Q E hr h => ?_)
  · obtain ⟨a, fp, D, rfl, _⟩ := h
    rfl
  · have hu := hu1 hr
    have clD := M.clD
    have nD_kept := M.nD_kept
    have nD_late := M.nD_late
    have nD_names := M.nD_names
    have nD_sure := M.nD_sure
    have nD_changes := M.nD_changes
    have nD_next := M.nD_next
    refine ⟨_, (pss_one (ps_ret (pe_lc (own := [("name", 1)]) rfl sc_snap_names.nd (pi_list (pe_meth0 (pv 0) M.clD M.m_Disk_names (ok_Disk_names M) (hr.mono (by decide)) M.b_Disk_names .nil pass0)) (blkOk_by (N := ["disk", "name"]) (sc := defScope s_snap_names) (own := [("name", 1)]) (by decide +kernel)) (fun _ _ _ _ _ => (pg_name (i := 1) sc_snap_names.nd rfl (Or.inl rfl))) (fun _ _ _ _ _ => pts_one (pt_val (pe_call (ok_is_snap M) (hr.mono (by decide)) rfl M.g_is_snap M.k_is_snap M.b_is_snap .nil pass0 (pa_cons (pv 1) pa_nil)))) (fun _ _ _ _ _ => (pv 1))))), ?_⟩
    try dsimp only [cxOf, Cx.nox]
    obtain ⟨a, fp, D, rfl, dk, ok, q⟩ := h
    obtain ⟨⟨k0, l0, n0, sa0, c0, ts0, efp, ⟨_, ⟨dx0, hi⟩, _, _, _, _, _, _, sm⟩⟩, wfd⟩ := id dk
    refine w_start (σ' := [some (.ref a), none]) rfl ?_
    (repeat array_get_dec)
    refine ⟨a, fp, D, rfl, dk.1, fun r hr2 => ?_⟩
    rw [← view_keys]
    have q1 : upd H r (.lst ((srt ((viewD D).map (·.1))).map sv)) r = some (.lst ((srt ((viewD D).map (·.1))).map sv)) := upd_same
    have s1 : Same H (upd H r (.lst ((srt ((viewD D).map (·.1))).map sv))) := same_upd (Same.refl _) hr2
    have ll : (srt ((viewD D).map (·.1))).length < 64 := by rw [(srt_perm _).length_eq, view_keys, List.length_map]; exact sm.names
    have oks : ∀ x ∈ srt ((viewD D).map (·.1)), okN x := fun x m => by
      have m2 := (srt_perm _).mem_iff.mp m
      rw [view_keys] at m2
      obtain ⟨p, hp, rfl⟩ := List.mem_map.mp m2
      exact ok p hp
    unfold snapV at q
    generalize srt ((viewD D).map (·.1)) = L at *
    generalize upd H r (.lst (L.map sv)) = H1 at *
    (repeat array_get_dec)
    intro A2 hA2
    have nA : A2 ≠ r := fun z => by rw [z, q1] at hA2; cases hA2
    refine lc_list (K := K) (a := r) (xs := L.map sv) (fun i H' => H' A2 = some (.lst (((L.take i).filter isSnapL).map sv)) ∧ ∀ b o, b ≠ A2 → H1 b = some o → H' b = some o) ⟨upd_same, fun b o nb e => by rw [upd_ne nb]; exact e⟩ ?_ ?_ ?_
    · rintro i H' hi ⟨h1, h2⟩
      exact SqL.of (h2 _ _ (Ne.symm nA) q1)
    · rintro i v H' hv ⟨h1, h2⟩
      obtain ⟨x, hx, rfl⟩ := getE_map hv
      have ox := oks x (List.mem_of_getElem? hx)
      have lz : (((L.take i).filter isSnapL).map sv).length < sizeLine := by
        rw [List.length_map]
        have := List.length_filter_le isSnapL (L.take i)
        rw [List.length_take] at this
        rw [sizeLine_eq]; omega
      (repeat array_get_dec)
      refine ⟨x, rfl, ox.1, fun H2 s2 => ?_⟩
      have h1' := s2 _ _ h1
      (repeat array_get_dec)
      have ft : (L.take (i + 1)).filter isSnapL = (L.take i).filter isSnapL ++ (if isSnapL x = true then [x] else []) := by
        rw [take_one hx, List.filter_append, List.filter_cons]
        rfl
      refine ite2 (fun hb => ?_) (fun hb => ?_)
      · (repeat array_get_dec)
        refine ⟨by rw [upd_same, ft, if_pos hb, List.map_append]; rfl, fun b o nb e => by rw [upd_ne nb]; exact s2 _ _ (h2 b o nb e)⟩
      · refine ⟨by rw [h1', ft, if_neg hb, List.append_nil], fun b o nb e => s2 _ _ (h2 b o nb e)⟩
    · rintro H' ⟨h1, h2⟩
      rw [List.length_map, List.take_length] at h1
      (repeat array_get_dec)
      refine q _ _ (fun b o e => upd_atS hA2 h2 b o (s1 _ _ e)) ?_ h1
      cases e : H A2 with
      | none => rfl
      | some o => rw [s1 _ _ e] at hA2; cases hA2
theorem ok_whole_snap (M : Nms K mg) : FnOk P w K mg base (L2N.CX P w) 3 M.a_whole_snap M.d_whole_snap ["disk", "name"] (spWhole M.CD M.CU) := by
  refine M.F_whole_snap.okN sc_whole_snap (fun vs H Q E h => ?_) (fun cdv A outer s H vs Q E hr h => ?_)
  · obtain ⟨a, fp, D, x, rfl, _⟩ := h
    rfl
  · have hu := hu1 hr
    have clD := M.clD
    have nD_kept := M.nD_kept
    have nD_late := M.nD_late
    have nD_names := M.nD_names
    have nD_sure := M.nD_sure
    have nD_changes := M.nD_changes
    have nD_next := M.nD_next
    refine ⟨_, (pss_cons (ps_set (i := 2) sc_whole_snap.nd rfl (Or.inl rfl) (pe_methS1 (pv 0) M.clD M.m_Disk_read (ok_Disk_read M) (hr.mono (by decide)) M.b_Disk_read (fun σ => L2N.passAt (L2N.takes_of rfl rfl rfl rfl) σ) (pa_cons (pv 1) pa_nil)))
    (pss_cons (ps_set (i := 3) sc_whole_snap.nd rfl (Or.inl rfl) (pe_call (ok_one_frame M) (hr.mono (by decide)) rfl M.g_one_frame M.k_one_frame M.b_one_frame .nil pass0 (pa_cons (pv 2) (pa_cons pe_int pa_nil))))
    (pss_one (ps_ret (pe_ifExp (PW.pt (pw_and (pt_cmpR op_notN (pv 3) pe_non (nomark _)) (pw_and1 (pt_cmpR op_eq (pe_ix (r := rIxT K) ix_tup (pv 3) pe_int (fun _ _ => rfl)) (pe_callB (id := "len") (r := fun xs H Q => ∃ x n, xs = [x] ∧ LenV K x H n ∧ Q (V.int ((n : Nat) : Int)) H) call_len (by rfl) M.T.b_len (by decide +kernel) (pa_cons (pv 2) pa_nil)) (nomark _))))) (pe_ix (r := rIxT K) ix_tup (pv 3) pe_int (fun _ _ => rfl)) pe_non))))), ?_⟩
    try dsimp only [cxOf, Cx.nox]
    obtain ⟨a, fp, D, x, rfl, dk, q, e⟩ := h
    obtain ⟨⟨k0, l0, n0, sa0, c0, ts0, efp, ⟨_, ⟨dx0, hi⟩, _, _, _, _, _, _, sm⟩⟩, wfd⟩ := id dk
    refine w_start (σ' := [some (.ref a), some (sv x), none, none]) rfl ?_
    (repeat array_get_dec)
    refine ⟨a, fp, D, x, rfl, dk, ?_⟩
    cases g : getA D.names x with
    | none =>
      dsimp only [look]
      exact e (by rw [g]; rfl)
    | some i =>
      dsimp only [look]
      replace q := q (by rw [g]; rfl)
      obtain ⟨t0, u, g1, g2, b1, b2, er, eu, ek⟩ := texts_at wfd sm g
      have lr : (readD D i).length ≤ 800000 := by rw [er, List.length_append]; omega
      have ew : wholeV (viewD D) x = wholeT (readD D i) := by
        unfold wholeV
        rw [view_get, g]; rfl
      rw [ew] at q
      generalize readD D i = u at *
      have hz : (mkS u).length ≤ sizeLine := by rw [sizeLine_eq, len_tl]; show u.length ≤ _; omega
      have tmu : tl (mkS u) = u := rfl
      (repeat array_get_dec)
      refine ⟨mkS u, 0, rfl, by rw [len_tl]; show u.length ≤ _; omega, Nat.zero_le _, ?_⟩
      rw [tmu, List.drop_zero]
      have ew : wholeT u = match oneFr u with | some (t, k) => if k = u.length then some t else none | none => none := rfl
      refine ⟨fun t k hk H1 p s1 hp => ?_, fun hn H1 s1 => ?_⟩
      · rw [hk] at ew
        dsimp only at ew
        rw [Nat.zero_add] at hp
        have c0 : atI [sv t, V.int ((k : Nat) : Int)] (0 : Int) = some (sv t) := atI_nat (j := 0) rfl
        have c1 : atI [sv t, V.int ((k : Nat) : Int)] (1 : Int) = some (.int ((k : Nat) : Int)) := atI_nat (j := 1) rfl
        (repeat array_get_dec)
        rw [len_tl, tmu]
        by_cases hkl : k = u.length
        · rw [if_pos hkl] at ew
          refine iteT' (decide_eq_true (by rw [hkl])) ?_
          (repeat array_get_dec)
          have := q _ s1
          rw [ew] at this
          exact this
        · rw [if_neg hkl] at ew
          refine iteF' (decide_eq_false fun z => hkl (by have := V.int.inj z; omega)) ?_
          (repeat array_get_dec)
          have := q _ s1
          rw [ew] at this
          exact this
      · rw [hn] at ew
        (repeat array_get_dec)
        have := q _ s1
        rw [ew] at this
        exact this
theorem okL_whole_snap (M : Nms K mg) : FnOk P w K mg base CX0 3 M.a_whole_snap M.d_whole_snap ["disk", "name"] (fun vs H Q _ => ∃ a fp D x, vs = [.ref a, sv x] ∧ DiskAt M.CD H a fp D ∧ (getA D.names x).isSome = true ∧ ∀ H', Same H H' → Q (vOpt (wholeV (viewD D) x)) H') :=
  ok_low (ok_whole_snap M) fun vs H Q E ⟨a, fp, D, x, e, dk, g, q⟩ => ⟨a, fp, D, x, e, dk, fun _ => q, fun z => by rw [g] at z; cases z⟩
theorem ok_load (M : Nms K mg) : FnOk P w K mg base CX0 4 M.a_load M.d_load ["disk"] (spLoad M.CD) := by
  refine M.F_load.ok sc_load (fun vs H Q E h => ?_) (fun cdv A outer s H vs Q E hr h => ?_)
  · obtain ⟨a, fp, D, rfl, _⟩ := h
    rfl
  · have hu := hu1 hr
    have clD := M.clD
    have nD_kept := M.nD_kept
    have nD_late := M.nD_late
    have nD_names := M.nD_names
    have nD_sure := M.nD_sure
    have nD_changes := M.nD_changes
    have nD_next := M.nD_next
    refine ⟨_, (pss_cons (ps_for PassesOwn.never rfl (pi_reversed (by rfl) M.T.b_reversed (pa_cons (pe_call (ok_snap_names M) (hr.mono (by decide)) rfl M.g_snap_names M.k_snap_names M.b_snap_names .nil pass0 (pa_cons (pv 0) pa_nil)) pa_nil)) (pg_name (i := 1) sc_load.nd rfl (Or.inl rfl)) (pss_cons (ps_set (i := 2) sc_load.nd rfl (Or.inl rfl) (pe_call (okL_whole_snap M) (hr.mono (by decide)) rfl M.g_whole_snap M.k_whole_snap M.b_whole_snap .nil pass0 (pa_cons (pv 0) (pa_cons (pv 1) pa_nil))))
    (pss_one (ps_if (pt_cmpR op_notN (pv 2) pe_non (nomark _)) (pss_one (ps_ret (pe_tup (pa_cons (pe_call (okL_number_of M) (hr.mono (by decide)) rfl M.g_number_of M.k_number_of M.b_number_of .nil pass0 (pa_cons (pv 1) pa_nil)) (pa_cons (pv 2) pa_nil))))) pss_nil))))
    (pss_one (ps_ret pe_non))), ?_⟩
    try dsimp only [cxOf, Cx.nox]
    obtain ⟨a, fp, D, rfl, dk, ok, q⟩ := h
    refine w_start (σ' := [some (.ref a), none, none]) rfl ?_
    (repeat array_get_dec)
    refine ⟨a, fp, D, rfl, dk, ok, fun r H1 s1 fr h1 => ?_⟩
    refine ⟨r, _, rfl, SqL.of h1, ?_⟩
    refine for_rev (K := K) (a := r) (xs := (snapV (viewD D)).map sv) (fun i σ H' => ∃ v1 v2, σ = [some (.ref a), v1, v2] ∧ Same H1 H' ∧ loadV (viewD D) = ((snapV (viewD D)).reverse.drop i).findSome? fun x => (wholeV (viewD D) x).map fun t => (numS x, t)) ⟨_, _, rfl, Same.refl _, rfl⟩ ?_ ?_ ?_
    · rintro i σ H' _ ⟨v1, v2, rfl, s2, _⟩
      exact SqL.of (s2 _ _ h1)
    · rintro i v σ H' hv ⟨v1, v2, rfl, s2, el⟩
      rw [← List.map_reverse] at hv
      obtain ⟨x, hx, rfl⟩ := getE_map hv
      have mx : x ∈ snapV (viewD D) := List.mem_reverse.mp (List.mem_of_getElem? hx)
      obtain ⟨g, hs⟩ := snap_in mx
      have li : i < (snapV (viewD D)).reverse.length := (List.getElem?_eq_some_iff.mp hx).1
      have ed : (snapV (viewD D)).reverse.drop i = x :: (snapV (viewD D)).reverse.drop (i + 1) := by
        rw [List.drop_eq_getElem_cons li]
        congr 1
        exact (List.getElem?_eq_some_iff.mp hx).2
      rw [ed, List.findSome?_cons] at el
      have dk2 := dk.same fun b o e => s2 _ _ (s1 _ _ e)
      (repeat array_get_dec)
      refine ⟨a, fp, D, x, rfl, dk2, g, fun H3 s3 => ?_⟩
      cases ew : wholeV (viewD D) x with
      | none =>
        rw [ew] at el
        unfold vOpt
        (repeat array_get_dec)
        exact ⟨_, _, rfl, fun b o e => s3 _ _ (s2 _ _ e), el⟩
      | some t =>
        rw [ew] at el
        unfold vOpt
        (repeat array_get_dec)
        refine ⟨x, rfl, (okN_of ok g).1, hs, fun H4 s4 => ?_⟩
        (repeat array_get_dec)
        refine ⟨by show 2 ≤ sizeLine; decide, fun p hp => ?_⟩
        (repeat array_get_dec)
        refine q _ _ (fun b o e => upd_atN hp (s4 _ _ (s3 _ _ (s2 _ _ (s1 _ _ e))))) ?_
        rw [el]
        exact ⟨p, rfl, upd_same⟩
    · rintro σ H' ⟨v1, v2, rfl, s2, el⟩
      rw [List.length_map, List.drop_eq_nil_of_le (by rw [List.length_reverse]; exact Nat.le_refl _)] at el
      (repeat array_get_dec)
      refine q _ _ (fun b o e => s2 _ _ (s1 _ _ e)) ?_
      rw [el]
      rfl
end
end K54

namespace K54
open PySem PySem.Spec PyProof.Rows L2
local macro_rules | `(tactic| array_mem_dec) => `(tactic| first | with_reducible assumption | with_reducible exact upd_same | ((with_reducible apply same_at); (with_reducible assumption); array_mem_dec) | ((with_reducible apply upd_atN); (with_reducible assumption); array_mem_dec) | ((with_reducible apply upd_at); (first | with_reducible assumption | (apply Ne.symm; with_reducible assumption)); array_mem_dec))
local macro_rules | `(tactic| array_get_dec) => `(tactic| first | (with_reducible refine w_seq ?_) | (with_reducible refine w_asg ?_) | (with_reducible refine w_drop ?_) | (with_reducible refine w_ret ?_) | (with_reducible refine w_retN ?_) | (with_reducible refine w_next ?_) | (with_reducible refine w_break ?_) | (with_reducible refine w_cont ?_) | (with_reducible refine w_ifS ?_) | (with_reducible refine w_sub ?_) | (with_reducible refine w_c ?_) | (with_reducible refine w_op ?_) | (with_reducible refine w_un ?_) | (with_reducible refine w_test ?_) | (with_reducible refine w_B ?_) | (with_reducible refine w_yes ?_) | (with_reducible refine w_not ?_) | (with_reducible refine w_and ?_) | (with_reducible refine w_or ?_) | (with_reducible refine w_andV ?_) | (with_reducible refine w_orV ?_) | (with_reducible refine w_notV ?_) | (with_reducible refine w_ifE ?_) | (with_reducible refine w_nil ?_) | (with_reducible refine w_cons ?_) | (with_reducible refine w_call ?_) | (with_reducible refine w_callS ?_) | (with_reducible refine w_cB ?_) | (with_reducible refine w_lst ?_) | (with_reducible refine w_tup ?_) | (with_reducible refine w_sl ?_) | (with_reducible refine w_noPart ?_) | (with_reducible refine w_part ?_) | (with_reducible refine w_bm ?_) | (with_reducible refine w_bm0 ?_) | (with_reducible refine w_strTy ?_) | (with_reducible refine w_bl ?_) | (with_reducible refine w_int1 ?_) | (with_reducible refine w_str1 ?_) | (with_reducible refine w_rI0 ?_) | (with_reducible refine w_rU ?_) | (with_reducible refine w_eqI ?_) | (with_reducible refine w_eqS ?_) | (with_reducible refine w_neI ?_) | (with_reducible refine w_neS ?_) | (with_reducible refine w_bl2 ?_) | (with_reducible refine w_isN ?_) | (with_reducible refine w_for ?_) | (with_reducible refine w_iRng1 ?_) | (with_reducible refine w_iRng2 ?_) | (with_reducible refine w_iList ?_) | (with_reducible refine w_iTup ?_) | (with_reducible refine w_iStr ?_) | (with_reducible refine w_lc ?_) | (with_reducible refine w_M1 ?_) | (with_reducible refine w_M0 ?_) | (with_reducible refine w_isS ?_) | ((with_reducible apply w_name); (simp only [wipe, List.map_cons, List.map_nil, List.foldl_cons, List.foldl_nil, List.set_cons_zero, List.set_cons_succ]; exact rfl)) | ((with_reducible apply w_var); exact rfl) | ((with_reducible apply w_lstTy); array_mem_dec) | ((with_reducible apply w_lenL); array_mem_dec) | ((with_reducible apply w_lenT); array_mem_dec) | ((with_reducible apply w_listOf); array_mem_dec) | ((with_reducible apply w_lenS); (first | (with_reducible assumption) | omega | (rw [sizeLine_eq]; omega))) | ((with_reducible apply w_slS); (first | (with_reducible assumption) | omega | (rw [sizeLine_eq]; omega))) | ((with_reducible apply w_wipe); exact rfl) | ((with_reducible apply w_acc); array_mem_dec; (try (first | (with_reducible assumption) | omega | (rw [sizeLine_eq]; omega)))) | ((with_reducible apply w_itl); array_mem_dec) | ((with_reducible apply w_itt); array_mem_dec) | ((with_reducible apply w_append); array_mem_dec; (try (first | (with_reducible assumption) | omega | (rw [sizeLine_eq]; omega)))) | ((with_reducible apply w_rng1); (first | (with_reducible assumption) | omega); (first | (with_reducible assumption) | omega)) | ((with_reducible apply w_ixL); array_mem_dec; (first | (with_reducible assumption) | exact rfl | (apply atI_nat; (with_reducible assumption)) | exact atI_last _ _)) | ((with_reducible apply w_ixT); array_mem_dec; (first | (with_reducible assumption) | exact rfl | (apply atI_nat; (with_reducible assumption)) | exact atI_last _ _)) | ((with_reducible apply w_iT); first | exact rfl | (with_reducible assumption)) | ((with_reducible apply w_iF); first | exact rfl | (with_reducible assumption)) | ((with_reducible apply w_isiI (b := true)); decide +kernel) | ((with_reducible apply w_isiI (b := false)); decide +kernel) | ((with_reducible apply w_isiB (b := true)); decide +kernel) | ((with_reducible apply w_isiB (b := false)); decide +kernel) | ((with_reducible apply w_isiS (b := true)); decide +kernel) | ((with_reducible apply w_isiS (b := false)); decide +kernel) | ((with_reducible apply w_isiN (b := true)); decide +kernel) | ((with_reducible apply w_isiN (b := false)); decide +kernel) | ((with_reducible apply w_isiL (b := true)); array_mem_dec; decide +kernel) | ((with_reducible apply w_isiL (b := false)); array_mem_dec; decide +kernel) | ((with_reducible apply w_isiT (b := true)); array_mem_dec; decide +kernel) | ((with_reducible apply w_isiT (b := false)); array_mem_dec; decide +kernel) | (with_reducible refine w_notT ?_) | (with_reducible refine w_chain ?_) | ((with_reducible apply w_trL); array_mem_dec) | ((with_reducible apply w_gTup); array_mem_dec; exact rfl) | ((with_reducible apply w_gLst); array_mem_dec; exact rfl) | (with_reducible refine w_gCons ?_) | (with_reducible refine w_gNil ?_) | (with_reducible refine w_Fld ?_) | (with_reducible refine w_sFld ?_) | (with_reducible refine w_dget ?_) | (with_reducible refine w_dIn ?_) | (with_reducible refine w_dNotIn ?_) | (with_reducible refine w_sDPut ?_) | (with_reducible refine w_dnewK ?_) | (with_reducible refine w_meth ?_) | (with_reducible refine w_make ?_) | (with_reducible refine w_methS ?_) | (with_reducible refine w_makeS ?_) | (with_reducible refine w_dpop ?_) | ((with_reducible apply w_fld1); array_mem_dec; (with_reducible assumption); (with_reducible assumption); exact rfl) | ((with_reducible apply w_sfld1); array_mem_dec; (with_reducible assumption); (with_reducible assumption); exact Nat.le_of_ble_eq_true rfl) | ((with_reducible apply w_meth1); array_mem_dec; exact rfl) | ((with_reducible apply w_dgetS); array_mem_dec; (with_reducible assumption)) | ((with_reducible apply w_dgetI); array_mem_dec; (with_reducible assumption)) | ((with_reducible apply w_dinS); array_mem_dec) | ((with_reducible apply w_dputI); array_mem_dec; (try (first | (with_reducible assumption) | omega | (rw [sizeLine_eq]; omega)))) | ((with_reducible apply w_dputS); array_mem_dec; (try (first | (with_reducible assumption) | omega | (rw [sizeLine_eq]; omega)))) | ((with_reducible apply w_isD); array_mem_dec) | ((with_reducible apply w_dictD); array_mem_dec) | ((with_reducible apply w_dpopS); array_mem_dec; (with_reducible assumption)) | (with_reducible refine w_iRev ?_) | ((with_reducible apply w_setL); array_mem_dec; exact rfl) | ((with_reducible apply w_cat); array_mem_dec; array_mem_dec; (try (first | (with_reducible assumption) | omega | (rw [sizeLine_eq]; omega)))) | (with_reducible refine w_iKeys ?_) | (with_reducible refine w_dget2 ?_) | (with_reducible refine w_scX ?_) | ((with_reducible apply w_keysF); array_mem_dec) | ((with_reducible apply w_dgetSF); array_mem_dec; (with_reducible assumption)))
/-! ### snapshots' names -/
theorem snap_drop (n : Nat) : (snapL n).drop 5 = List.replicate (6 - (TL.numL n).length) 48 ++ TL.numL n := by unfold snapL pre; rfl
theorem snap_take (n : Nat) : (snapL n).take 5 = pre := by unfold snapL pre; rfl
theorem snap_is {n : Nat} (h : n ≤ 999999) : isSnapL (snapL n) = true := by
  have l6 : (TL.numL n).length ≤ 6 := TL.numL_len (by decide) (by omega)
  unfold isSnapL
  rw [snap_take, snap_drop, Bool.and_eq_true, Bool.and_eq_true, decide_eq_true_eq]
  refine ⟨by decide, ?_, ?_⟩
  · rw [List.length_append, List.length_replicate]; omega
  · rw [List.all_append, Bool.and_eq_true]
    refine ⟨?_, ?_⟩
    · rw [List.all_eq_true]
      intro c hc
      obtain rfl := List.eq_of_mem_replicate hc
      decide
    · rw [List.all_eq_true]
      intro c hc
      have := TL.numL_digits n c hc
      unfold isDig
      rw [Bool.and_eq_true, decide_eq_true_eq, decide_eq_true_eq]
      exact this
theorem val_zeros (l : List Nat) : ∀ k, NumText.digitsVal (List.replicate k 48 ++ l) = NumText.digitsVal l
  | 0 => rfl
  | k + 1 => by
    rw [List.replicate_succ, List.cons_append]
    have := val_zeros l k
    unfold NumText.digitsVal at *
    rw [List.foldl_cons]
    exact this
theorem snap_val (n : Nat) : numS (snapL n) = n := by
  unfold numS
  rw [snap_drop, val_zeros, TL.numL_val]
theorem snap_len5 {n : Nat} (h : n ≤ 999999) : (snapL n).length = 11 := by
  have l6 : (TL.numL n).length ≤ 6 := TL.numL_len (by decide) (by omega)
  unfold snapL
  rw [List.length_append, List.length_append, List.length_replicate]
  show 5 + _ = 11
  omega
theorem snap_okN {n : Nat} (h : n ≤ 999999) : okN (snapL n) := by
  refine ⟨by rw [snap_len5 h]; decide, fun c m => ?_⟩
  unfold snapL at m
  rcases List.mem_append.mp m with m | m
  · exact (show ∀ c ∈ pre, c < 1114112 by decide) c m
  · rcases List.mem_append.mp m with m | m
    · obtain rfl := List.eq_of_mem_replicate m
      decide
    · have := TL.numL_digits n c m
      omega
theorem aside_okN : okN asideL := by unfold okN asideL; decide +kernel
theorem aside_ne : asideL ≠ [] := by decide +kernel
theorem aside_no : isSnapL asideL = false := by decide +kernel
theorem snap_aside {n : Nat} (h : n ≤ 999999) : asideL ≠ snapL n := fun z => by
  have := snap_is h
  rw [← z, aside_no] at this
  cases this
theorem snap_ne {n : Nat} (h : n ≤ 999999) : snapL n ≠ [] := fun z => by
  have := snap_len5 h
  rw [z] at this
  cases this
theorem dig_lt : ∀ (l : List Nat) (acc : Nat), l.all isDig = true → l.foldl (fun v c => v * 10 + (c - 48)) acc < (acc + 1) * 10 ^ l.length
  | [], acc, _ => by simp
  | c :: r, acc, h => by
    rw [List.all_cons, Bool.and_eq_true] at h
    have hd := h.1
    unfold isDig at hd
    rw [Bool.and_eq_true, decide_eq_true_eq, decide_eq_true_eq] at hd
    have ih := dig_lt r (acc * 10 + (c - 48)) h.2
    rw [List.foldl_cons, List.length_cons, Nat.pow_succ]
    refine Nat.lt_of_lt_of_le ih ?_
    rw [Nat.mul_comm (10 ^ r.length) 10, ← Nat.mul_assoc]
    exact Nat.mul_le_mul_right _ (by omega)
theorem numS_le {x : Tx} (h : isSnapL x = true) : numS x ≤ 999999 := by
  unfold isSnapL at h
  rw [Bool.and_eq_true, Bool.and_eq_true, decide_eq_true_eq] at h
  have := dig_lt (x.drop 5) 0 h.2.2
  rw [h.2.1] at this
  have e : numS x = (x.drop 5).foldl (fun v c => v * 10 + (c - 48)) 0 := rfl
  rw [e]
  omega
theorem load_le {l : List (Tx × Tx)} {n : Nat} {t : Tx} (h : loadV l = some (n, t)) : n ≤ 999999 := by
  obtain ⟨x, hx, e⟩ := List.exists_of_findSome?_eq_some h
  have mx := List.mem_reverse.mp hx
  have hs := (List.mem_filter.mp mx).2
  cases ew : wholeV l x with
  | none => rw [ew] at e; cases e
  | some u =>
    rw [ew] at e
    cases e
    exact numS_le hs
theorem frame63 {t : Tx} (h : goodT t) : ¬ 63 ∈ frameL t := by
  unfold frameL
  intro z
  simp only [List.mem_append, List.mem_cons, List.not_mem_nil, or_false] at z
  rcases z with z | z | z | z | z | z
  · have := TL.numL_digits _ _ z; omega
  · cases z
  · have := TL.numL_digits _ _ z; omega
  · cases z
  · exact good_no h z
  · cases z
theorem make_done {D : DS} {x : Tx} (h : getA D.names x = none) (hx : x ≠ []) : (step D (.make x)).2 = .done ∧ (step D (.make x)).1 = makeD D x := by
  simp only [step]
  rw [if_neg (fun z => z.elim hx fun y => by unfold hasA at y; rw [h] at y; cases y)]
  exact ⟨rfl, rfl⟩
theorem write_done {D : DS} {x t : Tx} {i : Nat} (h : getA D.names x = some i) (h63 : ¬ 63 ∈ t) : (step D (.write x t)).2 = .done ∧ (step D (.write x t)).1 = writeD D i t := by
  simp only [step, h]
  rw [if_neg h63]
  exact ⟨rfl, rfl⟩
theorem sync_done {D : DS} {x : Tx} {i : Nat} (h : getA D.names x = some i) : (step D (.sync x)).2 = .done ∧ (step D (.sync x)).1 = syncD D i := by
  simp only [step, h]
  exact ⟨trivial, trivial⟩
theorem move_done {D : DS} {x y : Tx} {i : Nat} (h : getA D.names x = some i) (hxy : x ≠ y) (hy : y ≠ []) : (step D (.move x y)).2 = .done ∧ (step D (.move x y)).1 = chD D (.move x y) := by
  simp only [step, h]
  rw [if_neg (fun z => z.elim hxy hy)]
  exact ⟨rfl, rfl⟩
theorem make_get {D : DS} {x : Tx} : getA (makeD D x).names x = some D.next := by
  show getA (putA D.names x D.next) x = _
  rw [getA_put, if_pos rfl]
def dropW (D : DS) : DS := dropAll D (if hasA D.names asideL = true then [asideL] else [])
theorem dropW_none (D : DS) : getA (dropW D).names asideL = none := by
  unfold dropW
  by_cases h : hasA D.names asideL = true
  · rw [if_pos h, dropAll_cons]
    show getA (step D (.drop asideL)).1.names asideL = none
    rw [drop_names, getA_drop, if_pos rfl]
  · rw [if_neg h]
    show getA D.names asideL = none
    unfold hasA at h
    simpa using h
theorem dropW_cap {D : DS} {k : Nat} (c : cap D (k + 1)) : cap (dropW D) k := by
  unfold dropW
  split
  · exact cap_drops (l := [asideL]) c
  · exact c.less (Nat.le_succ _)
def spAside (CD CP : Addr) : Sp := fun vs H Q E => ∃ a fp D t, vs = [.ref a, sv t] ∧ DiskAt CD H a fp D ∧ t.length ≤ 1000 ∧ cap D 5 ∧ (goodT t → ∀ H' fp', DiskAt CD H' a fp' (asideD D (frameL t)) → Fr fp fp' H H' → Q .non H') ∧ (¬ goodT t → ∀ H', Same H H' → E (.ref CP) none H')
def spNameIt (CD CU CN : Addr) : Sp := fun vs H Q E => ∃ a fp D v, vs = [.ref a, vIB v] ∧ DiskAt CD H a fp D ∧ cap D 3 ∧ (hasA D.names asideL = false → E (.ref CU) none H) ∧
  (hasA D.names asideL = true → (∀ n, inIB 999999 v = some n → ∀ H' fp', DiskAt CD H' a fp' (nameD D n) → Fr fp fp' H H' → Q .non H') ∧ (inIB 999999 v = none → E (.ref CN) none H))
def spOlder (CD : Addr) : Sp := fun vs H Q _ => ∃ a fp D n, vs = [.ref a, .int n] ∧ DiskAt CD H a fp D ∧ cap D ((olderL D n).length + 1) ∧ ∀ H' fp', DiskAt CD H' a fp' (olderD D n) → Fr fp fp' H H' → Q (.int (((olderL D n).length : Nat) : Int)) H'
section
variable {P : Program} {w : World} {K : PySem.W.Frag} {mg : Str → Option Value} {base : Heap}
theorem ok_write_aside (M : Nms K mg) : FnOk P w K mg base (L2N.CX P w) 4 M.a_write_aside M.d_write_aside ["disk", "text"] (spAside M.CD M.CP) := by
  obtain ⟨tAS, GAS⟩ := M.cAS
  refine M.F_write_aside.okN sc_write_aside (fun vs H Q E h => ?_) (fun cdv A outer s H vs Q E hr h => ?_)
  · obtain ⟨a, fp, D, t, rfl, _⟩ := h
    rfl
  · have hu := hu1 hr
    have clD := M.clD
    have nD_kept := M.nD_kept
    have nD_late := M.nD_late
    have nD_names := M.nD_names
    have nD_sure := M.nD_sure
    have nD_changes := M.nD_changes
    have nD_next := M.nD_next
    refine ⟨_, (pss_cons (ps_set (i := 2) sc_write_aside.nd rfl (Or.inl rfl) (pe_callS (ok_framed M) (hr.mono (by decide)) rfl M.g_framed M.k_framed M.b_framed (fun σ => L2N.passAt (L2N.takes_of rfl rfl rfl rfl) σ) (pa_cons (pv 1) pa_nil)))
    (pss_cons (ps_if (pt_val (pe_meth (pv 0) M.clD M.m_Disk_has (ok_Disk_has M) (hr.mono (by decide)) M.b_Disk_has .nil pass0 (pa_cons (pe_glob (v := .str (Str.ofString "snap.new")) rfl GAS ⟨_, rfl⟩) pa_nil))) (pss_one (ps_expr (pe_methS1 (pv 0) M.clD M.m_Disk_remove (ok_Disk_remove M) (hr.mono (by decide)) M.b_Disk_remove (fun σ => L2N.passAt (L2N.takes_of rfl rfl rfl rfl) σ) (pa_cons (pe_glob (v := .str (Str.ofString "snap.new")) rfl GAS ⟨_, rfl⟩) pa_nil)))) pss_nil)
    (pss_cons (ps_expr (pe_methS1 (pv 0) M.clD M.m_Disk_make (ok_Disk_make M) (hr.mono (by decide)) M.b_Disk_make (fun σ => L2N.passAt (L2N.takes_of rfl rfl rfl rfl) σ) (pa_cons (pe_glob (v := .str (Str.ofString "snap.new")) rfl GAS ⟨_, rfl⟩) pa_nil)))
    (pss_cons (ps_expr (pe_methS1 (pv 0) M.clD M.m_Disk_write (ok_Disk_write M) (hr.mono (by decide)) M.b_Disk_write (fun σ => L2N.passAt (L2N.takes_of rfl rfl rfl rfl) σ) (pa_cons (pe_glob (v := .str (Str.ofString "snap.new")) rfl GAS ⟨_, rfl⟩) (pa_cons (pv 2) pa_nil))))
    (pss_one (ps_expr (pe_methS1 (pv 0) M.clD M.m_Disk_sync (ok_Disk_sync M) (hr.mono (by decide)) M.b_Disk_sync (fun σ => L2N.passAt (L2N.takes_of rfl rfl rfl rfl) σ) (pa_cons (pe_glob (v := .str (Str.ofString "snap.new")) rfl GAS ⟨_, rfl⟩) pa_nil)))))))), ?_⟩
    try dsimp only [cxOf, Cx.nox]
    obtain ⟨a, fp, D, t, rfl, dk, ht, c5, q, e⟩ := h
    obtain ⟨⟨k0, l0, n0, sa0, c0, ts0, efp, ⟨_, ⟨dx0, hi⟩, _⟩⟩, wfd⟩ := id dk
    refine w_start (σ' := [some (.ref a), some (sv t), none]) rfl ?_
    (repeat array_get_dec)
    refine ⟨t, rfl, by omega, fun hg H1 s1 => ?_, fun hg H1 s1 => e hg _ s1⟩
    replace q := q hg
    have dk1 := dk.same s1
    have hi1 := s1 _ _ hi
    have F1 : Fr fp fp H H1 := Fr.same s1
    have h63 := frame63 hg
    have lf : (frameL t).length ≤ 1100 := by have := frame_len t (by omega); omega
    -- what follows the drop
    have rest : ∀ (H2 : Hp) (fp2 : List Addr), DiskAt M.CD H2 a fp2 (dropW D) → Fr fp fp2 H H2 →
        tSeq (tDrop (tMethS M.CD "make" (spMake M.CD M.CP M.CU) (fun _ => E) (tVar 0) (tCons (tC (.str (Str.ofString "snap.new"))) tNil)))
          (tSeq (tDrop (tMethS M.CD "write" (spWrite M.CD M.CP M.CU) (fun _ => E) (tVar 0) (tCons (tC (.str (Str.ofString "snap.new"))) (tCons (tVar 2) tNil))))
            (tDrop (tMethS M.CD "sync" (spSync M.CD M.CP M.CU) (fun _ => E) (tVar 0) (tCons (tC (.str (Str.ofString "snap.new"))) tNil))))
          { nx := fun _ H' => Q .non H', rt := Q } [some (.ref a), some (sv t), some (sv (frameL t))] H2 := by
      intro H2 fp2 dk2 F2
      have c4 := dropW_cap c5
      obtain ⟨⟨k2, l2, n2, sa2, c2, ts2, efp2, ⟨_, ⟨dx2, hi2⟩, _⟩⟩, wfd2⟩ := id dk2
      obtain ⟨m1, m2⟩ := make_done (dropW_none D) aside_ne
      have c3 := cap_step c4 (.make asideL) aside_okN
      have g3 : getA (step (dropW D) (.make asideL)).1.names asideL = some (dropW D).next := by rw [m2]; exact make_get
      obtain ⟨w1, w2⟩ := write_done g3 h63
      have cc2 := cap_step c3 (.write asideL (frameL t)) (by show (frameL t).length ≤ 2000; omega)
      have g4 : getA (step (step (dropW D) (.make asideL)).1 (.write asideL (frameL t))).1.names asideL = some (dropW D).next := by rw [w2]; exact g3
      obtain ⟨y1, y2⟩ := sync_done g4
      have cc1 := cap_step cc2 (.sync asideL) trivial
      (repeat array_get_dec)
      refine ⟨a, asideL, fp2, dropW D, rfl, dk2, c3.bd, fun H3 fp3 dk3 F3 => ?_⟩
      rw [m1]
      obtain ⟨⟨k3, l3, n3, sa3, d3, ts3, efp3, ⟨_, ⟨dx3, hi3⟩, _⟩⟩, _⟩ := id dk3
      dsimp only [finR]
      (repeat array_get_dec)
      refine ⟨a, asideL, frameL t, fp3, _, rfl, dk3, cc2.bd, fun H4 fp4 dk4 F4 => ?_⟩
      rw [w1]
      obtain ⟨⟨k4, l4, n4, sa4, d4, ts4, efp4, ⟨_, ⟨dx4, hi4⟩, _⟩⟩, _⟩ := id dk4
      dsimp only [finR]
      (repeat array_get_dec)
      refine ⟨a, asideL, fp4, _, rfl, dk4, cc1.bd, fun H5 fp5 dk5 F5 => ?_⟩
      rw [y1]
      dsimp only [finR]
      (repeat array_get_dec)
      exact q _ _ dk5 (((F2.trans F3).trans F4).trans F5)
    (repeat array_get_dec)
    refine ⟨a, fp, D, asideL, rfl, dk1.1, ?_⟩
    (repeat array_get_dec)
    cases hA : hasA D.names asideL with
    | true =>
      refine iteT' rfl ?_
      (repeat array_get_dec)
      have c4 := cap_step c5 (.drop asideL) trivial
      refine ⟨a, asideL, fp, D, rfl, dk1, c4.bd, fun H2 fp2 dk2 F2 => ?_⟩
      rw [done_drop hA]
      dsimp only [finR]
      refine rest H2 fp2 ?_ (F1.trans F2)
      unfold dropW
      rw [if_pos hA]
      exact dk2
    | false =>
      refine iteF' rfl ?_
      refine rest H1 fp ?_ F1
      unfold dropW
      rw [if_neg (by rw [hA]; decide)]
      exact dk1
end
end K54

namespace K54
open PySem PySem.Spec PyProof.Rows L2
local macro_rules | `(tactic| array_mem_dec) => `(tactic| first | with_reducible assumption | with_reducible exact upd_same | ((with_reducible apply same_at); (with_reducible assumption); array_mem_dec) | ((with_reducible apply upd_atN); (with_reducible assumption); array_mem_dec) | ((with_reducible apply upd_at); (first | with_reducible assumption | (apply Ne.symm; with_reducible assumption)); array_mem_dec))
local macro_rules | `(tactic| array_get_dec) => `(tactic| first | (with_reducible refine w_seq ?_) | (with_reducible refine w_asg ?_) | (with_reducible refine w_drop ?_) | (with_reducible refine w_ret ?_) | (with_reducible refine w_retN ?_) | (with_reducible refine w_next ?_) | (with_reducible refine w_break ?_) | (with_reducible refine w_cont ?_) | (with_reducible refine w_ifS ?_) | (with_reducible refine w_sub ?_) | (with_reducible refine w_c ?_) | (with_reducible refine w_op ?_) | (with_reducible refine w_un ?_) | (with_reducible refine w_test ?_) | (with_reducible refine w_B ?_) | (with_reducible refine w_yes ?_) | (with_reducible refine w_not ?_) | (with_reducible refine w_and ?_) | (with_reducible refine w_or ?_) | (with_reducible refine w_andV ?_) | (with_reducible refine w_orV ?_) | (with_reducible refine w_notV ?_) | (with_reducible refine w_ifE ?_) | (with_reducible refine w_nil ?_) | (with_reducible refine w_cons ?_) | (with_reducible refine w_call ?_) | (with_reducible refine w_callS ?_) | (with_reducible refine w_cB ?_) | (with_reducible refine w_lst ?_) | (with_reducible refine w_tup ?_) | (with_reducible refine w_sl ?_) | (with_reducible refine w_noPart ?_) | (with_reducible refine w_part ?_) | (with_reducible refine w_bm ?_) | (with_reducible refine w_bm0 ?_) | (with_reducible refine w_strTy ?_) | (with_reducible refine w_bl ?_) | (with_reducible refine w_int1 ?_) | (with_reducible refine w_str1 ?_) | (with_reducible refine w_rI0 ?_) | (with_reducible refine w_rU ?_) | (with_reducible refine w_eqI ?_) | (with_reducible refine w_eqS ?_) | (with_reducible refine w_neI ?_) | (with_reducible refine w_neS ?_) | (with_reducible refine w_bl2 ?_) | (with_reducible refine w_isN ?_) | (with_reducible refine w_for ?_) | (with_reducible refine w_iRng1 ?_) | (with_reducible refine w_iRng2 ?_) | (with_reducible refine w_iList ?_) | (with_reducible refine w_iTup ?_) | (with_reducible refine w_iStr ?_) | (with_reducible refine w_lc ?_) | (with_reducible refine w_M1 ?_) | (with_reducible refine w_M0 ?_) | (with_reducible refine w_isS ?_) | ((with_reducible apply w_name); (simp only [wipe, List.map_cons, List.map_nil, List.foldl_cons, List.foldl_nil, List.set_cons_zero, List.set_cons_succ]; exact rfl)) | ((with_reducible apply w_var); exact rfl) | ((with_reducible apply w_lstTy); array_mem_dec) | ((with_reducible apply w_lenL); array_mem_dec) | ((with_reducible apply w_lenT); array_mem_dec) | ((with_reducible apply w_listOf); array_mem_dec) | ((with_reducible apply w_lenS); (first | (with_reducible assumption) | omega | (rw [sizeLine_eq]; omega))) | ((with_reducible apply w_slS); (first | (with_reducible assumption) | omega | (rw [sizeLine_eq]; omega))) | ((with_reducible apply w_wipe); exact rfl) | ((with_reducible apply w_acc); array_mem_dec; (try (first | (with_reducible assumption) | omega | (rw [sizeLine_eq]; omega)))) | ((with_reducible apply w_itl); array_mem_dec) | ((with_reducible apply w_itt); array_mem_dec) | ((with_reducible apply w_append); array_mem_dec; (try (first | (with_reducible assumption) | omega | (rw [sizeLine_eq]; omega)))) | ((with_reducible apply w_rng1); (first | (with_reducible assumption) | omega); (first | (with_reducible assumption) | omega)) | ((with_reducible apply w_ixL); array_mem_dec; (first | (with_reducible assumption) | exact rfl | (apply atI_nat; (with_reducible assumption)) | exact atI_last _ _)) | ((with_reducible apply w_ixT); array_mem_dec; (first | (with_reducible assumption) | exact rfl | (apply atI_nat; (with_reducible assumption)) | exact atI_last _ _)) | ((with_reducible apply w_iT); first | exact rfl | (with_reducible assumption)) | ((with_reducible apply w_iF); first | exact rfl | (with_reducible assumption)) | ((with_reducible apply w_isiI (b := true)); decide +kernel) | ((with_reducible apply w_isiI (b := false)); decide +kernel) | ((with_reducible apply w_isiB (b := true)); decide +kernel) | ((with_reducible apply w_isiB (b := false)); decide +kernel) | ((with_reducible apply w_isiS (b := true)); decide +kernel) | ((with_reducible apply w_isiS (b := false)); decide +kernel) | ((with_reducible apply w_isiN (b := true)); decide +kernel) | ((with_reducible apply w_isiN (b := false)); decide +kernel) | ((with_reducible apply w_isiL (b := true)); array_mem_dec; decide +kernel) | ((with_reducible apply w_isiL (b := false)); array_mem_dec; decide +kernel) | ((with_reducible apply w_isiT (b := true)); array_mem_dec; decide +kernel) | ((with_reducible apply w_isiT (b := false)); array_mem_dec; decide +kernel) | (with_reducible refine w_notT ?_) | (with_reducible refine w_chain ?_) | ((with_reducible apply w_trL); array_mem_dec) | ((with_reducible apply w_gTup); array_mem_dec; exact rfl) | ((with_reducible apply w_gLst); array_mem_dec; exact rfl) | (with_reducible refine w_gCons ?_) | (with_reducible refine w_gNil ?_) | (with_reducible refine w_Fld ?_) | (with_reducible refine w_sFld ?_) | (with_reducible refine w_dget ?_) | (with_reducible refine w_dIn ?_) | (with_reducible refine w_dNotIn ?_) | (with_reducible refine w_sDPut ?_) | (with_reducible refine w_dnewK ?_) | (with_reducible refine w_meth ?_) | (with_reducible refine w_make ?_) | (with_reducible refine w_methS ?_) | (with_reducible refine w_makeS ?_) | (with_reducible refine w_dpop ?_) | ((with_reducible apply w_fld1); array_mem_dec; (with_reducible assumption); (with_reducible assumption); exact rfl) | ((with_reducible apply w_sfld1); array_mem_dec; (with_reducible assumption); (with_reducible assumption); exact Nat.le_of_ble_eq_true rfl) | ((with_reducible apply w_meth1); array_mem_dec; exact rfl) | ((with_reducible apply w_dgetS); array_mem_dec; (with_reducible assumption)) | ((with_reducible apply w_dgetI); array_mem_dec; (with_reducible assumption)) | ((with_reducible apply w_dinS); array_mem_dec) | ((with_reducible apply w_dputI); array_mem_dec; (try (first | (with_reducible assumption) | omega | (rw [sizeLine_eq]; omega)))) | ((with_reducible apply w_dputS); array_mem_dec; (try (first | (with_reducible assumption) | omega | (rw [sizeLine_eq]; omega)))) | ((with_reducible apply w_isD); array_mem_dec) | ((with_reducible apply w_dictD); array_mem_dec) | ((with_reducible apply w_dpopS); array_mem_dec; (with_reducible assumption)) | (with_reducible refine w_iRev ?_) | ((with_reducible apply w_setL); array_mem_dec; exact rfl) | ((with_reducible apply w_cat); array_mem_dec; array_mem_dec; (try (first | (with_reducible assumption) | omega | (rw [sizeLine_eq]; omega)))) | (with_reducible refine w_iKeys ?_) | (with_reducible refine w_dget2 ?_) | (with_reducible refine w_scX ?_) | ((with_reducible apply w_keysF); array_mem_dec) | ((with_reducible apply w_dgetSF); array_mem_dec; (with_reducible assumption)))
def spSave (CD CP CN : Addr) : Sp := fun vs H Q E => ∃ a fp D v t, vs = [.ref a, vIB v, sv t] ∧ DiskAt CD H a fp D ∧ t.length ≤ 1000 ∧ (inIB 999999 v = none → E (.ref CN) none H) ∧
  (∀ n, inIB 999999 v = some n → v = .int (n : Int) ∧ cap D (D.names.length + 12) ∧ (¬ goodT t → ∀ H', Same H H' → E (.ref CP) none H') ∧
    (goodT t → ∀ H' fp', DiskAt CD H' a fp' (olderD (nameD (asideD D (frameL t)) n) (n : Int)) → Fr fp fp' H H' → Q (.int (((olderL (nameD (asideD D (frameL t)) n) (n : Int)).length : Nat) : Int)) H'))
def spClean (CD : Addr) : Sp := fun vs H Q _ => ∃ a fp D, vs = [.ref a] ∧ DiskAt CD H a fp D ∧ cap D (D.names.length + 4) ∧ ∀ H' fp', DiskAt CD H' a fp' (cleanD D) → Fr fp fp' H H' → Q (.int (((goneL (viewD D)).length : Nat) : Int)) H'
theorem older_len {D : DS} {n : Int} : (olderL D n).length ≤ D.names.length := Nat.le_trans (List.length_filter_le _ _) snap_len
theorem gone_len {D : DS} : (goneL (viewD D)).length ≤ D.names.length + 1 := by
  unfold goneL
  rw [List.length_append]
  refine Nat.add_le_add (Nat.le_trans (List.length_filter_le _ _) snap_len) ?_
  by_cases h : hasA (viewD D) asideL = true
  · rw [if_pos h]; exact Nat.le_refl _
  · rw [if_neg h]; exact Nat.zero_le _
theorem step_names_len {D : DS} {r : Row} : (step D r).1.names.length ≤ D.names.length + 1 := by
  have ac : ∀ c, (applyC D.names c).length ≤ D.names.length + 1 := fun c => applyC_len D.names c
  cases r with
  | make x =>
    simp only [step]
    split
    · exact Nat.le_succ _
    · exact ac (.make x D.next)
  | names => exact Nat.le_succ _
  | write x t =>
    simp only [step]
    cases getA D.names x with
    | none => exact Nat.le_succ _
    | some i => dsimp only; split <;> exact Nat.le_succ _
  | sync x =>
    simp only [step]
    cases getA D.names x with
    | none => exact Nat.le_succ _
    | some i => exact Nat.le_succ _
  | move x y =>
    simp only [step]
    cases getA D.names x with
    | none => exact Nat.le_succ _
    | some i => dsimp only; split; exact Nat.le_succ _; exact ac (.move x y)
  | drop x =>
    simp only [step]
    cases getA D.names x with
    | none => exact Nat.le_succ _
    | some i => exact ac (.drop x)
  | cut x v =>
    simp only [step]
    cases getA D.names x with
    | none => exact Nat.le_succ _
    | some i => dsimp only; split <;> exact Nat.le_succ _
theorem dropN_len {l : Nm} {xs : List Tx} : (dropN l xs).length ≤ l.length := List.length_filter_le _ _
theorem asideD_names {D : DS} {u : Tx} : (asideD D u).names.length ≤ D.names.length + 3 := by
  unfold asideD
  refine Nat.le_trans step_names_len (Nat.add_le_add_right (m := D.names.length + 2) ?_ 1)
  refine Nat.le_trans step_names_len (Nat.add_le_add_right (m := D.names.length + 1) ?_ 1)
  refine Nat.le_trans step_names_len (Nat.add_le_add_right (m := D.names.length) ?_ 1)
  rw [drops_names]
  exact dropN_len
theorem nameD_names {D : DS} {n : Nat} : (nameD D n).names.length ≤ D.names.length + 1 := step_names_len (D := D) (r := .move asideL (snapL n))
theorem cap_names {D : DS} {k : Nat} (c : cap D k) : cap (syncN D) k := ⟨c.kept, c.late, c.names, c.names, by show 0 + k ≤ _; have := c.ch; omega, c.ndk, c.ndl, c.tx, c.na⟩
theorem asideD_get {D : DS} {u : Tx} (h63 : ¬ 63 ∈ u) : getA (asideD D u).names asideL = some (dropW D).next := by
  obtain ⟨m1, m2⟩ := make_done (dropW_none D) aside_ne
  have g3 : getA (step (dropW D) (.make asideL)).1.names asideL = some (dropW D).next := by rw [m2]; exact make_get
  obtain ⟨w1, w2⟩ := write_done g3 h63
  have g4 : getA (step (step (dropW D) (.make asideL)).1 (.write asideL u)).1.names asideL = some (dropW D).next := by rw [w2]; exact g3
  obtain ⟨y1, y2⟩ := sync_done g4
  show getA (step (step (step (dropW D) (.make asideL)).1 (.write asideL u)).1 (.sync asideL)).1.names asideL = _
  rw [y2]
  exact g4
theorem asideD_cap {D : DS} {u : Tx} {k : Nat} (h : u.length ≤ 2000) (c : cap D (k + 4)) : cap (asideD D u) k :=
  cap_step (cap_step (cap_step (dropW_cap c) (.make asideL) aside_okN) (.write asideL u) h) (.sync asideL) trivial
theorem nameD_cap {D : DS} {n k : Nat} (hn : n ≤ 999999) (c : cap D (k + 1)) : cap (nameD D n) k := cap_names (cap_step c (.move asideL (snapL n)) (snap_okN hn))
section
variable {P : Program} {w : World} {K : PySem.W.Frag} {mg : Str → Option Value} {base : Heap}
theorem ok_name_it (M : Nms K mg) : FnOk P w K mg base (L2N.CX P w) 4 M.a_name_it M.d_name_it ["disk", "number"] (spNameIt M.CD M.CU M.CN) := by
  obtain ⟨tAS, GAS⟩ := M.cAS
  refine M.F_name_it.okN sc_name_it (fun vs H Q E h => ?_) (fun cdv A outer s H vs Q E hr h => ?_)
  · obtain ⟨a, fp, D, v, rfl, _⟩ := h
    rfl
  · have hu := hu1 hr
    have clD := M.clD
    have nD_kept := M.nD_kept
    have nD_late := M.nD_late
    have nD_names := M.nD_names
    have nD_sure := M.nD_sure
    have nD_changes := M.nD_changes
    have nD_next := M.nD_next
    refine ⟨_, (pss_cons (ps_if (pt_not (pt_val (pe_meth (pv 0) M.clD M.m_Disk_has (ok_Disk_has M) (hr.mono (by decide)) M.b_Disk_has .nil pass0 (pa_cons (pe_glob (v := .str (Str.ofString "snap.new")) rfl GAS ⟨_, rfl⟩) pa_nil)))) (pss_one (L2N.ps_raise rfl (L2N.takes_of rfl rfl rfl rfl) (L2N.pmk_own PySem.F.excBase_ValueError M.XU.xP M.XU.gP M.XU.kP (raises_own M.XU.bP M.XU.tP) rfl))) pss_nil)
    (pss_cons (ps_expr (pe_methS1 (pv 0) M.clD M.m_Disk_move (ok_Disk_move M) (hr.mono (by decide)) M.b_Disk_move (fun σ => L2N.passAt (L2N.takes_of rfl rfl rfl rfl) σ) (pa_cons (pe_glob (v := .str (Str.ofString "snap.new")) rfl GAS ⟨_, rfl⟩) (pa_cons (pe_callS (ok_snap_name M) (hr.mono (by decide)) rfl M.g_snap_name M.k_snap_name M.b_snap_name (fun σ => L2N.passAt (L2N.takes_of rfl rfl rfl rfl) σ) (pa_cons (pv 1) pa_nil)) pa_nil))))
    (pss_one (ps_expr (pe_meth0 (pv 0) M.clD M.m_Disk_sync_names (ok_Disk_sync_names M) (hr.mono (by decide)) M.b_Disk_sync_names .nil pass0))))), ?_⟩
    try dsimp only [cxOf, Cx.nox]
    obtain ⟨a, fp, D, v, rfl, dk, c3, e, q⟩ := h
    obtain ⟨⟨k0, l0, n0, sa0, c0, ts0, efp, ⟨_, ⟨dx0, hi⟩, _⟩⟩, wfd⟩ := id dk
    refine w_start (σ' := [some (.ref a), some (vIB v)]) rfl ?_
    (repeat array_get_dec)
    refine ⟨a, fp, D, asideL, rfl, dk.1, ?_⟩
    (repeat array_get_dec)
    cases hA : hasA D.names asideL with
    | false =>
      refine iteT' rfl ?_
      (repeat array_get_dec)
      exact e hA
    | true =>
      refine iteF' rfl ?_
      obtain ⟨q, e2⟩ := q hA
      obtain ⟨i, hi2⟩ := Option.isSome_iff_exists.mp (show (getA D.names asideL).isSome = true from hA)
      (repeat array_get_dec)
      refine ⟨v, rfl, fun n hn => ?_, fun hn => e2 hn⟩
      obtain ⟨_, hn6⟩ := strsOf hn
      obtain ⟨m1, m2⟩ := move_done hi2 (snap_aside hn6) (snap_ne hn6)
      have c2 := cap_step c3 (.move asideL (snapL n)) (snap_okN hn6)
      (repeat array_get_dec)
      refine ⟨a, asideL, snapL n, fp, D, rfl, dk, c2.bd, fun H2 fp2 dk2 F2 => ?_⟩
      rw [m1]
      obtain ⟨⟨k3, l3, n3, sa3, d3, ts3, efp3, ⟨_, ⟨dx3, hi3⟩, _⟩⟩, _⟩ := id dk2
      dsimp only [finR]
      (repeat array_get_dec)
      refine ⟨a, fp2, _, rfl, dk2, (cap_names c2).bd, fun H3 fp3 dk3 F3 => ?_⟩
      show (_ : VK) .non H3
      (repeat array_get_dec)
      exact q n hn _ _ dk3 (F2.trans F3)
theorem ok_drop_older (M : Nms K mg) : FnOk P w K mg base CX0 4 M.a_drop_older M.d_drop_older ["disk", "number"] (spOlder M.CD) := by
  refine M.F_drop_older.ok sc_drop_older (fun vs H Q E h => ?_) (fun cdv A outer s H vs Q E hr h => ?_)
  · obtain ⟨a, fp, D, n, rfl, _⟩ := h
    rfl
  · have hu := hu1 hr
    have clD := M.clD
    have nD_kept := M.nD_kept
    have nD_late := M.nD_late
    have nD_names := M.nD_names
    have nD_sure := M.nD_sure
    have nD_changes := M.nD_changes
    have nD_next := M.nD_next
    refine ⟨_, (pss_cons (ps_setLc (i := 2) (own := [("name", 3)]) rfl sc_drop_older.nd rfl rfl (sw_true rfl rfl rfl (by decide +kernel)) (pi_list (pe_call (ok_snap_names M) (hr.mono (by decide)) rfl M.g_snap_names M.k_snap_names M.b_snap_names .nil pass0 (pa_cons (pv 0) pa_nil))) (blkOk_by (N := ["disk", "number", "old", "name"]) (sc := defScope s_drop_older) (own := [("name", 3)]) (by decide +kernel)) (fun _ _ _ _ _ => (pg_name (i := 3) sc_drop_older.nd rfl (Or.inl rfl))) (fun _ _ _ _ _ => pts_one (pt_cmpR op_lt (pe_call (okL_number_of M) (hr.mono (by decide)) rfl M.g_number_of M.k_number_of M.b_number_of .nil pass0 (pa_cons (pv 3) pa_nil)) (pv 1) (nomark _))) (fun _ _ _ _ _ => (pv 3)))
    (pss_cons (ps_for PassesOwn.never rfl (pi_list (pv 2)) (pg_name (i := 3) sc_drop_older.nd rfl (Or.inl rfl)) (pss_one (ps_expr (pe_meth (pv 0) M.clD M.m_Disk_remove (okL_Disk_remove M) (hr.mono (by decide)) M.b_Disk_remove .nil pass0 (pa_cons (pv 3) pa_nil)))))
    (pss_cons (ps_expr (pe_meth0 (pv 0) M.clD M.m_Disk_sync_names (ok_Disk_sync_names M) (hr.mono (by decide)) M.b_Disk_sync_names .nil pass0))
    (pss_one (ps_ret (pe_callB (id := "len") (r := fun xs H Q => ∃ x n, xs = [x] ∧ LenV K x H n ∧ Q (V.int ((n : Nat) : Int)) H) call_len (by rfl) M.T.b_len (by decide +kernel) (pa_cons (pv 2) pa_nil))))))), ?_⟩
    try dsimp only [cxOf, Cx.nox]
    obtain ⟨a, fp, D, n, rfl, dk, c64, q⟩ := h
    refine w_start (σ' := [some (.ref a), some (.int n), none, none]) rfl ?_
    (repeat array_get_dec)
    refine ⟨a, fp, D, rfl, dk, c64.na, fun r H1 s1 fr h1 => ?_⟩
    (repeat array_get_dec)
    intro A2 hA2
    have nA : A2 ≠ r := fun z => by rw [z, h1] at hA2; cases hA2
    have ll : (snapV (viewD D)).length < 64 := by have := snap_len (D := D); have := c64.names; omega
    refine lc_list (K := K) (a := r) (xs := (snapV (viewD D)).map sv) (fun i H' => H' A2 = some (.lst ((((snapV (viewD D)).take i).filter fun x => decide (((numS x : Nat) : Int) < n)).map sv)) ∧ ∀ b o, b ≠ A2 → H1 b = some o → H' b = some o) ⟨upd_same, fun b o nb e => by rw [upd_ne nb]; exact e⟩ ?_ ?_ ?_
    · rintro i H' hi ⟨g1, g2⟩
      exact SqL.of (g2 _ _ (Ne.symm nA) h1)
    · rintro i v H' hv ⟨g1, g2⟩
      obtain ⟨x, hx, rfl⟩ := getE_map hv
      obtain ⟨g, hs⟩ := snap_in (List.mem_of_getElem? hx)
      have lz : ((((snapV (viewD D)).take i).filter fun x => decide (((numS x : Nat) : Int) < n)).map sv).length < sizeLine := by
        rw [List.length_map]
        have := List.length_filter_le (fun x => decide (((numS x : Nat) : Int) < n)) ((snapV (viewD D)).take i)
        rw [List.length_take] at this
        rw [sizeLine_eq]; omega
      (repeat array_get_dec)
      refine ⟨x, rfl, (okN_of c64.na g).1, hs, fun H2 s2 => ?_⟩
      have g1' := s2 _ _ g1
      (repeat array_get_dec)
      have ft : ((snapV (viewD D)).take (i + 1)).filter (fun x => decide (((numS x : Nat) : Int) < n)) = ((snapV (viewD D)).take i).filter (fun x => decide (((numS x : Nat) : Int) < n)) ++ (if decide (((numS x : Nat) : Int) < n) = true then [x] else []) := by
        rw [take_one hx, List.filter_append, List.filter_cons]
        rfl
      refine ite2 (fun hb => ?_) (fun hb => ?_)
      · (repeat array_get_dec)
        refine ⟨by rw [upd_same, ft, if_pos hb, List.map_append]; rfl, fun b o nb e => by rw [upd_ne nb]; exact s2 _ _ (g2 b o nb e)⟩
      · refine ⟨by rw [g1', ft, if_neg hb, List.append_nil], fun b o nb e => s2 _ _ (g2 b o nb e)⟩
    · rintro H2 ⟨g1, g2⟩
      rw [List.length_map, List.take_length] at g1
      have g1' : H2 A2 = some (.lst ((olderL D n).map sv)) := g1
      have s2 : Same H H2 := fun b o e => upd_atS hA2 g2 b o (s1 _ _ e)
      have dk2 := dk.same s2
      have A2H : H A2 = none := by
        cases e : H A2 with
        | none => rfl
        | some o => rw [s1 _ _ e] at hA2; cases hA2
      have nfp : A2 ∉ fp := fun m => dk.1.has A2 m A2H
      have ol : (olderL D n).length ≤ 63 := by
        have := List.length_filter_le (fun x => decide (((numS x : Nat) : Int) < n)) (snapV (viewD D))
        unfold olderL
        omega
      have ond : (olderL D n).Nodup := List.Sublist.nodup List.filter_sublist (snap_nd dk.2)
      have oin : ∀ x ∈ olderL D n, (getA D.names x).isSome = true := fun x m => (snap_in (List.mem_filter.mp m).1).1
      have wfd := dk.2
      (repeat array_get_dec)
      refine for_list (K := K) (a := A2) (xs := (olderL D n).map sv) (fun i σ H' => ∃ v3 fp', σ = [some (.ref a), some (.int n), some (.ref A2), v3] ∧ DiskAt M.CD H' a fp' (dropAll D ((olderL D n).take i)) ∧ Fr fp fp' H2 H') ⟨_, fp, rfl, dk2, Fr.refl _ _⟩ ?_ ?_ ?_
      · rintro i σ H' _ ⟨v3, fp', rfl, _, F3⟩
        exact SqL.of (F3.1 _ _ g1' nfp)
      · rintro i v σ H3 hv ⟨v3, fp3, rfl, dk3, F3⟩
        obtain ⟨x, hx, rfl⟩ := getE_map hv
        obtain ⟨⟨k3, l3, n3, sa3, d3, ts3, efp3, ⟨_, ⟨dx3, hi3⟩, _⟩⟩, _⟩ := id dk3
        have li : i < (olderL D n).length := (List.getElem?_eq_some_iff.mp hx).1
        have nx : x ∉ (olderL D n).take i := fun m => by
          obtain ⟨j, hj⟩ := List.getElem?_of_mem m
          have lj : j < i := by
            have := (List.getElem?_eq_some_iff.mp hj).1
            rw [List.length_take] at this
            omega
          rw [List.getElem?_take_of_lt lj] at hj
          have e1 := (List.getElem?_eq_some_iff.mp hj)
          have e2 := (List.getElem?_eq_some_iff.mp hx)
          have := (List.getElem_inj ond).mp (e1.2.trans e2.2.symm)
          omega
        have cD : cap (dropAll D ((olderL D n).take i)) 1 := cap_drops (c64.less (by rw [List.length_take]; omega))
        (repeat array_get_dec)
        refine ⟨a, x, fp3, _, rfl, dk3, (cap_step cD (.drop x) trivial).bd, done_drop (drops_done (oin x (List.mem_of_getElem? hx)) nx), fun H4 fp4 dk4 F4 => ?_⟩
        (repeat array_get_dec)
        rw [take_one hx]
        exact ⟨_, fp4, rfl, by rw [dropAll_snoc]; exact dk4, F3.trans F4⟩
      · rintro σ H3 ⟨v3, fp3, rfl, dk3, F3⟩
        rw [List.length_map, List.take_length] at dk3
        obtain ⟨⟨k3, l3, n3, sa3, d3, ts3, efp3, ⟨_, ⟨dx3, hi3⟩, _⟩⟩, _⟩ := id dk3
        have cD : cap (dropAll D (olderL D n)) 1 := cap_drops (c64.less (by omega))
        have g3 := F3.1 _ _ g1' nfp
        have nfp3 : A2 ∉ fp3 := fun m => (F3.2 A2 m).elim nfp fun z => by rw [g1'] at z; cases z
        (repeat array_get_dec)
        refine ⟨a, fp3, _, rfl, dk3, (cap_names cD).bd, fun H4 fp4 dk4 F4 => ?_⟩
        dsimp only [step, finR]
        have g4 := F4.1 _ _ g3 nfp3
        (repeat array_get_dec)
        rw [List.length_map]
        exact q _ _ dk4 (((Fr.same s2).trans F3).trans F4)
end
end K54

namespace K54
open PySem PySem.Spec PyProof.Rows L2
local macro_rules | `(tactic| array_mem_dec) => `(tactic| first | with_reducible assumption | with_reducible exact upd_same | ((with_reducible apply same_at); (with_reducible assumption); array_mem_dec) | ((with_reducible apply upd_atN); (with_reducible assumption); array_mem_dec) | ((with_reducible apply upd_at); (first | with_reducible assumption | (apply Ne.symm; with_reducible assumption)); array_mem_dec))
local macro_rules | `(tactic| array_get_dec) => `(tactic| first | (with_reducible refine w_seq ?_) | (with_reducible refine w_asg ?_) | (with_reducible refine w_drop ?_) | (with_reducible refine w_ret ?_) | (with_reducible refine w_retN ?_) | (with_reducible refine w_next ?_) | (with_reducible refine w_break ?_) | (with_reducible refine w_cont ?_) | (with_reducible refine w_ifS ?_) | (with_reducible refine w_sub ?_) | (with_reducible refine w_c ?_) | (with_reducible refine w_op ?_) | (with_reducible refine w_un ?_) | (with_reducible refine w_test ?_) | (with_reducible refine w_B ?_) | (with_reducible refine w_yes ?_) | (with_reducible refine w_not ?_) | (with_reducible refine w_and ?_) | (with_reducible refine w_or ?_) | (with_reducible refine w_andV ?_) | (with_reducible refine w_orV ?_) | (with_reducible refine w_notV ?_) | (with_reducible refine w_ifE ?_) | (with_reducible refine w_nil ?_) | (with_reducible refine w_cons ?_) | (with_reducible refine w_call ?_) | (with_reducible refine w_callS ?_) | (with_reducible refine w_cB ?_) | (with_reducible refine w_lst ?_) | (with_reducible refine w_tup ?_) | (with_reducible refine w_sl ?_) | (with_reducible refine w_noPart ?_) | (with_reducible refine w_part ?_) | (with_reducible refine w_bm ?_) | (with_reducible refine w_bm0 ?_) | (with_reducible refine w_strTy ?_) | (with_reducible refine w_bl ?_) | (with_reducible refine w_int1 ?_) | (with_reducible refine w_str1 ?_) | (with_reducible refine w_rI0 ?_) | (with_reducible refine w_rU ?_) | (with_reducible refine w_eqI ?_) | (with_reducible refine w_eqS ?_) | (with_reducible refine w_neI ?_) | (with_reducible refine w_neS ?_) | (with_reducible refine w_bl2 ?_) | (with_reducible refine w_isN ?_) | (with_reducible refine w_for ?_) | (with_reducible refine w_iRng1 ?_) | (with_reducible refine w_iRng2 ?_) | (with_reducible refine w_iList ?_) | (with_reducible refine w_iTup ?_) | (with_reducible refine w_iStr ?_) | (with_reducible refine w_lc ?_) | (with_reducible refine w_M1 ?_) | (with_reducible refine w_M0 ?_) | (with_reducible refine w_isS ?_) | ((with_reducible apply w_name); (simp only [wipe, List.map_cons, List.map_nil, List.foldl_cons, List.foldl_nil, List.set_cons_zero, List.set_cons_succ]; exact rfl)) | ((with_reducible apply w_var); exact rfl) | ((with_reducible apply w_lstTy); array_mem_dec) | ((with_reducible apply w_lenL); array_mem_dec) | ((with_reducible apply w_lenT); array_mem_dec) | ((with_reducible apply w_listOf); array_mem_dec) | ((with_reducible apply w_lenS); (first | (with_reducible assumption) | omega | (rw [sizeLine_eq]; omega))) | ((with_reducible apply w_slS); (first | (with_reducible assumption) | omega | (rw [sizeLine_eq]; omega))) | ((with_reducible apply w_wipe); exact rfl) | ((with_reducible apply w_acc); array_mem_dec; (try (first | (with_reducible assumption) | omega | (rw [sizeLine_eq]; omega)))) | ((with_reducible apply w_itl); array_mem_dec) | ((with_reducible apply w_itt); array_mem_dec) | ((with_reducible apply w_append); array_mem_dec; (try (first | (with_reducible assumption) | omega | (rw [sizeLine_eq]; omega)))) | ((with_reducible apply w_rng1); (first | (with_reducible assumption) | omega); (first | (with_reducible assumption) | omega)) | ((with_reducible apply w_ixL); array_mem_dec; (first | (with_reducible assumption) | exact rfl | (apply atI_nat; (with_reducible assumption)) | exact atI_last _ _)) | ((with_reducible apply w_ixT); array_mem_dec; (first | (with_reducible assumption) | exact rfl | (apply atI_nat; (with_reducible assumption)) | exact atI_last _ _)) | ((with_reducible apply w_iT); first | exact rfl | (with_reducible assumption)) | ((with_reducible apply w_iF); first | exact rfl | (with_reducible assumption)) | ((with_reducible apply w_isiI (b := true)); decide +kernel) | ((with_reducible apply w_isiI (b := false)); decide +kernel) | ((with_reducible apply w_isiB (b := true)); decide +kernel) | ((with_reducible apply w_isiB (b := false)); decide +kernel) | ((with_reducible apply w_isiS (b := true)); decide +kernel) | ((with_reducible apply w_isiS (b := false)); decide +kernel) | ((with_reducible apply w_isiN (b := true)); decide +kernel) | ((with_reducible apply w_isiN (b := false)); decide +kernel) | ((with_reducible apply w_isiL (b := true)); array_mem_dec; decide +kernel) | ((with_reducible apply w_isiL (b := false)); array_mem_dec; decide +kernel) | ((with_reducible apply w_isiT (b := true)); array_mem_dec; decide +kernel) | ((with_reducible apply w_isiT (b := false)); array_mem_dec; decide +kernel) | (with_reducible refine w_notT ?_) | (with_reducible refine w_chain ?_) | ((with_reducible apply w_trL); array_mem_dec) | ((with_reducible apply w_gTup); array_mem_dec; exact rfl) | ((with_reducible apply w_gLst); array_mem_dec; exact rfl) | (with_reducible refine w_gCons ?_) | (with_reducible refine w_gNil ?_) | (with_reducible refine w_Fld ?_) | (with_reducible refine w_sFld ?_) | (with_reducible refine w_dget ?_) | (with_reducible refine w_dIn ?_) | (with_reducible refine w_dNotIn ?_) | (with_reducible refine w_sDPut ?_) | (with_reducible refine w_dnewK ?_) | (with_reducible refine w_meth ?_) | (with_reducible refine w_make ?_) | (with_reducible refine w_methS ?_) | (with_reducible refine w_makeS ?_) | (with_reducible refine w_dpop ?_) | ((with_reducible apply w_fld1); array_mem_dec; (with_reducible assumption); (with_reducible assumption); exact rfl) | ((with_reducible apply w_sfld1); array_mem_dec; (with_reducible assumption); (with_reducible assumption); exact Nat.le_of_ble_eq_true rfl) | ((with_reducible apply w_meth1); array_mem_dec; exact rfl) | ((with_reducible apply w_dgetS); array_mem_dec; (with_reducible assumption)) | ((with_reducible apply w_dgetI); array_mem_dec; (with_reducible assumption)) | ((with_reducible apply w_dinS); array_mem_dec) | ((with_reducible apply w_dputI); array_mem_dec; (try (first | (with_reducible assumption) | omega | (rw [sizeLine_eq]; omega)))) | ((with_reducible apply w_dputS); array_mem_dec; (try (first | (with_reducible assumption) | omega | (rw [sizeLine_eq]; omega)))) | ((with_reducible apply w_isD); array_mem_dec) | ((with_reducible apply w_dictD); array_mem_dec) | ((with_reducible apply w_dpopS); array_mem_dec; (with_reducible assumption)) | (with_reducible refine w_iRev ?_) | ((with_reducible apply w_setL); array_mem_dec; exact rfl) | ((with_reducible apply w_cat); array_mem_dec; array_mem_dec; (try (first | (with_reducible assumption) | omega | (rw [sizeLine_eq]; omega)))) | (with_reducible refine w_iKeys ?_) | (with_reducible refine w_dget2 ?_) | (with_reducible refine w_scX ?_) | ((with_reducible apply w_keysF); array_mem_dec) | ((with_reducible apply w_dgetSF); array_mem_dec; (with_reducible assumption)))
section
variable {P : Program} {w : World} {K : PySem.W.Frag} {mg : Str → Option Value} {base : Heap}
theorem asideD_has {D : DS} {u : Tx} (h63 : ¬ 63 ∈ u) : hasA (asideD D u).names asideL = true := by
  unfold hasA
  rw [asideD_get h63]; rfl
theorem ok_save (M : Nms K mg) : FnOk P w K mg base (L2N.CX P w) 5 M.a_save M.d_save ["disk", "number", "text"] (spSave M.CD M.CP M.CN) := by
  refine M.F_save.okN sc_save (fun vs H Q E h => ?_) (fun cdv A outer s H vs Q E hr h => ?_)
  · obtain ⟨a, fp, D, v, t, rfl, _⟩ := h
    rfl
  · have hu := hu1 hr
    have clD := M.clD
    have nD_kept := M.nD_kept
    have nD_late := M.nD_late
    have nD_names := M.nD_names
    have nD_sure := M.nD_sure
    have nD_changes := M.nD_changes
    have nD_next := M.nD_next
    refine ⟨_, (pss_cons (ps_expr (pe_callS (ok_snap_name M) (hr.mono (by decide)) rfl M.g_snap_name M.k_snap_name M.b_snap_name (fun σ => L2N.passAt (L2N.takes_of rfl rfl rfl rfl) σ) (pa_cons (pv 1) pa_nil)))
    (pss_cons (ps_expr (pe_callS (ok_write_aside M) (hr.mono (by decide)) rfl M.g_write_aside M.k_write_aside M.b_write_aside (fun σ => L2N.passAt (L2N.takes_of rfl rfl rfl rfl) σ) (pa_cons (pv 0) (pa_cons (pv 2) pa_nil))))
    (pss_cons (ps_expr (pe_callS (ok_name_it M) (hr.mono (by decide)) rfl M.g_name_it M.k_name_it M.b_name_it (fun σ => L2N.passAt (L2N.takes_of rfl rfl rfl rfl) σ) (pa_cons (pv 0) (pa_cons (pv 1) pa_nil))))
    (pss_one (ps_ret (pe_call (ok_drop_older M) (hr.mono (by decide)) rfl M.g_drop_older M.k_drop_older M.b_drop_older .nil pass0 (pa_cons (pv 0) (pa_cons (pv 1) pa_nil)))))))), ?_⟩
    try dsimp only [cxOf, Cx.nox]
    obtain ⟨a, fp, D, v, t, rfl, dk, lt, eN, q⟩ := h
    refine w_start (σ' := [some (.ref a), some (vIB v), some (sv t)]) rfl ?_
    (repeat array_get_dec)
    refine ⟨v, rfl, fun n hn => ?_, eN⟩
    obtain ⟨rfl, cp, eP, q⟩ := q n hn
    obtain ⟨_, hn6⟩ := strsOf hn
    (repeat array_get_dec)
    refine ⟨a, fp, D, t, rfl, dk, lt, cp.less (by omega), fun hg H1 fp1 dk1 F1 => ?_, fun hg H1 s1 => eP hg H1 s1⟩
    have h63 := frame63 hg
    have lf : (frameL t).length ≤ 2000 := by have := frame_len t (by omega); omega
    have c1 : cap (asideD D (frameL t)) (D.names.length + 8) := asideD_cap lf cp
    (repeat array_get_dec)
    refine ⟨a, fp1, _, .int (n : Int), rfl, dk1, c1.less (by omega), fun z => (by rw [asideD_has h63] at z; cases z), fun _ => ⟨fun m hm H2 fp2 dk2 F2 => ?_, fun z => by rw [hn] at z; cases z⟩⟩
    rw [hn] at hm
    cases hm
    have c2 : cap (nameD (asideD D (frameL t)) n) (D.names.length + 7) := nameD_cap hn6 c1
    have ln := older_len (D := nameD (asideD D (frameL t)) n) (n := (n : Int))
    have l2 := nameD_names (D := asideD D (frameL t)) (n := n)
    have l3 := asideD_names (D := D) (u := frameL t)
    (repeat array_get_dec)
    exact ⟨a, fp2, _, (n : Int), rfl, dk2, c2.less (by omega), fun H3 fp3 dk3 F3 => q hg H3 fp3 dk3 ((F1.trans F2).trans F3)⟩
theorem okL_save (M : Nms K mg) : FnOk P w K mg base CX0 5 M.a_save M.d_save ["disk", "number", "text"] (fun vs H Q _ => ∃ a fp D n t, vs = [.ref a, .int ((n : Nat) : Int), sv t] ∧ DiskAt M.CD H a fp D ∧ t.length ≤ 1000 ∧ n ≤ 999999 ∧ cap D (D.names.length + 12) ∧ goodT t ∧ ∀ H' fp', DiskAt M.CD H' a fp' (olderD (nameD (asideD D (frameL t)) n) (n : Int)) → Fr fp fp' H H' → Q (.int (((olderL (nameD (asideD D (frameL t)) n) (n : Int)).length : Nat) : Int)) H') :=
  ok_low (ok_save M) fun vs H Q E ⟨a, fp, D, n, t, e, dk, lt, hn, cp, g, q⟩ => ⟨a, fp, D, .int (n : Int), t, e, dk, lt, (fun z => by
    have : (if 0 ≤ (n : Int) ∧ (n : Int) ≤ ((999999 : Nat) : Int) then some (n : Int).toNat else none) = none := z
    rw [if_pos ⟨by omega, by omega⟩] at this
    cases this), fun m hm => by
    have : (if 0 ≤ (n : Int) ∧ (n : Int) ≤ ((999999 : Nat) : Int) then some (n : Int).toNat else none) = some m := hm
    rw [if_pos ⟨by omega, by omega⟩, Int.toNat_natCast] at this
    cases this
    exact ⟨rfl, cp, fun z => absurd g z, fun _ => q⟩⟩
theorem okL_write_aside (M : Nms K mg) : FnOk P w K mg base CX0 4 M.a_write_aside M.d_write_aside ["disk", "text"] (fun vs H Q _ => ∃ a fp D t, vs = [.ref a, sv t] ∧ DiskAt M.CD H a fp D ∧ t.length ≤ 1000 ∧ cap D 5 ∧ goodT t ∧ ∀ H' fp', DiskAt M.CD H' a fp' (asideD D (frameL t)) → Fr fp fp' H H' → Q .non H') :=
  ok_low (ok_write_aside M) fun vs H Q E ⟨a, fp, D, t, e, dk, lt, cp, g, q⟩ => ⟨a, fp, D, t, e, dk, lt, cp, fun _ => q, fun z => absurd g z⟩
theorem okL_name_it (M : Nms K mg) : FnOk P w K mg base CX0 4 M.a_name_it M.d_name_it ["disk", "number"] (fun vs H Q _ => ∃ a fp D n, vs = [.ref a, .int ((n : Nat) : Int)] ∧ DiskAt M.CD H a fp D ∧ cap D 3 ∧ n ≤ 999999 ∧ hasA D.names asideL = true ∧ ∀ H' fp', DiskAt M.CD H' a fp' (nameD D n) → Fr fp fp' H H' → Q .non H') :=
  ok_low (ok_name_it M) fun vs H Q E ⟨a, fp, D, n, e, dk, cp, hn, g, q⟩ => ⟨a, fp, D, .int (n : Int), e, dk, cp, fun z => (by rw [g] at z; cases z), fun _ => ⟨(fun m hm => by
    have : (if 0 ≤ (n : Int) ∧ (n : Int) ≤ ((999999 : Nat) : Int) then some (n : Int).toNat else none) = some m := hm
    rw [if_pos ⟨by omega, by omega⟩, Int.toNat_natCast] at this
    cases this
    exact q), fun z => by
    have : (if 0 ≤ (n : Int) ∧ (n : Int) ≤ ((999999 : Nat) : Int) then some (n : Int).toNat else none) = none := z
    rw [if_pos ⟨by omega, by omega⟩] at this
    cases this⟩⟩
def keepB (l : List (Tx × Tx)) (x : Tx) : Bool := match loadV l with | none => true | some p => decide (x ≠ snapL p.1)
theorem gone_eq (l : List (Tx × Tx)) : goneL l = ((snapV l).filter (keepB l)) ++ (if hasA l asideL = true then [asideL] else []) := rfl
theorem view_has {D : DS} {x : Tx} : hasA (viewD D) x = hasA D.names x := by
  unfold hasA
  rw [view_get]
  cases getA D.names x <;> rfl
theorem gone_in {D : DS} : ∀ x ∈ goneL (viewD D), (getA D.names x).isSome = true := by
  intro x m
  rw [gone_eq] at m
  rcases List.mem_append.mp m with m | m
  · exact (snap_in (List.mem_filter.mp m).1).1
  · by_cases h : hasA (viewD D) asideL = true
    · rw [if_pos h, List.mem_singleton] at m
      rw [view_has] at h
      rw [m]; exact h
    · rw [if_neg h] at m; cases m
theorem gone_nd {D : DS} (w : wf D) : (goneL (viewD D)).Nodup := by
  rw [gone_eq, List.nodup_append]
  refine ⟨List.Sublist.nodup List.filter_sublist (snap_nd w), ?_, ?_⟩
  · split
    · exact List.nodup_cons.mpr ⟨(fun z => by cases z), List.nodup_nil⟩
    · exact List.nodup_nil
  · intro a ha b hb e
    subst e
    have h1 := (snap_in (List.mem_filter.mp ha).1).2
    by_cases h : hasA (viewD D) asideL = true
    · rw [if_pos h, List.mem_singleton] at hb
      rw [hb, aside_no] at h1
      cases h1
    · rw [if_neg h] at hb; cases hb
theorem sv_ne {x y : Tx} : (!decide (sv x = sv y)) = decide (x ≠ y) := by
  rw [Bool.eq_iff_iff, Bool.not_eq_true', decide_eq_false_iff_not, decide_eq_true_eq]
  exact ⟨fun h z => h (by rw [z]), fun h z => h (by have := V.str.inj z; have e := congrArg tl this; exact e)⟩
theorem w_two {c : Bool} {σ : L2.St} {H : Hp} {k : VK} (h : ∀ b, H b = none → k (.ref b) (upd H b (.lst ((if c = true then [asideL] else []).map sv)))) :
    if c = true then tLst (tCons (tC (.str (Str.ofString "snap.new"))) tNil) σ H k else tLst tNil σ H k := by
  cases c with
  | true => exact ⟨by show 1 ≤ sizeLine; decide, fun b hb => h b hb⟩
  | false => exact ⟨by show 0 ≤ sizeLine; decide, fun b hb => h b hb⟩
theorem ok_clean (M : Nms K mg) : FnOk P w K mg base CX0 5 M.a_clean M.d_clean ["disk"] (spClean M.CD) := by
  obtain ⟨tAS, GAS⟩ := M.cAS
  refine M.F_clean.ok sc_clean (fun vs H Q E h => ?_) (fun cdv A outer s H vs Q E hr h => ?_)
  · obtain ⟨a, fp, D, rfl, _⟩ := h
    rfl
  · have hu := hu1 hr
    have clD := M.clD
    have nD_kept := M.nD_kept
    have nD_late := M.nD_late
    have nD_names := M.nD_names
    have nD_sure := M.nD_sure
    have nD_changes := M.nD_changes
    have nD_next := M.nD_next
    refine ⟨_, (pss_cons (ps_set (i := 1) sc_clean.nd rfl (Or.inr rfl) (pe_call (ok_load M) (hr.mono (by decide)) rfl M.g_load M.k_load M.b_load .nil pass0 (pa_cons (pv 0) pa_nil)))
    (pss_cons (ps_setLc (i := 2) (own := [("name", 3)]) rfl sc_clean.nd rfl rfl (sw_true rfl rfl rfl (by decide +kernel)) (pi_list (pe_call (ok_snap_names M) (hr.mono (by decide)) rfl M.g_snap_names M.k_snap_names M.b_snap_names .nil pass0 (pa_cons (pv 0) pa_nil))) (blkOk_by (N := ["disk", "told", "gone", "name"]) (sc := defScope s_clean) (own := [("name", 3)]) (by decide +kernel)) (fun _ _ _ _ _ => (pg_name (i := 3) sc_clean.nd rfl (Or.inl rfl))) (fun _ _ _ _ _ => pts_one (PW.pt (pw_or (pt_cmpR op_isN (pv 1) pe_non (nomark _)) (pw_or1 (pt_cmpR op_ne (pv 3) (pe_call (okL_snap_name M) (hr.mono (by decide)) rfl M.g_snap_name M.k_snap_name M.b_snap_name .nil pass0 (pa_cons (pe_ix (r := rIxT K) ix_tup (pv 1) pe_int (fun _ _ => rfl)) pa_nil)) (nomark _)))))) (fun _ _ _ _ _ => (pv 3)))
    (pss_cons (ps_set (i := 2) sc_clean.nd rfl (Or.inl rfl) (pe_op op_cat (pv 2) (pe_ifExp (pt_val (pe_meth (pv 0) M.clD M.m_Disk_has (ok_Disk_has M) (hr.mono (by decide)) M.b_Disk_has .nil pass0 (pa_cons (pe_glob (v := .str (Str.ofString "snap.new")) rfl GAS ⟨_, rfl⟩) pa_nil))) (pe_lst (pa_cons (pe_glob (v := .str (Str.ofString "snap.new")) rfl GAS ⟨_, rfl⟩) pa_nil)) (pe_lst pa_nil))))
    (pss_cons (ps_for PassesOwn.never rfl (pi_list (pv 2)) (pg_name (i := 3) sc_clean.nd rfl (Or.inl rfl)) (pss_one (ps_expr (pe_meth (pv 0) M.clD M.m_Disk_remove (okL_Disk_remove M) (hr.mono (by decide)) M.b_Disk_remove .nil pass0 (pa_cons (pv 3) pa_nil)))))
    (pss_cons (ps_expr (pe_meth0 (pv 0) M.clD M.m_Disk_sync_names (ok_Disk_sync_names M) (hr.mono (by decide)) M.b_Disk_sync_names .nil pass0))
    (pss_one (ps_ret (pe_callB (id := "len") (r := fun xs H Q => ∃ x n, xs = [x] ∧ LenV K x H n ∧ Q (V.int ((n : Nat) : Int)) H) call_len (by rfl) M.T.b_len (by decide +kernel) (pa_cons (pv 2) pa_nil))))))))), ?_⟩
    try dsimp only [cxOf, Cx.nox]
    obtain ⟨a, fp, D, rfl, dk, cp, q⟩ := h
    refine w_start (σ' := [some (.ref a), none, none, none]) rfl ?_
    (repeat array_get_dec)
    refine ⟨a, fp, D, rfl, dk, cp.na, fun vt H0 s0 lo => ?_⟩
    have dk0 := dk.same s0
    (repeat array_get_dec)
    refine ⟨a, fp, D, rfl, dk0, cp.na, fun r H1 s1 fr h1 => ?_⟩
    have lo1 := lo.same s1
    have lb := fun n t (e : loadV (viewD D) = some (n, t)) => load_le e
    (repeat array_get_dec)
    intro A2 hA2
    have nA : A2 ≠ r := fun z => by rw [z, h1] at hA2; cases hA2
    have ll : (snapV (viewD D)).length < 64 := by have := snap_len (D := D); have := cp.names; omega
    refine lc_list (K := K) (a := r) (xs := (snapV (viewD D)).map sv) (fun i H' => H' A2 = some (.lst ((((snapV (viewD D)).take i).filter (keepB (viewD D))).map sv)) ∧ ∀ b o, b ≠ A2 → H1 b = some o → H' b = some o) ⟨upd_same, fun b o nb e => by rw [upd_ne nb]; exact e⟩ ?_ ?_ ?_
    · rintro i H' hi ⟨g1, g2⟩
      exact SqL.of (g2 _ _ (Ne.symm nA) h1)
    · rintro i v H' hv ⟨g1, g2⟩
      obtain ⟨x, hx, rfl⟩ := getE_map hv
      have lz : ((((snapV (viewD D)).take i).filter (keepB (viewD D))).map sv).length < sizeLine := by
        rw [List.length_map]
        have := List.length_filter_le (keepB (viewD D)) ((snapV (viewD D)).take i)
        rw [List.length_take] at this
        rw [sizeLine_eq]; omega
      have ft : ((snapV (viewD D)).take (i + 1)).filter (keepB (viewD D)) = ((snapV (viewD D)).take i).filter (keepB (viewD D)) ++ (if keepB (viewD D) x = true then [x] else []) := by
        rw [take_one hx, List.filter_append, List.filter_cons]
        rfl
      cases el : loadV (viewD D) with
      | none =>
        rw [el] at lo1
        obtain rfl : vt = .non := lo1
        have kb : keepB (viewD D) x = true := by unfold keepB; rw [el]
        (repeat array_get_dec)
        refine ⟨by rw [upd_same, ft, if_pos kb, List.map_append]; rfl, fun b o nb e => by rw [upd_ne nb]; exact g2 b o nb e⟩
      | some pr =>
        obtain ⟨n, t⟩ := pr
        rw [el] at lo1
        obtain ⟨p, rfl, hp⟩ := lo1
        have kb : keepB (viewD D) x = decide (x ≠ snapL n) := by unfold keepB; rw [el]
        have np : p ≠ A2 := fun z => by rw [z, hA2] at hp; cases hp
        have hp' := g2 _ _ np hp
        have t0 : atI [V.int (n : Int), sv t] (0 : Int) = some (.int (n : Int)) := atI_nat (j := 0) rfl
        (repeat array_get_dec)
        refine ⟨n, rfl, lb n t el, ?_⟩
        (repeat array_get_dec)
        rw [sv_ne, ← kb]
        refine ite2 (fun hb => ?_) (fun hb => ?_)
        · (repeat array_get_dec)
          refine ⟨by rw [upd_same, ft, if_pos hb, List.map_append]; rfl, fun b o nb e => by rw [upd_ne nb]; exact g2 b o nb e⟩
        · exact ⟨by rw [g1, ft, if_neg hb, List.append_nil], g2⟩
    · rintro H2 ⟨g1, g2⟩
      rw [List.length_map, List.take_length] at g1
      have s2 : Same H H2 := fun b o e => upd_atS hA2 g2 b o (s1 _ _ (s0 _ _ e))
      have dk2 := dk.same s2
      have ol : (goneL (viewD D)).length ≤ D.names.length + 1 := gone_len
      have o1 : ((snapV (viewD D)).filter (keepB (viewD D))).length ≤ D.names.length := Nat.le_trans (List.length_filter_le _ _) snap_len
      have ond := gone_nd dk.2
      have oin := gone_in (D := D)
      have wfd := dk.2
      have cn := cp.names
      obtain ⟨⟨k2, l2, n2, sa2, d2, ts2, efp2, ⟨_, ⟨dx2, hi2⟩, _⟩⟩, _⟩ := id dk2
      have A2H : H A2 = none := by
        cases e : H A2 with
        | none => rfl
        | some o => rw [s1 _ _ (s0 _ _ e)] at hA2; cases hA2
      have nfpA : ∀ {c : Addr}, H c = none → c ∉ fp := fun e m => dk.1.has _ m e
      (repeat array_get_dec)
      refine ⟨a, fp, D, asideL, rfl, dk2.1, ?_⟩
      (repeat array_get_dec)
      rw [← view_has]
      refine w_two (fun b hb => ?_)
      have ga : upd H2 b (.lst ((if hasA (viewD D) asideL = true then [asideL] else []).map sv)) A2 = some (.lst (((snapV (viewD D)).filter (keepB (viewD D))).map sv)) := by
        rw [upd_ne (fun z => by rw [z, hb] at g1; cases g1)]; exact g1
      have gb : upd H2 b (.lst ((if hasA (viewD D) asideL = true then [asideL] else []).map sv)) b = some (.lst ((if hasA (viewD D) asideL = true then [asideL] else []).map sv)) := upd_same
      have s3 : Same H2 (upd H2 b (.lst ((if hasA (viewD D) asideL = true then [asideL] else []).map sv))) := same_upd (Same.refl _) hb
      have la : (if hasA (viewD D) asideL = true then [asideL] else []).length ≤ 1 := by split <;> simp
      have eg := gone_eq (viewD D)
      generalize upd H2 b (.lst ((if hasA (viewD D) asideL = true then [asideL] else []).map sv)) = H3 at *
      refine w_cat ga gb (by rw [List.length_map, List.length_map, sizeLine_eq]; omega) fun L hL => ?_
      have h4 : upd H3 L (.lst (((snapV (viewD D)).filter (keepB (viewD D))).map sv ++ (if hasA (viewD D) asideL = true then [asideL] else []).map sv)) L = some (.lst ((goneL (viewD D)).map sv)) := by
        rw [upd_same, eg, List.map_append]
      have s4 : Same H3 (upd H3 L (.lst (((snapV (viewD D)).filter (keepB (viewD D))).map sv ++ (if hasA (viewD D) asideL = true then [asideL] else []).map sv))) := same_upd (Same.refl _) hL
      generalize upd H3 L (.lst (((snapV (viewD D)).filter (keepB (viewD D))).map sv ++ (if hasA (viewD D) asideL = true then [asideL] else []).map sv)) = H4 at *
      have s5 : Same H H4 := fun b o e => s4 _ _ (s3 _ _ (s2 _ _ e))
      have LH : H L = none := by
        cases e : H L with
        | none => rfl
        | some o => rw [s3 _ _ (s2 _ _ e)] at hL; cases hL
      have nfp : L ∉ fp := fun m => dk.1.has L m LH
      have dk4 := dk.same s5
      (repeat array_get_dec)
      refine for_list (K := K) (a := L) (xs := (goneL (viewD D)).map sv) (fun i σ H' => ∃ v3 fp', σ = [some (.ref a), some vt, some (.ref L), v3] ∧ DiskAt M.CD H' a fp' (dropAll D ((goneL (viewD D)).take i)) ∧ Fr fp fp' H4 H') ⟨_, fp, rfl, dk4, Fr.refl _ _⟩ ?_ ?_ ?_
      · rintro i σ H' _ ⟨v3, fp', rfl, _, F3⟩
        exact SqL.of (F3.1 _ _ h4 nfp)
      · rintro i v σ H5 hv ⟨v3, fp3, rfl, dk3, F3⟩
        obtain ⟨x, hx, rfl⟩ := getE_map hv
        obtain ⟨⟨k3, l3, n3, sa3, d3, ts3, efp3, ⟨_, ⟨dx3, hi3⟩, _⟩⟩, _⟩ := id dk3
        have li : i < (goneL (viewD D)).length := (List.getElem?_eq_some_iff.mp hx).1
        have nx : x ∉ (goneL (viewD D)).take i := fun m => by
          obtain ⟨j, hj⟩ := List.getElem?_of_mem m
          have lj : j < i := by
            have := (List.getElem?_eq_some_iff.mp hj).1
            rw [List.length_take] at this
            omega
          rw [List.getElem?_take_of_lt lj] at hj
          have e1 := (List.getElem?_eq_some_iff.mp hj)
          have e2 := (List.getElem?_eq_some_iff.mp hx)
          have := (List.getElem_inj ond).mp (e1.2.trans e2.2.symm)
          omega
        have cD : cap (dropAll D ((goneL (viewD D)).take i)) 1 := cap_drops (cp.less (by rw [List.length_take]; omega))
        (repeat array_get_dec)
        refine ⟨a, x, fp3, _, rfl, dk3, (cap_step cD (.drop x) trivial).bd, done_drop (drops_done (oin x (List.mem_of_getElem? hx)) nx), fun H6 fp4 dk4 F4 => ?_⟩
        (repeat array_get_dec)
        rw [take_one hx]
        exact ⟨_, fp4, rfl, by rw [dropAll_snoc]; exact dk4, F3.trans F4⟩
      · rintro σ H5 ⟨v3, fp3, rfl, dk3, F3⟩
        rw [List.length_map, List.take_length] at dk3
        obtain ⟨⟨k3, l3, n3, sa3, d3, ts3, efp3, ⟨_, ⟨dx3, hi3⟩, _⟩⟩, _⟩ := id dk3
        have cD : cap (dropAll D (goneL (viewD D))) 1 := cap_drops (cp.less (by omega))
        have g3 := F3.1 _ _ h4 nfp
        have nfp3 : L ∉ fp3 := fun m => (F3.2 L m).elim nfp fun z => by rw [h4] at z; cases z
        (repeat array_get_dec)
        refine ⟨a, fp3, _, rfl, dk3, (cap_names cD).bd, fun H6 fp4 dk4 F4 => ?_⟩
        dsimp only [step, finR]
        have g4 := F4.1 _ _ g3 nfp3
        (repeat array_get_dec)
        rw [List.length_map]
        exact q _ _ dk4 (((Fr.same s5).trans F3).trans F4)
end
end K54

namespace K54
open PySem PySem.Spec PyProof.Rows L2
/-! ### _law_same of what is not the same -/
section
variable {P : Program} {w : World} {K : PySem.W.Frag} {mg : Str → Option Value} {base : Heap}
theorem ok_or {k : Nat} {CX : CXT} {f : Addr} {fd : FuncData} {ps : List Str} {sp sp' : Sp} (F : FnOk P w K mg base CX k f fd ps sp) (G : FnOk P w K mg base CX k f fd ps sp') : FnOk P w K mg base CX k f fd ps (fun vs H Q E => sp vs H Q E ∨ sp' vs H Q E) :=
  ⟨fun vs H Q E h => h.elim (F.len vs H Q E) (G.len vs H Q E), fun A outer s H args us vs Q E hr he hb hv hs => hs.elim (F.run A outer s H args us vs Q E hr he hb hv) (G.run A outer s H args us vs Q E hr he hb hv)⟩
def spNeI : Sp := fun vs H Q _ => ∃ i j : Int, vs = [.int i, .int j] ∧ ∀ H', Same H H' → Q (.bl (decide (V.int i = V.int j))) H'
theorem ok_neI {f : Addr} {fd : FuncData} (F : Fun K "_law_same" "_law_same" s__law_same f fd) (T : Blt mg) (mgS : mg "_law_same" = some (.ref f)) (kS : PySem.W.keepIn K (.ref f) = true) (bS : Binds K fd ["actual", "due"] []) :
    FnOk P w K mg base CX0 2 f fd ["actual", "due"] spNeI := by
  have FS := ok_same (P := P) (w := w) (base := base) F T mgS kS bS 0
  refine F.ok sc__law_same (fun vs H Q E h => ?_) (fun cdv A outer s H vs Q E hr h => ?_)
  · obtain ⟨i, j, rfl, _⟩ := h
    rfl
  · obtain ⟨i, j, rfl, k⟩ := h
    refine ⟨_, (pss_cons (ps_if (pt_cmpR op_isN (pv 1) pe_non (nomark _)) (pss_one (ps_ret (pe_cmpR op_isN (pv 0) pe_non (nomark _)))) pss_nil)
    (pss_cons (ps_if (pt_val (pe_callB call_isiT (by rfl) T.b_isinstance (by decide +kernel) (pa_cons (pv 1) (pa_cons (pe_tup (pa_cons (pe_bltn (v := .ty "tuple") (u := .type "tuple") (by rfl) T.b_tuple (by decide +kernel) rfl) (pa_cons (pe_bltn (v := .ty "list") (u := .type "list") (by rfl) T.b_list (by decide +kernel) rfl) pa_nil))) pa_nil)))) (pss_cons (ps_if (PW.pt (pw_or (pt_cmpR op_ne (pe_callB call_isi (by rfl) T.b_isinstance (by decide +kernel) (pa_cons (pv 1) (pa_cons (pe_bltn (v := .ty "tuple") (u := .type "tuple") (by rfl) T.b_tuple (by decide +kernel) rfl) pa_nil))) (pe_callB call_isi (by rfl) T.b_isinstance (by decide +kernel) (pa_cons (pv 0) (pa_cons (pe_bltn (v := .ty "tuple") (u := .type "tuple") (by rfl) T.b_tuple (by decide +kernel) rfl) pa_nil))) (nomark _)) (pw_or1 (pt_cmpR op_ne (pe_callB call_isi (by rfl) T.b_isinstance (by decide +kernel) (pa_cons (pv 1) (pa_cons (pe_bltn (v := .ty "list") (u := .type "list") (by rfl) T.b_list (by decide +kernel) rfl) pa_nil))) (pe_callB call_isi (by rfl) T.b_isinstance (by decide +kernel) (pa_cons (pv 0) (pa_cons (pe_bltn (v := .ty "list") (u := .type "list") (by rfl) T.b_list (by decide +kernel) rfl) pa_nil))) (nomark _))))) (pss_one (ps_ret pe_bl)) pss_nil)
    (pss_cons (ps_if (pt_cmpR op_ne (pe_callB call_len (by rfl) T.b_len (by decide +kernel) (pa_cons (pv 0) pa_nil)) (pe_callB call_len (by rfl) T.b_len (by decide +kernel) (pa_cons (pv 1) pa_nil)) (nomark _)) (pss_one (ps_ret pe_bl)) pss_nil)
    (pss_cons (ps_for PassesOwn.never rfl (pi_range1 (by rfl) T.b_range (pa_cons (pe_callB call_len (by rfl) T.b_len (by decide +kernel) (pa_cons (pv 1) pa_nil)) pa_nil)) (pg_name (i := 2) sc__law_same.nd rfl (Or.inl rfl)) (pss_one (ps_if (pt_not (pt_val (pe_call FS hr rfl mgS kS bS .nil pass0 (pa_cons (pe_ix (r := rIx K) ix_seq (pv 0) (pv 2) (fun _ _ => rfl)) (pa_cons (pe_ix (r := rIx K) ix_seq (pv 1) (pv 2) (fun _ _ => rfl)) pa_nil))))) (pss_one (ps_ret pe_bl)) pss_nil)))
    (pss_one (ps_ret pe_bl))))) pss_nil)
    (pss_cons (ps_if (pt_val (pe_callB call_isi (by rfl) T.b_isinstance (by decide +kernel) (pa_cons (pv 1) (pa_cons (pe_bltn (v := .ty "bool") (u := .type "bool") (by rfl) T.b_bool (by decide +kernel) rfl) pa_nil)))) (pss_one (ps_ret (pe_and (pe_callB call_isi (by rfl) T.b_isinstance (by decide +kernel) (pa_cons (pv 0) (pa_cons (pe_bltn (v := .ty "bool") (u := .type "bool") (by rfl) T.b_bool (by decide +kernel) rfl) pa_nil))) (pe_one (pe_cmpR op_eq (pv 0) (pv 1) (nomark _)))))) pss_nil)
    (pss_cons (ps_if (pt_val (pe_callB call_isi (by rfl) T.b_isinstance (by decide +kernel) (pa_cons (pv 1) (pa_cons (pe_bltn (v := .ty "int") (u := .type "int") (by rfl) T.b_int (by decide +kernel) rfl) pa_nil)))) (pss_one (ps_ret (pe_and (pe_callB call_isi (by rfl) T.b_isinstance (by decide +kernel) (pa_cons (pv 0) (pa_cons (pe_bltn (v := .ty "int") (u := .type "int") (by rfl) T.b_int (by decide +kernel) rfl) pa_nil))) (pe_and (pe_not (pe_callB call_isi (by rfl) T.b_isinstance (by decide +kernel) (pa_cons (pv 0) (pa_cons (pe_bltn (v := .ty "bool") (u := .type "bool") (by rfl) T.b_bool (by decide +kernel) rfl) pa_nil)))) (pe_one (pe_cmpR op_eq (pv 0) (pv 1) (nomark _))))))) pss_nil)
    (pss_one (ps_ret (pe_and (pe_callB call_isi (by rfl) T.b_isinstance (by decide +kernel) (pa_cons (pv 0) (pa_cons (pe_bltn (v := .ty "str") (u := .type "str") (by rfl) T.b_str (by decide +kernel) rfl) pa_nil))) (pe_one (pe_cmpR op_eq (pv 0) (pv 1) (nomark _)))))))))), ?_⟩
    refine ⟨_, rfl, rfl, _, rfl, ?_⟩
    refine iteF ?_
    refine ⟨_, rfl, (by show 2 ≤ sizeLine; decide), fun p hp => ?_⟩
    refine ⟨_, p, _, .type "int", _, false, rfl, upd_same, .cons (.ty "tuple") (.cons (.ty "list") .nil), .base (.int _), any_no (by decide +kernel) (by decide +kernel), false, rfl, ?_⟩
    refine iteF ?_
    refine ⟨_, rfl, _, _, .type "int", _, false, rfl, .ty "bool", .base (.int _), kit_ty (by decide +kernel), false, rfl, ?_⟩
    refine iteF ?_
    refine ⟨_, rfl, _, _, .type "int", _, true, rfl, .ty "int", .base (.int _), kit_ty (by decide +kernel), true, rfl, ?_⟩
    refine iteT ?_
    refine ⟨_, rfl, _, _, .type "int", _, true, rfl, .ty "int", .base (.int _), kit_ty (by decide +kernel), true, rfl, ?_⟩
    refine iteT ?_
    refine ⟨_, rfl, _, _, .type "int", _, false, rfl, .ty "bool", .base (.int _), kit_ty (by decide +kernel), false, rfl, true, rfl, ?_⟩
    refine iteT ?_
    refine ⟨_, rfl, _, rfl, rfl, ?_⟩
    exact k _ (same_upd (Same.refl _) hp)
def numO (o : Option (Nat × Tx)) : Option Nat := o.map (·.1)
def spNeL : Sp := fun vs H Q _ => ∃ v1 v2 o1 o2, vs = [v1, v2] ∧ LoadAt H v1 o1 ∧ LoadAt H v2 o2 ∧ numO o1 ≠ numO o2 ∧ ∀ H', Same H H' → Q (.bl false) H'
theorem ok_neL {f : Addr} {fd : FuncData} (F : Fun K "_law_same" "_law_same" s__law_same f fd) (T : Blt mg) (mgS : mg "_law_same" = some (.ref f)) (kS : PySem.W.keepIn K (.ref f) = true) (bS : Binds K fd ["actual", "due"] []) :
    FnOk P w K mg base CX0 3 f fd ["actual", "due"] spNeL := by
  have FS := ok_neI (P := P) (w := w) (base := base) F T mgS kS bS
  refine F.ok sc__law_same (fun vs H Q E h => ?_) (fun cdv A outer s H vs Q E hr h => ?_)
  · obtain ⟨v1, v2, o1, o2, rfl, _⟩ := h
    rfl
  · obtain ⟨v1, v2, o1, o2, rfl, h1, h2, hne, k⟩ := h
    refine ⟨_, (pss_cons (ps_if (pt_cmpR op_isN (pv 1) pe_non (nomark _)) (pss_one (ps_ret (pe_cmpR op_isN (pv 0) pe_non (nomark _)))) pss_nil)
    (pss_cons (ps_if (pt_val (pe_callB call_isiT (by rfl) T.b_isinstance (by decide +kernel) (pa_cons (pv 1) (pa_cons (pe_tup (pa_cons (pe_bltn (v := .ty "tuple") (u := .type "tuple") (by rfl) T.b_tuple (by decide +kernel) rfl) (pa_cons (pe_bltn (v := .ty "list") (u := .type "list") (by rfl) T.b_list (by decide +kernel) rfl) pa_nil))) pa_nil)))) (pss_cons (ps_if (PW.pt (pw_or (pt_cmpR op_ne (pe_callB call_isi (by rfl) T.b_isinstance (by decide +kernel) (pa_cons (pv 1) (pa_cons (pe_bltn (v := .ty "tuple") (u := .type "tuple") (by rfl) T.b_tuple (by decide +kernel) rfl) pa_nil))) (pe_callB call_isi (by rfl) T.b_isinstance (by decide +kernel) (pa_cons (pv 0) (pa_cons (pe_bltn (v := .ty "tuple") (u := .type "tuple") (by rfl) T.b_tuple (by decide +kernel) rfl) pa_nil))) (nomark _)) (pw_or1 (pt_cmpR op_ne (pe_callB call_isi (by rfl) T.b_isinstance (by decide +kernel) (pa_cons (pv 1) (pa_cons (pe_bltn (v := .ty "list") (u := .type "list") (by rfl) T.b_list (by decide +kernel) rfl) pa_nil))) (pe_callB call_isi (by rfl) T.b_isinstance (by decide +kernel) (pa_cons (pv 0) (pa_cons (pe_bltn (v := .ty "list") (u := .type "list") (by rfl) T.b_list (by decide +kernel) rfl) pa_nil))) (nomark _))))) (pss_one (ps_ret pe_bl)) pss_nil)
    (pss_cons (ps_if (pt_cmpR op_ne (pe_callB call_len (by rfl) T.b_len (by decide +kernel) (pa_cons (pv 0) pa_nil)) (pe_callB call_len (by rfl) T.b_len (by decide +kernel) (pa_cons (pv 1) pa_nil)) (nomark _)) (pss_one (ps_ret pe_bl)) pss_nil)
    (pss_cons (ps_for PassesOwn.never rfl (pi_range1 (by rfl) T.b_range (pa_cons (pe_callB call_len (by rfl) T.b_len (by decide +kernel) (pa_cons (pv 1) pa_nil)) pa_nil)) (pg_name (i := 2) sc__law_same.nd rfl (Or.inl rfl)) (pss_one (ps_if (pt_not (pt_val (pe_call FS hr rfl mgS kS bS .nil pass0 (pa_cons (pe_ix (r := rIx K) ix_seq (pv 0) (pv 2) (fun _ _ => rfl)) (pa_cons (pe_ix (r := rIx K) ix_seq (pv 1) (pv 2) (fun _ _ => rfl)) pa_nil))))) (pss_one (ps_ret pe_bl)) pss_nil)))
    (pss_one (ps_ret pe_bl))))) pss_nil)
    (pss_cons (ps_if (pt_val (pe_callB call_isi (by rfl) T.b_isinstance (by decide +kernel) (pa_cons (pv 1) (pa_cons (pe_bltn (v := .ty "bool") (u := .type "bool") (by rfl) T.b_bool (by decide +kernel) rfl) pa_nil)))) (pss_one (ps_ret (pe_and (pe_callB call_isi (by rfl) T.b_isinstance (by decide +kernel) (pa_cons (pv 0) (pa_cons (pe_bltn (v := .ty "bool") (u := .type "bool") (by rfl) T.b_bool (by decide +kernel) rfl) pa_nil))) (pe_one (pe_cmpR op_eq (pv 0) (pv 1) (nomark _)))))) pss_nil)
    (pss_cons (ps_if (pt_val (pe_callB call_isi (by rfl) T.b_isinstance (by decide +kernel) (pa_cons (pv 1) (pa_cons (pe_bltn (v := .ty "int") (u := .type "int") (by rfl) T.b_int (by decide +kernel) rfl) pa_nil)))) (pss_one (ps_ret (pe_and (pe_callB call_isi (by rfl) T.b_isinstance (by decide +kernel) (pa_cons (pv 0) (pa_cons (pe_bltn (v := .ty "int") (u := .type "int") (by rfl) T.b_int (by decide +kernel) rfl) pa_nil))) (pe_and (pe_not (pe_callB call_isi (by rfl) T.b_isinstance (by decide +kernel) (pa_cons (pv 0) (pa_cons (pe_bltn (v := .ty "bool") (u := .type "bool") (by rfl) T.b_bool (by decide +kernel) rfl) pa_nil)))) (pe_one (pe_cmpR op_eq (pv 0) (pv 1) (nomark _))))))) pss_nil)
    (pss_one (ps_ret (pe_and (pe_callB call_isi (by rfl) T.b_isinstance (by decide +kernel) (pa_cons (pv 0) (pa_cons (pe_bltn (v := .ty "str") (u := .type "str") (by rfl) T.b_str (by decide +kernel) rfl) pa_nil))) (pe_one (pe_cmpR op_eq (pv 0) (pv 1) (nomark _)))))))))), ?_⟩
    cases o2 with
    | none =>
      obtain rfl : v2 = .non := h2
      cases o1 with
      | none => exact absurd rfl hne
      | some q1 =>
        obtain ⟨p1, rfl, hp1⟩ := h1
        refine ⟨_, rfl, rfl, _, rfl, ?_⟩
        refine iteT ?_
        refine ⟨_, rfl, rfl, ?_⟩
        exact k _ (Same.refl _)
    | some q2 =>
      obtain ⟨p2, rfl, hp2⟩ := h2
      refine ⟨_, rfl, rfl, _, rfl, ?_⟩
      refine iteF ?_
      refine ⟨_, rfl, (by show 2 ≤ sizeLine; decide), fun p hp => ?_⟩
      have s0 : Same H (upd H p (.tup [.ty "tuple", .ty "list"])) := same_upd (Same.refl _) hp
      refine ⟨_, p, _, .type "tuple", _, true, rfl, upd_same, .cons (.ty "tuple") (.cons (.ty "list") .nil), tyT (.inl (.inl (s0 _ _ hp2))), any_tuple, true, rfl, ?_⟩
      refine iteT ?_
      show tSeq _ _ _ _ (upd H p (.tup [.ty "tuple", .ty "list"]))
      generalize upd H p (.tup [V.ty "tuple", V.ty "list"]) = H1 at *
      have t2 : SqT K H1 p2 [.int (q2.1 : Int), sv q2.2] := .inl (.inl (s0 _ _ hp2))
      cases o1 with
      | none =>
        obtain rfl : v1 = .non := h1
        refine ⟨_, rfl, _, _, .type "tuple", _, true, rfl, .ty "tuple", tyT t2, kit_ty (by decide +kernel), _, rfl, _, _, .type "NoneType", _, false, rfl, .ty "tuple", .base .non, kit_ty (by decide +kernel), rfl, _, rfl, ?_⟩
        refine iteT ?_
        exact k _ s0
      | some q1 =>
        obtain ⟨p1, rfl, hp1⟩ := h1
        have t1 : SqT K H1 p1 [.int (q1.1 : Int), sv q1.2] := .inl (.inl (s0 _ _ hp1))
        refine ⟨_, rfl, _, _, .type "tuple", _, true, rfl, .ty "tuple", tyT t2, kit_ty (by decide +kernel), _, rfl, _, _, .type "tuple", _, true, rfl, .ty "tuple", tyT t1, kit_ty (by decide +kernel), rfl, _, rfl, ?_⟩
        refine iteF ?_
        refine ⟨_, rfl, _, _, .type "tuple", _, false, rfl, .ty "list", tyT t2, kit_ty (by decide +kernel), _, rfl, _, _, .type "tuple", _, false, rfl, .ty "list", tyT t1, kit_ty (by decide +kernel), rfl, _, rfl, ?_⟩
        refine iteF ?_
        refine ⟨_, rfl, _, _, rfl, .inr ⟨_, t1, rfl⟩, _, rfl, _, _, rfl, .inr ⟨_, t2, rfl⟩, rfl, _, rfl, ?_⟩
        refine iteNS rfl ?_
        refine ⟨_, rfl, _, _, rfl, .inr ⟨_, t2, rfl⟩, _, rfl, ?_, ?_, ?_⟩
        · show (-2 ^ 62 : Int) ≤ ((2 : Nat) : Int); decide
        · show ((2 : Nat) : Int) < (2 ^ 62 : Int); decide
        refine for_range (lo := 0) (n := 2) (fun i σ H' => i = 0 ∧ ∃ v, σ = [some (.ref p1), some (.ref p2), v] ∧ Same H1 H') ⟨rfl, none, rfl, Same.refl _⟩ ?_ ?_
        · rintro i σ H' hi ⟨rfl, v, rfl, sH⟩
          refine ⟨_, rfl, _, rfl, .inr (.inl ⟨p1, _, _, .int (q1.1 : Int), rfl, rfl, seqT sH t1, atI_nat (j := 0) rfl, ?_⟩)⟩
          refine ⟨_, rfl, _, rfl, .inr (.inl ⟨p2, _, _, .int (q2.1 : Int), rfl, rfl, seqT sH t2, atI_nat (j := 0) rfl, ?_⟩)⟩
          refine ⟨_, _, rfl, fun H2 s2 => ?_⟩
          have e : decide (V.int (q1.1 : Int) = V.int (q2.1 : Int)) = false := decide_eq_false fun z => hne (by
            have := V.int.inj z
            show some q1.1 = some q2.1
            congr 1; omega)
          rw [e]
          refine ⟨false, rfl, ?_⟩
          refine iteT ?_
          exact k _ ((s0.trans sH).trans s2)
        · rintro σ H' ⟨z, _⟩
          cases z
theorem LoadAt.dp {H : Hp} {v : V} {o : Option (Nat × Tx)} (h : LoadAt H v o) : ∃ d, okD 3 d ∧ ∀ v' H', LoadAt H' v' o → Dp K H' v' d := by
  cases o with
  | none =>
    refine ⟨.none, trivial, fun v' H' h' => ?_⟩
    obtain rfl : v' = .non := h'
    exact .non
  | some q =>
    refine ⟨.tuple [.int (q.1 : Int), .str (mkS q.2)], ⟨by show 2 ≤ 1000000; decide, fun e m => ?_⟩, fun v' H' ⟨p, e, hp⟩ => ?_⟩
    · rcases List.mem_cons.mp m with rfl | m
      · trivial
      · obtain rfl := List.mem_singleton.mp m
        trivial
    · subst e
      exact .tup (.inl (.inl hp)) (.cons (.int _) (.cons (.str _) .nil))
def spSameX (K : PySem.W.Frag) : Sp := fun vs H Q E => spSame K 3 vs H Q E ∨ spNeL vs H Q E
theorem ok__law_same (M : Nms K mg) : FnOk P w K mg base CX0 4 M.a__law_same M.d__law_same ["actual", "due"] (spSameX K) :=
  ok_or (ok_same M.F__law_same M.T M.g__law_same M.k__law_same M.b__law_same 3) ((ok_neL M.F__law_same M.T M.g__law_same M.k__law_same M.b__law_same).mono (by decide))
theorem ok__law_pool (M : Nms K mg) : FnOk P w K mg base CX0 1 M.a__law_pool M.d__law_pool ["script"] (spPool K) := ok_pool M.F__law_pool M.T
theorem ok__law_draw (M : Nms K mg) : FnOk P w K mg base CX0 1 M.a__law_draw M.d__law_draw ["pool", "many"] spDraw := ok_draw M.F__law_draw M.T
theorem ok__law_pick (M : Nms K mg) : FnOk P w K mg base CX0 2 M.a__law_pick M.d__law_pick ["pool", "rows"] spPick := ok_pick M.F__law_pick M.T (ok__law_draw M) M.g__law_draw M.k__law_draw M.b__law_draw
end
end K54

namespace K54
open PySem PySem.Spec PyProof.Rows L2
local macro_rules | `(tactic| array_mem_dec) => `(tactic| first | with_reducible assumption | with_reducible exact upd_same | ((with_reducible apply same_at); (with_reducible assumption); array_mem_dec) | ((with_reducible apply upd_atN); (with_reducible assumption); array_mem_dec) | ((with_reducible apply upd_at); (first | with_reducible assumption | (apply Ne.symm; with_reducible assumption)); array_mem_dec))
local macro_rules | `(tactic| array_get_dec) => `(tactic| first | (with_reducible refine w_seq ?_) | (with_reducible refine w_asg ?_) | (with_reducible refine w_drop ?_) | (with_reducible refine w_ret ?_) | (with_reducible refine w_retN ?_) | (with_reducible refine w_next ?_) | (with_reducible refine w_break ?_) | (with_reducible refine w_cont ?_) | (with_reducible refine w_ifS ?_) | (with_reducible refine w_sub ?_) | (with_reducible refine w_c ?_) | (with_reducible refine w_op ?_) | (with_reducible refine w_un ?_) | (with_reducible refine w_test ?_) | (with_reducible refine w_B ?_) | (with_reducible refine w_yes ?_) | (with_reducible refine w_not ?_) | (with_reducible refine w_and ?_) | (with_reducible refine w_or ?_) | (with_reducible refine w_andV ?_) | (with_reducible refine w_orV ?_) | (with_reducible refine w_notV ?_) | (with_reducible refine w_ifE ?_) | (with_reducible refine w_nil ?_) | (with_reducible refine w_cons ?_) | (with_reducible refine w_call ?_) | (with_reducible refine w_callS ?_) | (with_reducible refine w_cB ?_) | (with_reducible refine w_lst ?_) | (with_reducible refine w_tup ?_) | (with_reducible refine w_sl ?_) | (with_reducible refine w_noPart ?_) | (with_reducible refine w_part ?_) | (with_reducible refine w_bm ?_) | (with_reducible refine w_bm0 ?_) | (with_reducible refine w_strTy ?_) | (with_reducible refine w_bl ?_) | (with_reducible refine w_int1 ?_) | (with_reducible refine w_str1 ?_) | (with_reducible refine w_rI0 ?_) | (with_reducible refine w_rU ?_) | (with_reducible refine w_eqI ?_) | (with_reducible refine w_eqS ?_) | (with_reducible refine w_neI ?_) | (with_reducible refine w_neS ?_) | (with_reducible refine w_bl2 ?_) | (with_reducible refine w_isN ?_) | (with_reducible refine w_for ?_) | (with_reducible refine w_iRng1 ?_) | (with_reducible refine w_iRng2 ?_) | (with_reducible refine w_iList ?_) | (with_reducible refine w_iTup ?_) | (with_reducible refine w_iStr ?_) | (with_reducible refine w_lc ?_) | (with_reducible refine w_M1 ?_) | (with_reducible refine w_M0 ?_) | (with_reducible refine w_isS ?_) | ((with_reducible apply w_name); (simp only [wipe, List.map_cons, List.map_nil, List.foldl_cons, List.foldl_nil, List.set_cons_zero, List.set_cons_succ]; exact rfl)) | ((with_reducible apply w_var); exact rfl) | ((with_reducible apply w_lstTy); array_mem_dec) | ((with_reducible apply w_lenL); array_mem_dec) | ((with_reducible apply w_lenT); array_mem_dec) | ((with_reducible apply w_listOf); array_mem_dec) | ((with_reducible apply w_lenS); (first | (with_reducible assumption) | omega | (rw [sizeLine_eq]; omega))) | ((with_reducible apply w_slS); (first | (with_reducible assumption) | omega | (rw [sizeLine_eq]; omega))) | ((with_reducible apply w_wipe); exact rfl) | ((with_reducible apply w_acc); array_mem_dec; (try (first | (with_reducible assumption) | omega | (rw [sizeLine_eq]; omega)))) | ((with_reducible apply w_itl); array_mem_dec) | ((with_reducible apply w_itt); array_mem_dec) | ((with_reducible apply w_append); array_mem_dec; (try (first | (with_reducible assumption) | omega | (rw [sizeLine_eq]; omega)))) | ((with_reducible apply w_rng1); (first | (with_reducible assumption) | omega); (first | (with_reducible assumption) | omega)) | ((with_reducible apply w_ixL); array_mem_dec; (first | (with_reducible assumption) | exact rfl | (apply atI_nat; (with_reducible assumption)) | exact atI_last _ _)) | ((with_reducible apply w_ixT); array_mem_dec; (first | (with_reducible assumption) | exact rfl | (apply atI_nat; (with_reducible assumption)) | exact atI_last _ _)) | ((with_reducible apply w_iT); first | exact rfl | (with_reducible assumption)) | ((with_reducible apply w_iF); first | exact rfl | (with_reducible assumption)) | ((with_reducible apply w_isiI (b := true)); decide +kernel) | ((with_reducible apply w_isiI (b := false)); decide +kernel) | ((with_reducible apply w_isiB (b := true)); decide +kernel) | ((with_reducible apply w_isiB (b := false)); decide +kernel) | ((with_reducible apply w_isiS (b := true)); decide +kernel) | ((with_reducible apply w_isiS (b := false)); decide +kernel) | ((with_reducible apply w_isiN (b := true)); decide +kernel) | ((with_reducible apply w_isiN (b := false)); decide +kernel) | ((with_reducible apply w_isiL (b := true)); array_mem_dec; decide +kernel) | ((with_reducible apply w_isiL (b := false)); array_mem_dec; decide +kernel) | ((with_reducible apply w_isiT (b := true)); array_mem_dec; decide +kernel) | ((with_reducible apply w_isiT (b := false)); array_mem_dec; decide +kernel) | (with_reducible refine w_notT ?_) | (with_reducible refine w_chain ?_) | ((with_reducible apply w_trL); array_mem_dec) | ((with_reducible apply w_gTup); array_mem_dec; exact rfl) | ((with_reducible apply w_gLst); array_mem_dec; exact rfl) | (with_reducible refine w_gCons ?_) | (with_reducible refine w_gNil ?_) | (with_reducible refine w_Fld ?_) | (with_reducible refine w_sFld ?_) | (with_reducible refine w_dget ?_) | (with_reducible refine w_dIn ?_) | (with_reducible refine w_dNotIn ?_) | (with_reducible refine w_sDPut ?_) | (with_reducible refine w_dnewK ?_) | (with_reducible refine w_meth ?_) | (with_reducible refine w_make ?_) | (with_reducible refine w_methS ?_) | (with_reducible refine w_makeS ?_) | (with_reducible refine w_dpop ?_) | ((with_reducible apply w_fld1); array_mem_dec; (with_reducible assumption); (with_reducible assumption); exact rfl) | ((with_reducible apply w_sfld1); array_mem_dec; (with_reducible assumption); (with_reducible assumption); exact Nat.le_of_ble_eq_true rfl) | ((with_reducible apply w_meth1); array_mem_dec; exact rfl) | ((with_reducible apply w_dgetS); array_mem_dec; (with_reducible assumption)) | ((with_reducible apply w_dgetI); array_mem_dec; (with_reducible assumption)) | ((with_reducible apply w_dinS); array_mem_dec) | ((with_reducible apply w_dputI); array_mem_dec; (try (first | (with_reducible assumption) | omega | (rw [sizeLine_eq]; omega)))) | ((with_reducible apply w_dputS); array_mem_dec; (try (first | (with_reducible assumption) | omega | (rw [sizeLine_eq]; omega)))) | ((with_reducible apply w_isD); array_mem_dec) | ((with_reducible apply w_dictD); array_mem_dec) | ((with_reducible apply w_dpopS); array_mem_dec; (with_reducible assumption)) | (with_reducible refine w_iRev ?_) | ((with_reducible apply w_setL); array_mem_dec; exact rfl) | ((with_reducible apply w_cat); array_mem_dec; array_mem_dec; (try (first | (with_reducible assumption) | omega | (rw [sizeLine_eq]; omega)))) | (with_reducible refine w_iKeys ?_) | (with_reducible refine w_dget2 ?_) | (with_reducible refine w_scX ?_) | ((with_reducible apply w_keysF); array_mem_dec) | ((with_reducible apply w_dgetSF); array_mem_dec; (with_reducible assumption)))
/-! ### the refusal of a caught exception -/
def bbN (b0 b1 b2 : Bool) : Nat → Bool
  | 0 => b0
  | 1 => b1
  | _ => b2
def wdN : Nat → Str
  | 0 => Str.ofString "number"
  | 1 => Str.ofString "paper"
  | _ => Str.ofString "unknown"
def fndN (b0 b1 b2 : Bool) (i : Nat) : List V := ((List.range i).filter (bbN b0 b1 b2)).map fun k => V.str (wdN k)
theorem fndN_len {b0 b1 b2 : Bool} {i : Nat} : (fndN b0 b1 b2 i).length ≤ i := by
  unfold fndN
  rw [List.length_map]
  exact Nat.le_trans (List.length_filter_le _ _) (by rw [List.length_range]; exact Nat.le_refl _)
theorem fndN_succ {b0 b1 b2 : Bool} {i : Nat} : fndN b0 b1 b2 (i + 1) = fndN b0 b1 b2 i ++ (if bbN b0 b1 b2 i = true then [.str (wdN i)] else []) := by
  unfold fndN
  rw [List.range_succ, List.filter_append, List.map_append]
  congr 1
  rw [List.filter_cons, List.filter_nil]
  split <;> rfl
section
variable {P : Program} {w : World} {K : PySem.W.Frag} {mg : Str → Option Value} {base : Heap}
theorem w_isE {D a : Addr} {c : V} {cv : Value} {b : Bool} {H : Hp} {Q : VK} (h : ∀ u, RelV c u → u = cv) (k : PySem.W.kitOne K (.ref D) cv = some b) (q : Q (.bl b) H) : rIsE K D a [.ref a, c] H Q := ⟨c, cv, b, rfl, h, k, q⟩
theorem fn_refusal (M : Nms K mg) {C : Addr} {b0 b1 b2 : Bool} {word : Str} (Y : CatchT K mg M.CE C) (kN : PySem.W.kitOne K (.ref C) (.ref M.CN) = some b0) (kP : PySem.W.kitOne K (.ref C) (.ref M.CP) = some b1) (kU : PySem.W.kitOne K (.ref C) (.ref M.CU) = some b2) (one : fndN b0 b1 b2 3 = [.str word]) :
    FnE P w K mg base C 1 M.a__law_refusal M.d__law_refusal ["problem"] (.str word) := by
  refine fnE_of M.F__law_refusal sc__law_refusal rfl fun cd A outer z G Q p hot zc room q => ?_
  have hotc : L2H.HotC (L2H.cxH CX0 P w K mg base ["problem", "kinds", "found", "k"] "_law_refusal" (defScope s__law_refusal) M.a__law_refusal cd A outer z G E0 p) := ⟨p, hot, List.mem_singleton_self _⟩
  have fl : ∃ vs, p.2.data = .fields vs := by obtain ⟨_, vs, e, _⟩ := hot; exact ⟨vs, e⟩
  refine ⟨_, (pss_cons (ps_set (i := 1) sc__law_refusal.nd rfl (Or.inr rfl) (pe_lst (pa_cons (pe_callB (call_isP Y.ec zc fl (List.mem_singleton_self _)) (by rfl) M.T.b_isinstance (by decide +kernel) (pa_cons (pv 0) (pa_cons (pe_glob (v := .ref M.CN) rfl M.XN.gP rfl) pa_nil))) (pa_cons (pe_callB (call_isP Y.ec zc fl (List.mem_singleton_self _)) (by rfl) M.T.b_isinstance (by decide +kernel) (pa_cons (pv 0) (pa_cons (pe_glob (v := .ref M.CP) rfl M.XP.gP rfl) pa_nil))) (pa_cons (pe_callB (call_isP Y.ec zc fl (List.mem_singleton_self _)) (by rfl) M.T.b_isinstance (by decide +kernel) (pa_cons (pv 0) (pa_cons (pe_glob (v := .ref M.CU) rfl M.XU.gP rfl) pa_nil))) pa_nil))))) (pss_cons (ps_hotLc (i := 2) (own := [("k", 3)])  hotc sc__law_refusal.nd rfl rfl (sw_true rfl rfl rfl (by decide +kernel)) (L2H.pi_range1H (by rfl) M.T.b_range (pa_cons pe_int pa_nil)) (blkOk_by (N := ["problem", "kinds", "found", "k"]) (sc := defScope s__law_refusal) (own := [("k", 3)]) (by decide +kernel)) (fun _ _ _ _ _ => (pg_name (i := 3) sc__law_refusal.nd rfl (Or.inl rfl))) (fun _ _ _ _ _ => pts_one (pt_val (pe_ix (r := rIxL K) ix_list (pv 1) (pv 3) (fun _ _ => rfl)))) (fun _ _ _ _ _ => (pe_ix (r := rIxL K) ix_list (pe_lst (pa_cons pe_str (pa_cons pe_str (pa_cons pe_str pa_nil)))) (pv 3) (fun _ _ => rfl)))) (pss_one (ps_ret (pe_ifExp (PW.pt (pw_and (pt_cmpR op_eq (pe_callB (id := "len") (r := fun xs H Q => ∃ x n, xs = [x] ∧ LenV K x H n ∧ Q (V.int ((n : Nat) : Int)) H) call_len (by rfl) M.T.b_len (by decide +kernel) (pa_cons (pv 2) pa_nil)) pe_int (nomark _)) (pw_and1 (pt_val (pe_callB (call_isP Y.ec zc fl (List.mem_singleton_self _)) (by rfl) M.T.b_isinstance (by decide +kernel) (pa_cons (pv 0) (pa_cons (pe_bltn (v := .ty "ValueError") (u := .type "ValueError") (by rfl) M.T.b_ValueError (by decide +kernel) rfl) pa_nil))))))) (pe_ix (r := rIxL K) ix_list (pv 2) pe_int (fun _ _ => rfl)) pe_str))))), ?_⟩
  refine w_start (σ' := [some (.ref p.1), none, none, none]) rfl ?_
  (repeat array_get_dec)
  refine w_isE (fun u r => r) kN ?_
  (repeat array_get_dec)
  refine w_isE (fun u r => r) kP ?_
  (repeat array_get_dec)
  refine w_isE (fun u r => r) kU ?_
  (repeat array_get_dec)
  refine ⟨by show 3 ≤ sizeLine; decide, fun kq hkq => ?_⟩
  have s0 := same_upd (o := .lst [.bl b0, .bl b1, .bl b2]) (Same.refl G) hkq
  (repeat array_get_dec)
  intro A hA
  refine lc_range (fun i H' => H' A = some (.lst (fndN b0 b1 b2 i)) ∧ ∀ b o, b ≠ A → upd G kq (.lst [.bl b0, .bl b1, .bl b2]) b = some o → H' b = some o) ⟨upd_same, fun b o nb e => by rw [upd_ne nb]; exact e⟩ ?_ ?_
  · rintro i H' hi ⟨h1, h2⟩
    have hk : H' kq = some (.lst [.bl b0, .bl b1, .bl b2]) := h2 _ _ (ne_of_none upd_same hA) upd_same
    rw [Int.zero_add]
    have hi' : i < 3 := hi
    have ai : atI [V.bl b0, V.bl b1, V.bl b2] ((i : Nat) : Int) = some (.bl (bbN b0 b1 b2 i)) := by
      match i, hi' with
      | 0, _ => exact atI_nat (j := 0) rfl
      | 1, _ => exact atI_nat (j := 1) rfl
      | 2, _ => exact atI_nat (j := 2) rfl
    have wi : atI [V.str (Str.ofString "number"), V.str (Str.ofString "paper"), V.str (Str.ofString "unknown")] ((i : Nat) : Int) = some (.str (wdN i)) := by
      match i, hi' with
      | 0, _ => exact atI_nat (j := 0) rfl
      | 1, _ => exact atI_nat (j := 1) rfl
      | 2, _ => exact atI_nat (j := 2) rfl
    have lz : (fndN b0 b1 b2 i).length < sizeLine := by
      have := fndN_len (b0 := b0) (b1 := b1) (b2 := b2) (i := i)
      rw [sizeLine_eq]; omega
    (repeat array_get_dec)
    refine ite2 (fun hb => ?_) (fun hb => ?_)
    · (repeat array_get_dec)
      refine ⟨by show 3 ≤ sizeLine; decide, fun l hl => ?_⟩
      have h1l : upd H' l (.lst [V.str (Str.ofString "number"), V.str (Str.ofString "paper"), V.str (Str.ofString "unknown")]) A = some (.lst (fndN b0 b1 b2 i)) := upd_atN hl h1
      (repeat array_get_dec)
      refine ⟨by rw [upd_same, fndN_succ, if_pos hb], fun b o nb e => by
        have e2 := h2 b o nb e
        rw [upd_ne nb, upd_ne (ne_of_none e2 hl)]; exact e2⟩
    · refine ⟨by rw [h1, fndN_succ, if_neg hb, List.append_nil], h2⟩
  · rintro H' ⟨h1, h2⟩
    have h1' : H' A = some (.lst [.str word]) := by rw [← one]; exact h1
    have w0 : atI [V.str word] (0 : Int) = some (.str word) := atI_nat (j := 0) rfl
    (repeat array_get_dec)
    refine w_isE (cv := .type "ValueError") (fun u r => r) Y.kV ?_
    (repeat array_get_dec)
    refine q H' fun b o e => ?_
    refine h2 b o (fun z => ?_) (by rw [upd_ne (ne_of_none e hkq)]; exact e)
    rw [z] at e
    have := upd_ne (H := G) (o := .lst [V.bl b0, V.bl b1, V.bl b2]) (ne_of_none e hkq)
    rw [hA, e] at this
    cases this
theorem takes0N {X : Cx} : L2N.Takes X (fun _ _ _ _ => False) := fun _ _ x => by
  obtain ⟨_, _, _, _, _, _, _, _, _, _, _, _, _, _, _, _, z⟩ := x
  exact z.elim
theorem room_mark {k : Nat} {A : Around} (r : Room k A) (h : Option Value) : L2H.RoomH k (A.mark h) := ⟨r.dp, r.un⟩
theorem pss_ex {X : Cx} {st : List Stmt} {α : Type} {t : α → TS} (h : ∀ b, PSs X st (t b)) : PSs X st (fun D σ H => ∃ b, t b D σ H) := ⟨fun pins s σ H D I ⟨b, ht⟩ => (h b).run pins s σ H D I ht⟩
/-- the three kinds of refusals -/
inductive Kd | num | pap | unk
def clsK (M : Nms K mg) : Kd → Addr
  | .num => M.CN
  | .pap => M.CP
  | .unk => M.CU
def wordK : Kd → Str
  | .num => Str.ofString "number"
  | .pap => Str.ofString "paper"
  | .unk => Str.ofString "unknown"
theorem fnE_b (M : Nms K mg) (b : Kd) : FnE P w K mg base (clsK M b) 1 M.a__law_refusal M.d__law_refusal ["problem"] (.str (wordK b)) := by
  cases b
  · exact fn_refusal M M.YN M.YN.kC M.notPN M.notUN rfl
  · exact fn_refusal M M.YP M.notNP M.YP.kC M.notUP rfl
  · exact fn_refusal M M.YU M.notNU M.notPU M.YU.kC rfl
end
end K54

namespace K54
open PySem PySem.Spec PyProof.Rows L2
local macro_rules | `(tactic| array_mem_dec) => `(tactic| first | with_reducible assumption | with_reducible exact upd_same | ((with_reducible apply same_at); (with_reducible assumption); array_mem_dec) | ((with_reducible apply upd_atN); (with_reducible assumption); array_mem_dec) | ((with_reducible apply upd_at); (first | with_reducible assumption | (apply Ne.symm; with_reducible assumption)); array_mem_dec))
local macro_rules | `(tactic| array_get_dec) => `(tactic| first | (with_reducible refine w_seq ?_) | (with_reducible refine w_asg ?_) | (with_reducible refine w_drop ?_) | (with_reducible refine w_ret ?_) | (with_reducible refine w_retN ?_) | (with_reducible refine w_next ?_) | (with_reducible refine w_break ?_) | (with_reducible refine w_cont ?_) | (with_reducible refine w_ifS ?_) | (with_reducible refine w_sub ?_) | (with_reducible refine w_c ?_) | (with_reducible refine w_op ?_) | (with_reducible refine w_un ?_) | (with_reducible refine w_test ?_) | (with_reducible refine w_B ?_) | (with_reducible refine w_yes ?_) | (with_reducible refine w_not ?_) | (with_reducible refine w_and ?_) | (with_reducible refine w_or ?_) | (with_reducible refine w_andV ?_) | (with_reducible refine w_orV ?_) | (with_reducible refine w_notV ?_) | (with_reducible refine w_ifE ?_) | (with_reducible refine w_nil ?_) | (with_reducible refine w_cons ?_) | (with_reducible refine w_call ?_) | (with_reducible refine w_callS ?_) | (with_reducible refine w_cB ?_) | (with_reducible refine w_lst ?_) | (with_reducible refine w_tup ?_) | (with_reducible refine w_sl ?_) | (with_reducible refine w_noPart ?_) | (with_reducible refine w_part ?_) | (with_reducible refine w_bm ?_) | (with_reducible refine w_bm0 ?_) | (with_reducible refine w_strTy ?_) | (with_reducible refine w_bl ?_) | (with_reducible refine w_int1 ?_) | (with_reducible refine w_str1 ?_) | (with_reducible refine w_rI0 ?_) | (with_reducible refine w_rU ?_) | (with_reducible refine w_eqI ?_) | (with_reducible refine w_eqS ?_) | (with_reducible refine w_neI ?_) | (with_reducible refine w_neS ?_) | (with_reducible refine w_bl2 ?_) | (with_reducible refine w_isN ?_) | (with_reducible refine w_for ?_) | (with_reducible refine w_iRng1 ?_) | (with_reducible refine w_iRng2 ?_) | (with_reducible refine w_iList ?_) | (with_reducible refine w_iTup ?_) | (with_reducible refine w_iStr ?_) | (with_reducible refine w_lc ?_) | (with_reducible refine w_M1 ?_) | (with_reducible refine w_M0 ?_) | (with_reducible refine w_isS ?_) | ((with_reducible apply w_name); (simp only [wipe, List.map_cons, List.map_nil, List.foldl_cons, List.foldl_nil, List.set_cons_zero, List.set_cons_succ]; exact rfl)) | ((with_reducible apply w_var); exact rfl) | ((with_reducible apply w_lstTy); array_mem_dec) | ((with_reducible apply w_lenL); array_mem_dec) | ((with_reducible apply w_lenT); array_mem_dec) | ((with_reducible apply w_listOf); array_mem_dec) | ((with_reducible apply w_lenS); (first | (with_reducible assumption) | omega | (rw [sizeLine_eq]; omega))) | ((with_reducible apply w_slS); (first | (with_reducible assumption) | omega | (rw [sizeLine_eq]; omega))) | ((with_reducible apply w_wipe); exact rfl) | ((with_reducible apply w_acc); array_mem_dec; (try (first | (with_reducible assumption) | omega | (rw [sizeLine_eq]; omega)))) | ((with_reducible apply w_itl); array_mem_dec) | ((with_reducible apply w_itt); array_mem_dec) | ((with_reducible apply w_append); array_mem_dec; (try (first | (with_reducible assumption) | omega | (rw [sizeLine_eq]; omega)))) | ((with_reducible apply w_rng1); (first | (with_reducible assumption) | omega); (first | (with_reducible assumption) | omega)) | ((with_reducible apply w_ixL); array_mem_dec; (first | (with_reducible assumption) | exact rfl | (apply atI_nat; (with_reducible assumption)) | exact atI_last _ _)) | ((with_reducible apply w_ixT); array_mem_dec; (first | (with_reducible assumption) | exact rfl | (apply atI_nat; (with_reducible assumption)) | exact atI_last _ _)) | ((with_reducible apply w_iT); first | exact rfl | (with_reducible assumption)) | ((with_reducible apply w_iF); first | exact rfl | (with_reducible assumption)) | ((with_reducible apply w_isiI (b := true)); decide +kernel) | ((with_reducible apply w_isiI (b := false)); decide +kernel) | ((with_reducible apply w_isiB (b := true)); decide +kernel) | ((with_reducible apply w_isiB (b := false)); decide +kernel) | ((with_reducible apply w_isiS (b := true)); decide +kernel) | ((with_reducible apply w_isiS (b := false)); decide +kernel) | ((with_reducible apply w_isiN (b := true)); decide +kernel) | ((with_reducible apply w_isiN (b := false)); decide +kernel) | ((with_reducible apply w_isiL (b := true)); array_mem_dec; decide +kernel) | ((with_reducible apply w_isiL (b := false)); array_mem_dec; decide +kernel) | ((with_reducible apply w_isiT (b := true)); array_mem_dec; decide +kernel) | ((with_reducible apply w_isiT (b := false)); array_mem_dec; decide +kernel) | (with_reducible refine w_notT ?_) | (with_reducible refine w_chain ?_) | ((with_reducible apply w_trL); array_mem_dec) | ((with_reducible apply w_gTup); array_mem_dec; exact rfl) | ((with_reducible apply w_gLst); array_mem_dec; exact rfl) | (with_reducible refine w_gCons ?_) | (with_reducible refine w_gNil ?_) | (with_reducible refine w_Fld ?_) | (with_reducible refine w_sFld ?_) | (with_reducible refine w_dget ?_) | (with_reducible refine w_dIn ?_) | (with_reducible refine w_dNotIn ?_) | (with_reducible refine w_sDPut ?_) | (with_reducible refine w_dnewK ?_) | (with_reducible refine w_meth ?_) | (with_reducible refine w_make ?_) | (with_reducible refine w_methS ?_) | (with_reducible refine w_makeS ?_) | (with_reducible refine w_dpop ?_) | ((with_reducible apply w_fld1); array_mem_dec; (with_reducible assumption); (with_reducible assumption); exact rfl) | ((with_reducible apply w_sfld1); array_mem_dec; (with_reducible assumption); (with_reducible assumption); exact Nat.le_of_ble_eq_true rfl) | ((with_reducible apply w_meth1); array_mem_dec; exact rfl) | ((with_reducible apply w_dgetS); array_mem_dec; (with_reducible assumption)) | ((with_reducible apply w_dgetI); array_mem_dec; (with_reducible assumption)) | ((with_reducible apply w_dinS); array_mem_dec) | ((with_reducible apply w_dputI); array_mem_dec; (try (first | (with_reducible assumption) | omega | (rw [sizeLine_eq]; omega)))) | ((with_reducible apply w_dputS); array_mem_dec; (try (first | (with_reducible assumption) | omega | (rw [sizeLine_eq]; omega)))) | ((with_reducible apply w_isD); array_mem_dec) | ((with_reducible apply w_dictD); array_mem_dec) | ((with_reducible apply w_dpopS); array_mem_dec; (with_reducible assumption)) | (with_reducible refine w_iRev ?_) | ((with_reducible apply w_setL); array_mem_dec; exact rfl) | ((with_reducible apply w_cat); array_mem_dec; array_mem_dec; (try (first | (with_reducible assumption) | omega | (rw [sizeLine_eq]; omega)))) | (with_reducible refine w_iKeys ?_) | (with_reducible refine w_dget2 ?_) | (with_reducible refine w_scX ?_) | ((with_reducible apply w_keysF); array_mem_dec) | ((with_reducible apply w_dgetSF); array_mem_dec; (with_reducible assumption)))
/-! ### the law's try -/
inductive RefC (CD : Addr) (H : Hp) : Int → V → V → V → Kd → Prop
  | name (dv u : V) (v : IB) (h : inIB 999999 v = none) : RefC CD H 0 dv (vIB v) u .num
  | number (dv u : V) (l : Tx) (hl : l.length ≤ 100) (h : isSnapL l = false) : RefC CD H 1 dv (sv l) u .pap
  | saveN (a : Addr) (fp : List Addr) (D : DS) (dk : DiskAt CD H a fp D) (v : IB) (t : Tx) (lt : t.length ≤ 1000) (h : inIB 999999 v = none) : RefC CD H 2 (.ref a) (vIB v) (sv t) .num
  | saveP (a : Addr) (fp : List Addr) (D : DS) (dk : DiskAt CD H a fp D) (n : Nat) (hn : n ≤ 999999) (t : Tx) (lt : t.length ≤ 1000) (c : cap D (D.names.length + 12)) (h : ¬ goodT t) : RefC CD H 2 (.ref a) (.int (n : Int)) (sv t) .pap
  | name_it (a : Addr) (fp : List Addr) (D : DS) (dk : DiskAt CD H a fp D) (u : V) (v : IB) (c : cap D 3) (h : hasA D.names asideL = false) : RefC CD H 3 (.ref a) (vIB v) u .unk
  | whole (a : Addr) (fp : List Addr) (D : DS) (dk : DiskAt CD H a fp D) (u : V) (x : Tx) (h : (getA D.names x).isSome = false) : RefC CD H 4 (.ref a) (sv x) u .unk
def spRefused (CD : Addr) : Sp := fun vs H Q _ => ∃ (c : Int) (dv v u : V) (kd : Kd), vs = [.int c, dv, v, u] ∧ RefC CD H c dv v u kd ∧ ∀ H', Same H H' → Q (.str (wordK kd)) H'
section
variable {P : Program} {w : World} {K : PySem.W.Frag} {mg : Str → Option Value} {base : Heap}
theorem ok__law_refused (M : Nms K mg) : FnOk P w K mg base CX0 7 M.a__law_refused M.d__law_refused ["choice", "disk", "one", "two"] (spRefused M.CD) := by
  refine M.F__law_refused.ok sc__law_refused (fun vs H Q E h => ?_) (fun cdv A outer s H vs Q E hr h => ?_)
  · obtain ⟨c, dv, v, u, kd, rfl, _⟩ := h
    rfl
  · refine ⟨_, pss_cons (L2N.ps_try_as (i := 4) (tb := fun W => tIfS (tTest (tOp rEq (tVar 0) (tC (.int 0)))) (tDrop (tCallS (spSnapN M.CN) (WE W) (tCons (tVar 2) tNil)))
          (tIfS (tTest (tOp rEq (tVar 0) (tC (.int 1)))) (tDrop (tCallS (spNumOf M.CP) (WE W) (tCons (tVar 2) tNil)))
          (tIfS (tTest (tOp rEq (tVar 0) (tC (.int 2)))) (tDrop (tCallS (spSave M.CD M.CP M.CN) (WE W) (tCons (tVar 1) (tCons (tVar 2) (tCons (tVar 3) tNil)))))
          (tIfS (tTest (tOp rEq (tVar 0) (tC (.int 3)))) (tDrop (tCallS (spNameIt M.CD M.CU M.CN) (WE W) (tCons (tVar 1) (tCons (tVar 2) tNil)))) (tDrop (tCallS (spWhole M.CD M.CU) (WE W) (tCons (tVar 1) (tCons (tVar 2) tNil))))))))
        (ts := fun a cls d D σ H => ∃ b : Kd, (cls = .ref (clsK M b) ∧ d = none) ∧ tRet (fun σ H Q => σ[4]? = some (some (.ref a)) ∧ ∀ H', Same H H' → Q (.str (wordK b)) H') D σ H) (Wout := fun _ _ _ _ => False)
        rfl rfl sc__law_refused.nd rfl rfl ⟨rfl, by decide, .inl M.YP.gD⟩ takes0N
        (fun W pn xe tk _ => pss_one (ps_if (pt_cmpR op_eq (pv 0) pe_int (nomark _))
          (pss_one (ps_expr (by exact (pe_callS (ok_snap_name M) (hr.mono (by decide)) rfl M.g_snap_name M.k_snap_name M.b_snap_name (fun σ => L2N.passAt tk σ) (by exact (pa_cons (pv 2) pa_nil))))))
          (pss_one (ps_if (pt_cmpR op_eq (pv 0) pe_int (nomark _))
            (pss_one (ps_expr (by exact (pe_callS (ok_number_of M) (hr.mono (by decide)) rfl M.g_number_of M.k_number_of M.b_number_of (fun σ => L2N.passAt tk σ) (by exact (pa_cons (pv 2) pa_nil))))))
            (pss_one (ps_if (pt_cmpR op_eq (pv 0) pe_int (nomark _))
              (pss_one (ps_expr (by exact (pe_callS (ok_save M) (hr.mono (by decide)) rfl M.g_save M.k_save M.b_save (fun σ => L2N.passAt tk σ) (by exact (pa_cons (pv 1) (pa_cons (pv 2) (pa_cons (pv 3) pa_nil))))))))
              (pss_one (ps_if (pt_cmpR op_eq (pv 0) pe_int (nomark _))
                (pss_one (ps_expr (by exact (pe_callS (ok_name_it M) (hr.mono (by decide)) rfl M.g_name_it M.k_name_it M.b_name_it (fun σ => L2N.passAt tk σ) (by exact (pa_cons (pv 1) (pa_cons (pv 2) pa_nil)))))))
                (pss_one (ps_expr (by exact (pe_callS (ok_whole_snap M) (hr.mono (by decide)) rfl M.g_whole_snap M.k_whole_snap M.b_whole_snap (fun σ => L2N.passAt tk σ) (by exact (pa_cons (pv 1) (pa_cons (pv 2) pa_nil)))))))))))))))
        (fun a oe cls d pn hz hf => pss_ex fun b => pss_when fun hp => by
          obtain ⟨rfl, rfl⟩ := hp
          obtain ⟨ws, ew⟩ := hf
          exact pss_one (ps_ret (pe_handed (fnE_b M b) (room_mark (k := 1) (hr.mono (by decide)) _) hz.zc ⟨rfl, ws, ew, hz.2.2 ws ew⟩ rfl M.g__law_refusal M.k__law_refusal M.b__law_refusal rfl (Or.inl rfl)))))
      (pss_one (ps_ret pe_str)), ?_⟩
    obtain ⟨c, dv, v, u, kd, rfl, h, q⟩ := h
    have caught : ∀ (b : Kd) (σ : L2.St) (D : Ends) (H' : Hp), σ.length = 5 → (∀ H2, Same H' H2 → D.rt (.str (wordK b)) H2) → WE (wAs K (.ref M.CE) 4 (fun a cls d D σ H => ∃ b : Kd, (cls = .ref (clsK M b) ∧ d = none) ∧ tRet (fun σ H Q => σ[4]? = some (some (.ref a)) ∧ ∀ H', Same H H' → Q (.str (wordK b)) H') D σ H) (fun _ _ _ _ => False) D) σ (.ref (clsK M b)) none H' := by
      intro b σ D H' hl q
      refine ⟨true, by cases b; exact M.YN.exm; exact M.YP.exm; exact M.YU.exm, fun _ a ha => ⟨b, ⟨rfl, rfl⟩, List.getElem?_set_self (by omega), q⟩, fun z => by cases z⟩
    refine w_start (σ' := [some (.int c), some dv, some v, some u, none]) rfl ?_
    (repeat array_get_dec)
    cases h with
    | name dv u v h =>
      (repeat array_get_dec)
      exact ⟨v, rfl, fun n hn => (by rw [h] at hn; cases hn), fun _ => caught .num _ _ _ rfl q⟩
    | number dv u l hl h =>
      (repeat array_get_dec)
      exact ⟨l, rfl, hl, fun z => (by rw [h] at z; cases z), fun _ H' s => caught .pap _ _ _ rfl fun H2 s2 => q _ (s.trans s2)⟩
    | saveN a fp D dk v t lt h =>
      (repeat array_get_dec)
      exact ⟨a, fp, D, v, t, rfl, dk, lt, fun _ => caught .num _ _ _ rfl q, fun n hn => (by rw [h] at hn; cases hn)⟩
    | saveP a fp D dk n hn t lt c h =>
      (repeat array_get_dec)
      refine ⟨a, fp, D, .int (n : Int), t, rfl, dk, lt, fun z => ?_, fun m hm => ?_⟩
      · have : (if 0 ≤ (n : Int) ∧ (n : Int) ≤ ((999999 : Nat) : Int) then some (n : Int).toNat else none) = none := z
        rw [if_pos ⟨by omega, by omega⟩] at this
        cases this
      · have : (if 0 ≤ (n : Int) ∧ (n : Int) ≤ ((999999 : Nat) : Int) then some (n : Int).toNat else none) = some m := hm
        rw [if_pos ⟨by omega, by omega⟩, Int.toNat_natCast] at this
        cases this
        exact ⟨rfl, c, fun _ H' s => caught .pap _ _ _ rfl fun H2 s2 => q _ (s.trans s2), fun z => absurd z h⟩
    | name_it a fp D dk u v c h =>
      (repeat array_get_dec)
      exact ⟨a, fp, D, v, rfl, dk, c, fun _ => caught .unk _ _ _ rfl q, fun z => (by rw [h] at z; cases z)⟩
    | whole a fp D dk u x h =>
      (repeat array_get_dec)
      exact ⟨a, fp, D, x, rfl, dk, fun z => (by rw [h] at z; cases z), fun _ => caught .unk _ _ _ rfl q⟩
end
end K54

namespace K54
open PySem PySem.Spec PyProof.Rows L2
local macro_rules | `(tactic| array_mem_dec) => `(tactic| first | with_reducible assumption | with_reducible exact upd_same | ((with_reducible apply same_at); (with_reducible assumption); array_mem_dec) | ((with_reducible apply upd_atN); (with_reducible assumption); array_mem_dec) | ((with_reducible apply upd_at); (first | with_reducible assumption | (apply Ne.symm; with_reducible assumption)); array_mem_dec))
local macro_rules | `(tactic| array_get_dec) => `(tactic| first | (with_reducible refine w_seq ?_) | (with_reducible refine w_asg ?_) | (with_reducible refine w_drop ?_) | (with_reducible refine w_ret ?_) | (with_reducible refine w_retN ?_) | (with_reducible refine w_next ?_) | (with_reducible refine w_break ?_) | (with_reducible refine w_cont ?_) | (with_reducible refine w_ifS ?_) | (with_reducible refine w_sub ?_) | (with_reducible refine w_c ?_) | (with_reducible refine w_op ?_) | (with_reducible refine w_un ?_) | (with_reducible refine w_test ?_) | (with_reducible refine w_B ?_) | (with_reducible refine w_yes ?_) | (with_reducible refine w_not ?_) | (with_reducible refine w_and ?_) | (with_reducible refine w_or ?_) | (with_reducible refine w_andV ?_) | (with_reducible refine w_orV ?_) | (with_reducible refine w_notV ?_) | (with_reducible refine w_ifE ?_) | (with_reducible refine w_nil ?_) | (with_reducible refine w_cons ?_) | (with_reducible refine w_call ?_) | (with_reducible refine w_callS ?_) | (with_reducible refine w_cB ?_) | (with_reducible refine w_lst ?_) | (with_reducible refine w_tup ?_) | (with_reducible refine w_sl ?_) | (with_reducible refine w_noPart ?_) | (with_reducible refine w_part ?_) | (with_reducible refine w_bm ?_) | (with_reducible refine w_bm0 ?_) | (with_reducible refine w_strTy ?_) | (with_reducible refine w_bl ?_) | (with_reducible refine w_int1 ?_) | (with_reducible refine w_str1 ?_) | (with_reducible refine w_rI0 ?_) | (with_reducible refine w_rU ?_) | (with_reducible refine w_eqI ?_) | (with_reducible refine w_eqS ?_) | (with_reducible refine w_neI ?_) | (with_reducible refine w_neS ?_) | (with_reducible refine w_bl2 ?_) | (with_reducible refine w_isN ?_) | (with_reducible refine w_for ?_) | (with_reducible refine w_iRng1 ?_) | (with_reducible refine w_iRng2 ?_) | (with_reducible refine w_iList ?_) | (with_reducible refine w_iTup ?_) | (with_reducible refine w_iStr ?_) | (with_reducible refine w_lc ?_) | (with_reducible refine w_M1 ?_) | (with_reducible refine w_M0 ?_) | (with_reducible refine w_isS ?_) | ((with_reducible apply w_name); (simp only [wipe, List.map_cons, List.map_nil, List.foldl_cons, List.foldl_nil, List.set_cons_zero, List.set_cons_succ]; exact rfl)) | ((with_reducible apply w_var); exact rfl) | ((with_reducible apply w_lstTy); array_mem_dec) | ((with_reducible apply w_lenL); array_mem_dec) | ((with_reducible apply w_lenT); array_mem_dec) | ((with_reducible apply w_listOf); array_mem_dec) | ((with_reducible apply w_lenS); (first | (with_reducible assumption) | omega | (rw [sizeLine_eq]; omega))) | ((with_reducible apply w_slS); (first | (with_reducible assumption) | omega | (rw [sizeLine_eq]; omega))) | ((with_reducible apply w_wipe); exact rfl) | ((with_reducible apply w_acc); array_mem_dec; (try (first | (with_reducible assumption) | omega | (rw [sizeLine_eq]; omega)))) | ((with_reducible apply w_itl); array_mem_dec) | ((with_reducible apply w_itt); array_mem_dec) | ((with_reducible apply w_append); array_mem_dec; (try (first | (with_reducible assumption) | omega | (rw [sizeLine_eq]; omega)))) | ((with_reducible apply w_rng1); (first | (with_reducible assumption) | omega); (first | (with_reducible assumption) | omega)) | ((with_reducible apply w_ixL); array_mem_dec; (first | (with_reducible assumption) | exact rfl | (apply atI_nat; (with_reducible assumption)) | exact atI_last _ _)) | ((with_reducible apply w_ixT); array_mem_dec; (first | (with_reducible assumption) | exact rfl | (apply atI_nat; (with_reducible assumption)) | exact atI_last _ _)) | ((with_reducible apply w_iT); first | exact rfl | (with_reducible assumption)) | ((with_reducible apply w_iF); first | exact rfl | (with_reducible assumption)) | ((with_reducible apply w_isiI (b := true)); decide +kernel) | ((with_reducible apply w_isiI (b := false)); decide +kernel) | ((with_reducible apply w_isiB (b := true)); decide +kernel) | ((with_reducible apply w_isiB (b := false)); decide +kernel) | ((with_reducible apply w_isiS (b := true)); decide +kernel) | ((with_reducible apply w_isiS (b := false)); decide +kernel) | ((with_reducible apply w_isiN (b := true)); decide +kernel) | ((with_reducible apply w_isiN (b := false)); decide +kernel) | ((with_reducible apply w_isiL (b := true)); array_mem_dec; decide +kernel) | ((with_reducible apply w_isiL (b := false)); array_mem_dec; decide +kernel) | ((with_reducible apply w_isiT (b := true)); array_mem_dec; decide +kernel) | ((with_reducible apply w_isiT (b := false)); array_mem_dec; decide +kernel) | (with_reducible refine w_notT ?_) | (with_reducible refine w_chain ?_) | ((with_reducible apply w_trL); array_mem_dec) | ((with_reducible apply w_gTup); array_mem_dec; exact rfl) | ((with_reducible apply w_gLst); array_mem_dec; exact rfl) | (with_reducible refine w_gCons ?_) | (with_reducible refine w_gNil ?_) | (with_reducible refine w_Fld ?_) | (with_reducible refine w_sFld ?_) | (with_reducible refine w_dget ?_) | (with_reducible refine w_dIn ?_) | (with_reducible refine w_dNotIn ?_) | (with_reducible refine w_sDPut ?_) | (with_reducible refine w_dnewK ?_) | (with_reducible refine w_meth ?_) | (with_reducible refine w_make ?_) | (with_reducible refine w_methS ?_) | (with_reducible refine w_makeS ?_) | (with_reducible refine w_dpop ?_) | ((with_reducible apply w_fld1); array_mem_dec; (with_reducible assumption); (with_reducible assumption); exact rfl) | ((with_reducible apply w_sfld1); array_mem_dec; (with_reducible assumption); (with_reducible assumption); exact Nat.le_of_ble_eq_true rfl) | ((with_reducible apply w_meth1); array_mem_dec; exact rfl) | ((with_reducible apply w_dgetS); array_mem_dec; (with_reducible assumption)) | ((with_reducible apply w_dgetI); array_mem_dec; (with_reducible assumption)) | ((with_reducible apply w_dinS); array_mem_dec) | ((with_reducible apply w_dputI); array_mem_dec; (try (first | (with_reducible assumption) | omega | (rw [sizeLine_eq]; omega)))) | ((with_reducible apply w_dputS); array_mem_dec; (try (first | (with_reducible assumption) | omega | (rw [sizeLine_eq]; omega)))) | ((with_reducible apply w_isD); array_mem_dec) | ((with_reducible apply w_dictD); array_mem_dec) | ((with_reducible apply w_dpopS); array_mem_dec; (with_reducible assumption)) | (with_reducible refine w_iRev ?_) | ((with_reducible apply w_setL); array_mem_dec; exact rfl) | ((with_reducible apply w_cat); array_mem_dec; array_mem_dec; (try (first | (with_reducible assumption) | omega | (rw [sizeLine_eq]; omega)))) | (with_reducible refine w_iKeys ?_) | (with_reducible refine w_dget2 ?_) | (with_reducible refine w_scX ?_) | ((with_reducible apply w_keysF); array_mem_dec) | ((with_reducible apply w_dgetSF); array_mem_dec; (with_reducible assumption)))
def flat (D : DS) : Prop := ∀ i, lateD D i = []
theorem flat_lateN {D : DS} (h : flat D) : ((srt (D.names.map (·.1))).filter fun x => decide (lateD D ((getA D.names x).getD 0) ≠ [])) = [] := by
  rw [List.filter_eq_nil_iff]
  intro x _ z
  exact (of_decide_eq_true z) (h _)
def spTears (CD : Addr) : Sp := fun vs H Q _ => ∃ (p l a : Addr) (fp : List Addr) (D : DS), vs = [.ref p, .ref a] ∧ PoolL H p l ∧ DiskAt CD H a fp D ∧ flat D ∧ p ∉ fp ∧
  ∀ (r e : Addr) (c : Nat) (H' : Hp), c ≤ D.ch.length → PoolL H' p l → SameBut p H H' → H r = none → H e = none → H' r = some (.lst [.int (c : Int), .ref e]) → H' e = some (.lst []) → Q (.ref r) H'
section
variable {P : Program} {w : World} {K : PySem.W.Frag} {mg : Str → Option Value} {base : Heap}
theorem ok__law_tears (M : Nms K mg) : FnOk P w K mg base CX0 4 M.a__law_tears M.d__law_tears ["pool", "disk"] (spTears M.CD) := by
  refine M.F__law_tears.ok sc__law_tears (fun vs H Q E h => ?_) (fun cdv A outer s H vs Q E hr h => ?_)
  · obtain ⟨p, l, a, fp, D, rfl, _⟩ := h
    rfl
  · have hu := hu1 hr
    have clD := M.clD
    have nD_kept := M.nD_kept
    have nD_late := M.nD_late
    have nD_names := M.nD_names
    have nD_sure := M.nD_sure
    have nD_changes := M.nD_changes
    have nD_next := M.nD_next
    refine ⟨_, (pss_cons (ps_set (i := 2) sc__law_tears.nd rfl (Or.inl rfl) (pe_lst pa_nil))
    (pss_cons (ps_for PassesOwn.never rfl (pi_list (pe_meth0 (pv 1) M.clD M.m_Disk_late_files (ok_Disk_late_files M) (hr.mono (by decide)) M.b_Disk_late_files .nil pass0)) (pg_name (i := 3) sc__law_tears.nd rfl (Or.inl rfl)) (pss_cons (ps_set (i := 4) sc__law_tears.nd rfl (Or.inl rfl) (pe_call (ok__law_draw M) (hr.mono (by decide)) rfl M.g__law_draw M.k__law_draw M.b__law_draw .nil pass0 (pa_cons (pv 0) (pa_cons (pe_op op_add (pe_meth (pv 1) M.clD M.m_Disk_late_size (okL_Disk_late_size M) (hr.mono (by decide)) M.b_Disk_late_size .nil pass0 (pa_cons (pv 3) pa_nil)) pe_int) pa_nil))))
    (pss_one (ps_if (pt_cmpR op_gt (pe_call (ok__law_draw M) (hr.mono (by decide)) rfl M.g__law_draw M.k__law_draw M.b__law_draw .nil pass0 (pa_cons (pv 0) (pa_cons pe_int pa_nil))) pe_int (nomark _)) (pss_one (ps_expr (pe_bm PySem.F.plainAttrs_list PySem.F.slot_list_append PySem.F.type_list_append mt_append (pv 2) (pa_cons (pe_tup (pa_cons (pv 3) (pa_cons (pv 4) (pa_cons (pe_and (pe_cmpR op_gt (pv 4) pe_int (nomark _)) (pe_one (pe_cmpR op_eq (pe_call (ok__law_draw M) (hr.mono (by decide)) rfl M.g__law_draw M.k__law_draw M.b__law_draw .nil pass0 (pa_cons (pv 0) (pa_cons pe_int pa_nil))) pe_int (nomark _)))) pa_nil)))) pa_nil)))) pss_nil))))
    (pss_one (ps_ret (pe_lst (pa_cons (pe_call (ok__law_draw M) (hr.mono (by decide)) rfl M.g__law_draw M.k__law_draw M.b__law_draw .nil pass0 (pa_cons (pv 0) (pa_cons (pe_op op_add (pe_meth0 (pv 1) M.clD M.m_Disk_late_changes (ok_Disk_late_changes M) (hr.mono (by decide)) M.b_Disk_late_changes .nil pass0) pe_int) pa_nil))) (pa_cons (pv 2) pa_nil))))))), ?_⟩
    try dsimp only [cxOf, Cx.nox]
    obtain ⟨p, l, a, fp, D, rfl, pl, dk, fl, np, q⟩ := h
    refine w_start (σ' := [some (.ref p), some (.ref a), none, none, none]) rfl ?_
    (repeat array_get_dec)
    refine ⟨by show 0 ≤ sizeLine; decide, fun e he => ?_⟩
    have s1 : Same H (upd H e (.lst [])) := same_upd (Same.refl _) he
    have e1 : upd H e (.lst []) e = some (.lst []) := upd_same
    generalize upd H e (.lst []) = H1 at *
    have dk1 := dk.same s1
    obtain ⟨⟨k0, l0, n0, sa0, c0, ts0, efp, ⟨_, ⟨dx0, hi⟩, _, _, _, _, _, _, sm⟩⟩, wfd⟩ := id dk1
    (repeat array_get_dec)
    refine ⟨a, fp, D, rfl, dk1, fun r H2 s2 hr2 h2 => ?_⟩
    rw [flat_lateN fl] at h2
    have e2 := s2 _ _ e1
    have dk2 := dk1.same s2
    have hi2 := s2 _ _ hi
    have pl2 := (pl.keep s1).keep s2
    (repeat array_get_dec)
    refine for_list (K := K) (a := r) (xs := []) (fun i σ H' => σ = [some (.ref p), some (.ref a), some (.ref e), none, none] ∧ H' = H2) ⟨rfl, rfl⟩ ?_ ?_ ?_
    · rintro i σ H' _ ⟨rfl, rfl⟩
      exact SqL.of h2
    · rintro i v σ H' hv _
      simp at hv
    · rintro σ H' ⟨rfl, rfl⟩
      (repeat array_get_dec)
      refine ⟨a, fp, D, rfl, dk2.1, ?_⟩
      have lch := sm.ch
      (repeat array_get_dec)
      refine ⟨p, l, ((D.ch.length : Nat) : Int) + 1, rfl, pl2, by omega, by omega, fun v H3 v0 v1 pl3 sb => ?_⟩
      have ep : e ≠ p := fun z => by
        obtain ⟨ns, a1, a2, a3, a4, h1, _⟩ := pl
        rw [z, h1] at he; cases he
      have e3 := sb _ _ ep e2
      (repeat array_get_dec)
      refine ⟨by show 2 ≤ sizeLine; decide, fun r2 hr2 => ?_⟩
      (repeat array_get_dec)
      have sbA : SameBut p H (upd H3 r2 (.lst [.int v, .ref e])) := fun b o nb eb => upd_atN hr2 (sb _ _ nb (s2 _ _ (s1 _ _ eb)))
      have hrH : H r2 = none := by
        cases eb : H r2 with
        | none => rfl
        | some o =>
          have nr : r2 ≠ p := fun z => by
            obtain ⟨ns, a1, a2, a3, a4, h1, _⟩ := pl3
            rw [z, h1] at hr2; cases hr2
          rw [sb _ _ nr (s2 _ _ (s1 _ _ eb))] at hr2; cases hr2
      have ev : v = ((v.toNat : Nat) : Int) := by omega
      refine q r2 e v.toNat _ (by omega) (pl3.keep (same_upd (Same.refl _) hr2)) sbA hrH he ?_ (upd_atN hr2 e3)
      rw [upd_same, ← ev]
end
end K54

namespace K54
open PySem PySem.Spec PyProof.Rows L2
/-! ### what is loaded of small disks -/
theorem snap_le : ∀ n < 40, ∀ m < 40, n < m → snapL n ≤ snapL m := by decide +kernel
theorem snap_inj {n m : Nat} (h : snapL n = snapL m) : n = m := by rw [← snap_val n, ← snap_val m, h]
theorem whole_frame {t : Tx} (hg : goodT t) (hl : t.length ≤ 1000) : wholeT (frameL t) = some t := by
  have := frame_one hg hl []
  rw [List.append_nil] at this
  unfold wholeT
  rw [this]
  dsimp only
  rw [if_pos rfl]
theorem whole_half : wholeT (tl (Str.ofString "3:4:abc")) = none := by decide +kernel
def okNm (l : List (Tx × Tx)) : Prop := ∀ p ∈ l, p.1 = asideL ∨ ∃ k, k ≤ 999999 ∧ p.1 = snapL k
theorem mem_snapV {l : List (Tx × Tx)} {x : Tx} : x ∈ snapV l ↔ x ∈ l.map (·.1) ∧ isSnapL x = true := by
  unfold snapV
  rw [List.mem_filter, (srt_perm _).mem_iff]
theorem srt_one (x : Tx) : srt [x] = [x] := (srt_only (List.Perm.refl _) (List.pairwise_singleton _ _)).symm
theorem srt_two {x y : Tx} (h : x ≤ y) : srt [x, y] = [x, y] := (srt_only (List.Perm.refl _) (List.pairwise_pair.mpr h)).symm
theorem srt_nil : srt [] = [] := List.mergeSort_nil
/-- of one snapshot and what is aside -/
theorem snapV_sa {n : Nat} (hn : n ≤ 999999) (u v : Tx) : snapV [(snapL n, u), (asideL, v)] = [snapL n] := by
  have p : (snapV [(snapL n, u), (asideL, v)]).Perm [snapL n] := by
    have := (srt_perm [snapL n, asideL]).filter isSnapL
    rw [show [snapL n, asideL].filter isSnapL = [snapL n] by rw [List.filter_cons, if_pos (snap_is hn), List.filter_cons, if_neg (by rw [aside_no]; decide), List.filter_nil]] at this
    exact this
  exact List.perm_singleton.mp p
theorem snapV_a (v : Tx) : snapV [(asideL, v)] = [] := by
  show (srt [asideL]).filter isSnapL = []
  rw [srt_one, List.filter_cons, if_neg (by rw [aside_no]; decide), List.filter_nil]
theorem snapV_s {n : Nat} (hn : n ≤ 999999) (u : Tx) : snapV [(snapL n, u)] = [snapL n] := by
  show (srt [snapL n]).filter isSnapL = _
  rw [srt_one, List.filter_cons, if_pos (snap_is hn), List.filter_nil]
theorem snapV_ss {n m : Nat} (hn : n < m) (hm : m < 40) (u v : Tx) : snapV [(snapL n, u), (snapL m, v)] = [snapL n, snapL m] := by
  show (srt [snapL n, snapL m]).filter isSnapL = _
  rw [srt_two (snap_le n (by omega) m hm hn), List.filter_cons, if_pos (snap_is (by omega)), List.filter_cons, if_pos (snap_is (by omega)), List.filter_nil]
theorem getA1 {x : Tx} {v : Tx} {r : List (Tx × Tx)} : getA ((x, v) :: r) x = some v := getA_pos rfl
theorem getA2 {x y : Tx} {v w : Tx} {r : List (Tx × Tx)} (h : x ≠ y) : getA ((x, v) :: (y, w) :: r) y = some w := (getA_neg h).trans (getA_pos rfl)
theorem fs1 {f : Tx → Option (Nat × Tx)} {x : Tx} {r : List Tx} {b : Nat × Tx} (h : f x = some b) : List.findSome? f (x :: r) = some b := by rw [List.findSome?_cons, h]
theorem fs0 {f : Tx → Option (Nat × Tx)} {x : Tx} {r : List Tx} (h : f x = none) : List.findSome? f (x :: r) = List.findSome? f r := by rw [List.findSome?_cons, h]
theorem wv {l : List (Tx × Tx)} {x u : Tx} (h : getA l x = some u) : wholeV l x = wholeT u := by unfold wholeV; rw [h]; rfl
theorem wvs {l : List (Tx × Tx)} {n : Nat} {u t : Tx} (h : getA l (snapL n) = some u) (hw : wholeT u = some t) : (wholeV l (snapL n)).map (fun t => (numS (snapL n), t)) = some (n, t) := by rw [wv h, hw, Option.map_some, snap_val]
theorem wvn {l : List (Tx × Tx)} {n : Nat} {u : Tx} (h : getA l (snapL n) = some u) (hw : wholeT u = none) : (wholeV l (snapL n)).map (fun t => (numS (snapL n), t)) = none := by rw [wv h, hw, Option.map_none]
theorem load_nil : loadV [] = none := by
  unfold loadV snapV
  rw [List.map_nil, srt_nil]
  rfl
theorem load_a (v : Tx) : loadV [(asideL, v)] = none := by unfold loadV; rw [snapV_a]; rfl
theorem load_s {n : Nat} (hn : n ≤ 999999) {u t : Tx} (h : wholeT u = some t) : loadV [(snapL n, u)] = some (n, t) := by
  unfold loadV
  rw [snapV_s hn]
  exact fs1 (wvs getA1 h)
theorem load_sa {n : Nat} (hn : n ≤ 999999) {u t : Tx} (h : wholeT u = some t) (v : Tx) : loadV [(snapL n, u), (asideL, v)] = some (n, t) := by
  unfold loadV
  rw [snapV_sa hn]
  exact fs1 (wvs getA1 h)
theorem load_ss {n m : Nat} (hn : n < m) (hm : m < 40) {u v t : Tx} (h : wholeT v = some t) : loadV [(snapL n, u), (snapL m, v)] = some (m, t) := by
  unfold loadV
  rw [snapV_ss hn hm]
  exact fs1 (wvs (getA2 (fun z => by have := snap_inj z; omega)) h)
theorem load_sh {n m : Nat} (hn : n < m) (hm : m < 40) {u v t : Tx} (h : wholeT u = some t) (h2 : wholeT v = none) : loadV [(snapL n, u), (snapL m, v)] = some (n, t) := by
  unfold loadV
  rw [snapV_ss hn hm]
  exact (fs0 (wvn (getA2 (fun z => by have := snap_inj z; omega)) h2)).trans (fs1 (wvs getA1 h))
/-! ### cleaning -/
theorem filter_key : ∀ {l : List (Tx × Tx)} {x v : Tx}, (l.map (·.1)).Nodup → getA l x = some v → l.filter (fun p => decide (p.1 = x)) = [(x, v)]
  | [], _, _, _, h => by cases h
  | p :: r, x, v, nd, h => by
    rw [List.map_cons, List.nodup_cons] at nd
    by_cases e : p.1 = x
    · rw [getA_pos e] at h
      have : r.filter (fun p => decide (p.1 = x)) = [] := by
        rw [List.filter_eq_nil_iff]
        intro q hq z
        exact nd.1 (by rw [e, ← of_decide_eq_true z]; exact List.mem_map_of_mem (f := (·.1)) hq)
      rw [List.filter_cons, if_pos (decide_eq_true e), this]
      cases h
      rw [← e]
    · rw [getA_neg e] at h
      rw [List.filter_cons, if_neg (by rw [decide_eq_true_eq]; exact e)]
      exact filter_key nd.2 h
def leftV (l : List (Tx × Tx)) : List (Tx × Tx) := l.filter fun p => decide (p.1 ∉ goneL l)
theorem mem_gone {l : List (Tx × Tx)} {x : Tx} : x ∈ goneL l ↔ (x ∈ snapV l ∧ keepB l x = true) ∨ (hasA l asideL = true ∧ x = asideL) := by
  rw [gone_eq, List.mem_append, List.mem_filter]
  by_cases h : hasA l asideL = true
  · rw [if_pos h, List.mem_singleton]; simp [h]
  · rw [if_neg h]; simp [h]
theorem left_none {l : List (Tx × Tx)} (ok : okNm l) (h : loadV l = none) : leftV l = [] := by
  unfold leftV
  rw [List.filter_eq_nil_iff]
  intro p hp z
  refine of_decide_eq_true z (mem_gone.mpr ?_)
  rcases ok p hp with e | ⟨k, hk, e⟩
  · exact .inr ⟨by rw [← e]; exact getA_has.mpr (List.mem_map_of_mem (f := (·.1)) hp), e⟩
  · refine .inl ⟨mem_snapV.mpr ⟨List.mem_map_of_mem (f := (·.1)) hp, by rw [e]; exact snap_is hk⟩, ?_⟩
    unfold keepB
    rw [h]
theorem left_some {l : List (Tx × Tx)} (ok : okNm l) (nd : (l.map (·.1)).Nodup) {n : Nat} {t : Tx} (h : loadV l = some (n, t)) : n ≤ 999999 ∧ ∃ v, leftV l = [(snapL n, v)] ∧ wholeT v = some t := by
  obtain ⟨x, hx, e⟩ := List.exists_of_findSome?_eq_some h
  have hx := mem_snapV.mp (List.mem_reverse.mp hx)
  obtain ⟨p, hp, e1⟩ := List.mem_map.mp hx.1
  have e1 : p.1 = x := e1
  have n6 := load_le h
  obtain ⟨rfl, hw⟩ : x = snapL n ∧ wholeV l x = some t := by
    cases ew : wholeV l x with
    | none => rw [ew] at e; cases e
    | some u =>
      rw [ew] at e
      cases e
      rcases ok p hp with e2 | ⟨k, hk, e2⟩
      · rw [← e1, e2, aside_no] at hx
        cases hx.2
      · refine ⟨?_, rfl⟩
        rw [← e1, e2, snap_val]
  cases g : getA l (snapL n) with
  | none => unfold wholeV at hw; rw [g] at hw; cases hw
  | some v =>
    unfold wholeV at hw
    rw [g] at hw
    refine ⟨n6, v, ?_, hw⟩
    rw [← filter_key nd g]
    unfold leftV
    apply List.filter_congr
    intro q hq
    apply decide_eq_decide.mpr
    rw [mem_gone]
    constructor
    · intro z
      rcases ok q hq with e2 | ⟨k, hk, e2⟩
      · exact absurd (.inr ⟨by rw [← e2]; exact getA_has.mpr (List.mem_map_of_mem (f := (·.1)) hq), e2⟩) z
      · refine Classical.byContradiction fun y => z (.inl ⟨mem_snapV.mpr ⟨List.mem_map_of_mem (f := (·.1)) hq, by rw [e2]; exact snap_is hk⟩, ?_⟩)
        unfold keepB
        rw [h]
        exact decide_eq_true y
    · intro z y
      rcases y with ⟨_, y⟩ | ⟨_, y⟩
      · unfold keepB at y
        rw [h] at y
        exact of_decide_eq_true y z
      · exact snap_aside n6 (y.symm.trans z)
theorem load_left {l : List (Tx × Tx)} (ok : okNm l) (nd : (l.map (·.1)).Nodup) : loadV (leftV l) = loadV l ∧ (leftV l).map (·.1) = (match loadV l with | none => [] | some p => [snapL p.1]) := by
  cases h : loadV l with
  | none => rw [left_none ok h]; exact ⟨load_nil, rfl⟩
  | some q =>
    obtain ⟨n, t⟩ := q
    obtain ⟨n6, v, e, hw⟩ := left_some ok nd h
    rw [e]
    exact ⟨load_s n6 hw, rfl⟩
end K54

namespace K54
open PySem PySem.Spec PyProof.Rows L2
/-! ### shapes of disks -/
def vw (D : DS) (B : Nm) : List (Tx × Tx) := B.map fun p => (p.1, keptD D p.2)
theorem vw_keys (D : DS) (B : Nm) : (vw D B).map (·.1) = B.map (·.1) := by unfold vw; rw [List.map_map]; rfl
theorem flat_view {D : DS} (h : flat D) : viewD D = vw D D.names := by
  unfold viewD vw
  apply List.map_congr_left
  intro p _
  unfold readD
  rw [h, List.append_nil]
theorem foldP_nodup {g : Nat → Tx} : ∀ {L : Nm} {acc : List (Nat × Tx)}, (acc.map (·.1)).Nodup → ((foldP g L acc).map (·.1)).Nodup
  | [], _, h => h
  | p :: r, acc, h => by
    show ((foldP g r (putA acc p.2 (g p.2))).map (·.1)).Nodup
    exact foldP_nodup (putA_nodup h)
abbrev fN (D : DS) (c : Nat) : Nm := applyA D.sure (D.ch.take c)
theorem found_names {D : DS} {c : Nat} : (foundD D c []).names = fN D c := rfl
theorem found_kept {D : DS} {c i : Nat} : keptD (foundD D c []) i = if i ∈ (fN D c).map (·.2) then keptD D i else [] := by
  show (getA (foldP (fun n => keptD D n ++ toldA [] n) (fN D c) []) i).getD [] = _
  rw [getA_foldP]
  split
  · show keptD D i ++ toldA [] i = _
    rw [show toldA [] i = [] from rfl, List.append_nil]
  · rfl
theorem found_flat {D : DS} {c : Nat} : flat (foundD D c []) := fun i => by
  show (getA (foldP (fun _ => []) (fN D c) []) i).getD [] = _
  rw [getA_foldP]
  split <;> rfl
theorem found_view {D : DS} {c : Nat} : viewD (foundD D c []) = vw D (fN D c) := by
  rw [flat_view found_flat, found_names]
  unfold vw
  apply List.map_congr_left
  intro p hp
  rw [found_kept, if_pos (List.mem_map_of_mem (f := (·.2)) hp)]
theorem okNm_okN {l : List (Tx × Tx)} (h : okNm l) : ∀ p ∈ l, okN p.1 := fun p m => by
  rcases h p m with e | ⟨k, hk, e⟩
  · rw [e]; exact aside_okN
  · rw [e]; exact snap_okN hk
theorem cap_found {D : DS} {c k m : Nat} (cp : cap D k) (hl : (fN D c).length + m ≤ k) (na : ∀ p ∈ fN D c, okN p.1) : cap (foundD D c []) m := by
  have h1 := cp.names
  have kl : (foundD D c []).kept.length ≤ (fN D c).length := by
    have := foldP_len (g := fun n => keptD D n ++ toldA [] n) (L := fN D c) (acc := [])
    rw [List.length_nil, Nat.zero_add] at this
    exact this
  have ll : (foundD D c []).late.length ≤ (fN D c).length := by
    have := foldP_len (g := fun _ => ([] : Tx)) (L := fN D c) (acc := [])
    rw [List.length_nil, Nat.zero_add] at this
    exact this
  refine ⟨by omega, by omega, by show (fN D c).length + m < _; omega, by show (fN D c).length + m < _; omega, by show 0 + m ≤ _; omega, foldP_nodup (g := fun n => keptD D n ++ toldA [] n) (L := fN D c) (acc := []) List.nodup_nil, foldP_nodup (g := fun _ => ([] : Tx)) (L := fN D c) (acc := []) List.nodup_nil, fun i => ?_, na⟩
  have ti := cp.tx i
  rw [found_flat (D := D) (c := c) i, found_kept]
  split
  · simp; omega
  · simp; omega
theorem drops_kept {D : DS} {l : List Tx} (i : Nat) : keptD (dropAll D l) i = keptD D i := by
  unfold keptD; rw [(drops_files (l := l) (D := D)).1]
theorem drops_late {D : DS} {l : List Tx} (i : Nat) : lateD (dropAll D l) i = lateD D i := by
  unfold lateD; rw [(drops_files (l := l) (D := D)).2.1]
theorem clean_names {D : DS} : (cleanD D).names = dropN D.names (goneL (viewD D)) := drops_names
theorem clean_view {D : DS} : viewD (cleanD D) = leftV (viewD D) := by
  unfold viewD leftV
  rw [clean_names]
  have e : ∀ i, readD (cleanD D) i = readD D i := fun i => by
    show keptD (dropAll D (goneL (viewD D))) i ++ lateD (dropAll D (goneL (viewD D))) i = _
    rw [drops_kept, drops_late]; rfl
  unfold dropN
  rw [List.filter_map]
  show List.map (fun p => (p.1, readD (cleanD D) p.2)) (D.names.filter fun p => decide (p.1 ∉ goneL (viewD D))) = List.map (fun p => (p.1, readD D p.2)) (D.names.filter fun p => decide (p.1 ∉ goneL (viewD D)))
  apply List.map_congr_left
  intro p _
  rw [e]
theorem clean_flat {D : DS} (h : flat D) : flat (cleanD D) := fun i => by
  show lateD (dropAll D (goneL (viewD D))) i = []
  rw [drops_late]; exact h i
theorem clean_lost {D : DS} (h : flat D) : viewD (foundD (cleanD D) 0 []) = leftV (viewD D) := by
  rw [found_view, ← clean_view, flat_view (clean_flat h)]
  rfl
/-- what each disk that may be found shows -/
structure Eth (D : DS) (o1 o2 : Option (Nat × Tx)) : Prop where
  fl : flat D
  each : ∀ c, c ≤ D.ch.length → cap (foundD D c []) ((foundD D c []).names.length + 6) ∧ okNm (viewD (foundD D c [])) ∧ (loadV (viewD (foundD D c [])) = o1 ∨ (loadV (viewD (foundD D c [])) = o2 ∧ numO o2 ≠ numO o1))
theorem eth_of {D : DS} {o1 o2 : Option (Nat × Tx)} {k : Nat} (fl : flat D) (cp : cap D k) (hk : 12 ≤ k) (h : ∀ c, c ≤ D.ch.length → (fN D c).length ≤ 3 ∧ okNm (vw D (fN D c)) ∧ (loadV (vw D (fN D c)) = o1 ∨ (loadV (vw D (fN D c)) = o2 ∧ numO o2 ≠ numO o1))) : Eth D o1 o2 := by
  refine ⟨fl, fun c hc => ?_⟩
  obtain ⟨h3, on, hl⟩ := h c hc
  rw [found_view]
  refine ⟨cap_found cp (by rw [found_names]; omega) fun p m => ?_, on, hl⟩
  exact okNm_okN on (p.1, keptD D p.2) (List.mem_map_of_mem (f := fun p => (p.1, keptD D p.2)) m)
def Bo (o : Option (Nat × Tx)) (i : Nat) : Nm := match o with
  | none => []
  | some p => [(snapL p.1, i)]
structure Stb (D : DS) (o : Option (Nat × Tx)) (i k : Nat) : Prop where
  nm : D.names = Bo o i
  su : D.sure = Bo o i
  ch : D.ch = []
  fl : flat D
  cp : cap D k
  w : wf D
  kt : ∀ n t, o = some (n, t) → keptD D i = frameL t ∧ goodT t ∧ t.length ≤ 1000 ∧ n < 40
  nx : i < D.next ∨ o = none
def olds (o : Option (Nat × Tx)) (n : Nat) : Prop := ∀ m t, o = some (m, t) → m < n
theorem Stb.view {D : DS} {o : Option (Nat × Tx)} {i k : Nat} (s : Stb D o i k) : viewD D = vw D (Bo o i) := by rw [flat_view s.fl, s.nm]
theorem Bo_view {D : DS} {o : Option (Nat × Tx)} {i : Nat} (kt : ∀ n t, o = some (n, t) → keptD D i = frameL t ∧ goodT t ∧ t.length ≤ 1000 ∧ n < 40) : loadV (vw D (Bo o i)) = o ∧ okNm (vw D (Bo o i)) ∧ (Bo o i).length ≤ 1 := by
  cases o with
  | none => exact ⟨load_nil, fun p m => (by cases m), Nat.zero_le _⟩
  | some q =>
    obtain ⟨n, t⟩ := q
    obtain ⟨e, g, l, h⟩ := kt n t rfl
    refine ⟨load_s (by omega) (by rw [e]; exact whole_frame g l), fun p m => ?_, Nat.le_refl _⟩
    obtain rfl := List.mem_singleton.mp m
    exact .inr ⟨n, by omega, rfl⟩
theorem Bo_aside {D : DS} {o : Option (Nat × Tx)} {i j : Nat} (kt : ∀ n t, o = some (n, t) → keptD D i = frameL t ∧ goodT t ∧ t.length ≤ 1000 ∧ n < 40) : loadV (vw D (Bo o i ++ [(asideL, j)])) = o ∧ okNm (vw D (Bo o i ++ [(asideL, j)])) := by
  cases o with
  | none => exact ⟨load_a _, fun p m => by obtain rfl := List.mem_singleton.mp m; exact .inl rfl⟩
  | some q =>
    obtain ⟨n, t⟩ := q
    obtain ⟨e, g, l, h⟩ := kt n t rfl
    refine ⟨load_sa (by omega) (by rw [e]; exact whole_frame g l) _, fun p m => ?_⟩
    rcases List.mem_cons.mp m with rfl | m
    · exact .inr ⟨n, by omega, rfl⟩
    · obtain rfl := List.mem_singleton.mp m
      exact .inl rfl
theorem Bo_two {D : DS} {o : Option (Nat × Tx)} {i j n : Nat} {u : Tx} (old : olds o n) (hn : n < 40) (hu : keptD D j = frameL u) (hg : goodT u) (hl : u.length ≤ 1000) : loadV (vw D (Bo o i ++ [(snapL n, j)])) = some (n, u) ∧ okNm (vw D (Bo o i ++ [(snapL n, j)])) := by
  have hw := whole_frame hg hl
  rw [← hu] at hw
  cases o with
  | none => exact ⟨load_s (by omega) hw, fun p m => by obtain rfl := List.mem_singleton.mp m; exact .inr ⟨n, by omega, rfl⟩⟩
  | some q =>
    obtain ⟨m, t⟩ := q
    have lt := old m t rfl
    refine ⟨load_ss lt hn hw, fun p m => ?_⟩
    rcases List.mem_cons.mp m with rfl | m
    · exact .inr ⟨_, by show _ ≤ _; omega, rfl⟩
    · obtain rfl := List.mem_singleton.mp m
      exact .inr ⟨n, by omega, rfl⟩
theorem Bo_no {o : Option (Nat × Tx)} {i : Nat} (h : ∀ n t, o = some (n, t) → n < 40) : getA (Bo o i) asideL = none := by
  cases o with
  | none => rfl
  | some q => exact getA_neg (fun z => snap_aside (n := q.1) (by have := h q.1 q.2 rfl; omega) z.symm)
theorem snapV_nil : snapV [] = [] := by
  unfold snapV
  rw [List.map_nil, srt_nil]
  rfl
/-! ### the three steps of a saving -/
theorem asideD_eq {D : DS} {u : Tx} (h : getA D.names asideL = none) (h63 : ¬ 63 ∈ u) : asideD D u = syncD (writeD (makeD D asideL) D.next u) D.next := by
  obtain ⟨_, m2⟩ := make_done h aside_ne
  have g3 : getA (makeD D asideL).names asideL = some D.next := make_get
  obtain ⟨_, w2⟩ := write_done g3 h63
  have g4 : getA (writeD (makeD D asideL) D.next u).names asideL = some D.next := g3
  obtain ⟨_, y2⟩ := sync_done g4
  unfold asideD
  have e : hasA D.names asideL = false := by unfold hasA; rw [h]; rfl
  rw [if_neg (by rw [e]; decide)]
  show (step (step (step D (.make asideL)).1 (.write asideL u)).1 (.sync asideL)).1 = _
  rw [m2, w2, y2]
theorem kept_put {D : DS} {i j : Nat} {t : Tx} {K2 : List (Nat × Tx)} (h : K2 = putA D.kept j t) : (getA K2 i).getD [] = if i = j then t else keptD D i := by rw [h]; exact getD_put
theorem aside_kept {D : DS} {u : Tx} (h : getA D.names asideL = none) (h63 : ¬ 63 ∈ u) (i : Nat) : keptD (asideD D u) i = if i = D.next then u else keptD D i := by
  rw [asideD_eq h h63]
  show (getA (putA (putA D.kept D.next []) D.next (readD (writeD (makeD D asideL) D.next u) D.next)) i).getD [] = _
  rw [getD_put, getD_put]
  by_cases e : i = D.next
  · rw [if_pos e, if_pos e]
    show (getA (putA D.kept D.next []) D.next).getD [] ++ (getA (putA (putA D.late D.next []) D.next ((getA (putA D.late D.next []) D.next).getD [] ++ u)) D.next).getD [] = u
    rw [getD_put, if_pos rfl, getD_put, if_pos rfl, getD_put, if_pos rfl]
    rfl
  · rw [if_neg e, if_neg e, if_neg e]; rfl
theorem aside_flat {D : DS} {u : Tx} (h : getA D.names asideL = none) (h63 : ¬ 63 ∈ u) (fl : flat D) : flat (asideD D u) := fun i => by
  rw [asideD_eq h h63]
  show (getA (putA (putA (putA D.late D.next []) D.next ((getA (putA D.late D.next []) D.next).getD [] ++ u)) D.next []) i).getD [] = _
  rw [getD_put, getD_put, getD_put]
  by_cases e : i = D.next
  · rw [if_pos e]
  · rw [if_neg e, if_neg e, getD_put, if_neg e]; exact fl i
theorem aside_wf {D : DS} {u : Tx} (w : wf D) : wf (asideD D u) := wf_step (wf_step (wf_step (wf_drops w) _) _) _
section
variable {D : DS} {o : Option (Nat × Tx)} {i k n : Nat} {u : Tx}
theorem Stb.no (s : Stb D o i k) : getA D.names asideL = none := by rw [s.nm]; exact Bo_no fun n t e => (s.kt n t e).2.2.2
theorem Stb.aside (s : Stb D o i (k + 4)) (h12 : 12 ≤ k) (hg : goodT u) (hl : u.length ≤ 1000) :
    loadV (viewD (asideD D (frameL u))) = o ∧ Eth (asideD D (frameL u)) o o ∧ cap (asideD D (frameL u)) k ∧ flat (asideD D (frameL u)) ∧ wf (asideD D (frameL u)) ∧
      (asideD D (frameL u)).names = Bo o i ++ [(asideL, D.next)] ∧ (∀ n t, o = some (n, t) → keptD (asideD D (frameL u)) i = frameL t ∧ goodT t ∧ t.length ≤ 1000 ∧ n < 40) ∧ keptD (asideD D (frameL u)) D.next = frameL u ∧ D.next < (asideD D (frameL u)).next := by
  have h63 := frame63 hg
  have cp : cap (asideD D (frameL u)) k := asideD_cap (by have := frame_len u (by omega); omega) s.cp
  have fl := aside_flat s.no h63 s.fl
  have kt : ∀ n t, o = some (n, t) → keptD (asideD D (frameL u)) i = frameL t ∧ goodT t ∧ t.length ≤ 1000 ∧ n < 40 := fun n t e => by
    obtain ⟨a, b⟩ := s.kt n t e
    rw [aside_kept s.no h63, if_neg (by have := s.nx; rw [e] at this; rcases this with x | x; omega; cases x)]
    exact ⟨a, b⟩
  have nm : (asideD D (frameL u)).names = Bo o i ++ [(asideL, D.next)] := by
    rw [asideD_eq s.no h63]
    show putA D.names asideL D.next = _
    rw [putA_new s.no, s.nm]
  have su : (asideD D (frameL u)).sure = Bo o i := by
    rw [asideD_eq s.no h63]
    exact s.su
  have ch : (asideD D (frameL u)).ch = [.make asideL D.next] := by
    rw [asideD_eq s.no h63]
    show D.ch ++ [_] = _
    rw [s.ch]; rfl
  refine ⟨?_, eth_of fl cp h12 fun c hc => ?_, cp, fl, aside_wf s.w, nm, kt, ?_, ?_⟩
  · rw [flat_view fl, nm]; exact (Bo_aside kt).1
  · rw [ch] at hc
    unfold fN
    rw [su, ch]
    obtain ⟨b1, b2, b3⟩ := Bo_view kt
    match c, hc with
    | 0, _ => exact ⟨by show (Bo o i).length ≤ 3; omega, b2, .inl b1⟩
    | 1, _ =>
      have e : applyA (Bo o i) (List.take 1 [.make asideL D.next]) = Bo o i ++ [(asideL, D.next)] := putA_new (by rw [← s.nm]; exact s.no)
      rw [e]
      exact ⟨by rw [List.length_append]; show _ + 1 ≤ 3; omega, (Bo_aside kt).2, .inl (Bo_aside kt).1⟩
  · rw [aside_kept s.no h63, if_pos rfl]
  · rw [asideD_eq s.no h63]; exact Nat.lt_succ_self _
theorem Bo_move {j : Nat} (h : ∀ n t, o = some (n, t) → n < 40) (old : olds o n) (hn : n < 40) : applyC (Bo o i ++ [(asideL, j)]) (.move asideL (snapL n)) = Bo o i ++ [(snapL n, j)] := by
  cases o with
  | none =>
    show (match getA [(asideL, j)] asideL with | some x => putA (dropA [(asideL, j)] asideL) (snapL n) x | none => [(asideL, j)]) = _
    rw [getA_pos rfl]
    show putA (dropA [(asideL, j)] asideL) (snapL n) j = _
    have : dropA [(asideL, j)] asideL = [] := by unfold dropA; rw [List.filter_cons, if_neg (by simp), List.filter_nil]
    rw [this]
    exact putA_new rfl
  | some q =>
    obtain ⟨m, t⟩ := q
    have lt := old m t rfl
    have na : ¬ snapL m = asideL := fun z => snap_aside (n := m) (by omega) z.symm
    show (match getA [(snapL m, i), (asideL, j)] asideL with | some x => putA (dropA [(snapL m, i), (asideL, j)] asideL) (snapL n) x | none => [(snapL m, i), (asideL, j)]) = _
    rw [getA_neg na, getA_pos rfl]
    show putA (dropA [(snapL m, i), (asideL, j)] asideL) (snapL n) j = _
    have : dropA [(snapL m, i), (asideL, j)] asideL = [(snapL m, i)] := by
      unfold dropA
      rw [List.filter_cons, if_pos (decide_eq_true na), List.filter_cons, if_neg (by simp), List.filter_nil]
    rw [this]
    exact putA_new (getA_neg fun z => by have := snap_inj z; omega)
theorem Stb.named (s : Stb D o i (k + 5)) (h12 : 12 ≤ k) (hg : goodT u) (hl : u.length ≤ 1000) (old : olds o n) (hn : n < 40) :
    loadV (viewD (nameD (asideD D (frameL u)) n)) = some (n, u) ∧ Eth (nameD (asideD D (frameL u)) n) o (some (n, u)) ∧ cap (nameD (asideD D (frameL u)) n) k ∧ flat (nameD (asideD D (frameL u)) n) ∧ wf (nameD (asideD D (frameL u)) n) ∧
      (nameD (asideD D (frameL u)) n).names = Bo o i ++ [(snapL n, D.next)] ∧ keptD (nameD (asideD D (frameL u)) n) D.next = frameL u ∧ D.next < (nameD (asideD D (frameL u)) n).next := by
  obtain ⟨_, _, cp, fl, w, nm, kt, ku, nx⟩ := s.aside (k := k + 1) (by omega) hg hl
  have g : getA (asideD D (frameL u)).names asideL = some D.next := by
    rw [nm]
    cases o with
    | none => exact getA_pos rfl
    | some q => exact (getA_neg (fun z => snap_aside (n := q.1) (by have := (s.kt q.1 q.2 rfl).2.2.2; omega) z.symm)).trans (getA_pos rfl)
  obtain ⟨_, m2⟩ := move_done g (snap_aside (n := n) (by omega)) (snap_ne (n := n) (by omega))
  have e : nameD (asideD D (frameL u)) n = syncN (chD (asideD D (frameL u)) (.move asideL (snapL n))) := by unfold nameD; rw [m2]
  have nm2 : (nameD (asideD D (frameL u)) n).names = Bo o i ++ [(snapL n, D.next)] := by
    rw [e]
    show applyC (asideD D (frameL u)).names (.move asideL (snapL n)) = _
    rw [nm]
    exact Bo_move (fun m t z => (kt m t z).2.2.2) old hn
  have fl2 : flat (nameD (asideD D (frameL u)) n) := fun x => by rw [e]; exact fl x
  have ku2 : keptD (nameD (asideD D (frameL u)) n) D.next = frameL u := by rw [e]; exact ku
  have cp2 : cap (nameD (asideD D (frameL u)) n) k := nameD_cap (by omega) cp
  obtain ⟨b1, b2⟩ := Bo_two (i := i) old hn ku2 hg hl
  refine ⟨by rw [flat_view fl2, nm2]; exact b1, eth_of fl2 cp2 h12 fun c hc => ?_, cp2, fl2, wf_step (wf_step w _) .names, nm2, ku2, by rw [e]; exact nx⟩
  have ef : fN (nameD (asideD D (frameL u)) n) c = Bo o i ++ [(snapL n, D.next)] := by
    rw [← nm2]
    have : c = 0 := Nat.le_zero.mp hc
    rw [this]; rfl
  rw [ef]
  have b3 : (Bo o i).length ≤ 1 := (Bo_view s.kt).2.2
  refine ⟨by rw [List.length_append]; show _ + 1 ≤ 3; omega, b2, .inr ⟨b1, fun z => ?_⟩⟩
  cases o with
  | none => cases z
  | some q =>
    have := old q.1 q.2 rfl
    have z' : some n = some q.1 := z
    cases z'
    omega
theorem olderBo {D2 : DS} {j : Nat} (fl : flat D2) (nm : D2.names = Bo o i ++ [(snapL n, j)]) (old : olds o n) (hn : n < 40) : olderL D2 (n : Int) = (Bo o i).map (·.1) := by
  unfold olderL
  rw [flat_view fl, nm]
  cases o with
  | none =>
    show (snapV [(snapL n, keptD D2 j)]).filter _ = _
    rw [snapV_s (by omega), List.filter_cons, if_neg (by rw [snap_val, decide_eq_true_eq]; omega), List.filter_nil]
    rfl
  | some q =>
    obtain ⟨m, t⟩ := q
    have lt := old m t rfl
    show (snapV [(snapL m, keptD D2 i), (snapL n, keptD D2 j)]).filter _ = _
    rw [snapV_ss lt hn, List.filter_cons, if_pos (by rw [snap_val, decide_eq_true_eq]; omega), List.filter_cons, if_neg (by rw [snap_val, decide_eq_true_eq]; omega), List.filter_nil]
    rfl
theorem Stb.done (s : Stb D o i (k + 6)) (h12 : 12 ≤ k) (hg : goodT u) (hl : u.length ≤ 1000) (old : olds o n) (hn : n < 40) :
    Stb (olderD (nameD (asideD D (frameL u)) n) (n : Int)) (some (n, u)) D.next k ∧ (olderL (nameD (asideD D (frameL u)) n) (n : Int)).length = (snapV (viewD D)).length ∧ (olderL (nameD (asideD D (frameL u)) n) (n : Int)).length ≤ 1 := by
  obtain ⟨_, _, cp, fl, w, nm, ku, nx⟩ := s.named (k := k + 1) (by omega) hg hl old hn
  have eo := olderBo fl nm old hn
  have b3 : (Bo o i).length ≤ 1 := (Bo_view s.kt).2.2
  have lo : (olderL (nameD (asideD D (frameL u)) n) (n : Int)).length ≤ 1 := by rw [eo, List.length_map]; exact b3
  have nm3 : (olderD (nameD (asideD D (frameL u)) n) (n : Int)).names = Bo (some (n, u)) D.next := by
    show (dropAll _ _).names = _
    rw [drops_names, nm, eo]
    unfold dropN
    cases o with
    | none => show List.filter _ [(snapL n, D.next)] = _; rw [List.filter_cons, if_pos (by simp [Bo]), List.filter_nil]; rfl
    | some q =>
      have lt := old q.1 q.2 rfl
      show List.filter (fun p => decide (p.1 ∉ [snapL q.1])) [(snapL q.1, i), (snapL n, D.next)] = _
      rw [List.filter_cons, if_neg (by simp), List.filter_cons, if_pos (by simp; intro z; have := snap_inj z; omega), List.filter_nil]
      rfl
  refine ⟨⟨nm3, nm3, rfl, fun x => ?_, cap_names (cap_drops (cp.less (by omega))), wf_step (wf_drops w) .names, fun m t z => ?_, .inl ?_⟩, ?_, lo⟩
  · show lateD (dropAll _ _) x = _
    rw [drops_late]; exact fl x
  · cases z
    refine ⟨?_, hg, hl, hn⟩
    show keptD (dropAll _ _) _ = _
    rw [drops_kept]; exact ku
  · show D.next < (dropAll _ _).next
    rw [(drops_files).2.2.1]; exact nx
  · rw [eo, s.view, List.length_map]
    cases o with
    | none => show 0 = (snapV []).length; rw [snapV_nil]; rfl
    | some q =>
      show 1 = (snapV [(snapL q.1, keptD D i)]).length
      rw [snapV_s (by have := (s.kt q.1 q.2 rfl).2.2.2; omega)]; rfl
theorem Stb.eth (s : Stb D o i k) (h12 : 12 ≤ k) : Eth D o o := by
  refine eth_of s.fl s.cp h12 fun c hc => ?_
  rw [s.ch] at hc
  have ef : fN D c = Bo o i := by
    have : c = 0 := Nat.le_zero.mp hc
    rw [this]; exact s.su
  rw [ef]
  obtain ⟨b1, b2, b3⟩ := Bo_view s.kt
  exact ⟨by omega, b2, .inl b1⟩
end
end K54

namespace K54
open PySem PySem.Spec PyProof.Rows L2
/-! ### a snapshot of which a half is written -/
def halfL : Tx := tl (Str.ofString "3:4:abc")
def halfA (D : DS) (n : Nat) : DS := (step D (.make (snapL (n + 1)))).1
def halfD (D : DS) (n : Nat) : DS := (step (halfA D n) (.write (snapL (n + 1)) halfL)).1
theorem half_facts {D : DS} {n i k : Nat} {t : Tx} (s : Stb D (some (n, t)) i (k + 2)) (hn : n + 1 < 40) :
    (step D (.make (snapL (n + 1)))).2 = .done ∧ cap (halfA D n) (k + 1) ∧ (step (halfA D n) (.write (snapL (n + 1)) halfL)).2 = .done ∧ cap (halfD D n) k ∧ (halfD D n).names.length = 2 ∧
      (getA (halfD D n).names (snapL (n + 1))).isSome = true ∧ wholeV (viewD (halfD D n)) (snapL (n + 1)) = none ∧ loadV (viewD (halfD D n)) = some (n, t) ∧ (goneL (viewD (halfD D n))).length = 1 ∧ (cleanD (halfD D n)).names = D.names := by
  obtain ⟨ek, hg, hl, _⟩ := s.kt n t rfl
  have inx : i ≠ D.next := by rcases s.nx with x | x; omega; cases x
  have ny : snapL n ≠ snapL (n + 1) := fun z => by have := snap_inj z; omega
  have g0 : getA D.names (snapL (n + 1)) = none := by rw [s.nm]; exact getA_neg ny
  obtain ⟨m1, m2⟩ := make_done g0 (snap_ne (n := n + 1) (by omega))
  have eA : halfA D n = makeD D (snapL (n + 1)) := m2
  have gA : getA (halfA D n).names (snapL (n + 1)) = some D.next := by rw [eA]; exact make_get
  obtain ⟨w1, w2⟩ := write_done gA (t := halfL) (by decide +kernel)
  have eD : halfD D n = writeD (makeD D (snapL (n + 1))) D.next halfL := by unfold halfD; rw [w2, eA]
  have c1 : cap (halfA D n) (k + 1) := cap_step s.cp (.make (snapL (n + 1))) (snap_okN (by omega))
  have c2 : cap (halfD D n) k := cap_step c1 (.write (snapL (n + 1)) halfL) (by show halfL.length ≤ 2000; decide +kernel)
  have nm : (halfD D n).names = [(snapL n, i), (snapL (n + 1), D.next)] := by
    rw [eD]
    show putA D.names (snapL (n + 1)) D.next = _
    rw [putA_new g0, s.nm]
    rfl
  have kp : ∀ j, readD (halfD D n) j = if j = D.next then halfL else keptD D j := fun j => by
    rw [eD]
    show (getA (putA D.kept D.next []) j).getD [] ++ (getA (putA (putA D.late D.next []) D.next ((getA (putA D.late D.next []) D.next).getD [] ++ halfL)) j).getD [] = _
    rw [getD_put, getD_put]
    by_cases e : j = D.next
    · rw [if_pos e, if_pos e, if_pos e, getD_put, if_pos rfl]; rfl
    · rw [if_neg e, if_neg e, if_neg e, getD_put, if_neg e]
      show keptD D j ++ lateD D j = _
      rw [s.fl j, List.append_nil]
  have vd : viewD (halfD D n) = [(snapL n, frameL t), (snapL (n + 1), halfL)] := by
    unfold viewD
    rw [nm]
    show [(snapL n, readD (halfD D n) i), (snapL (n + 1), readD (halfD D n) D.next)] = _
    rw [kp, kp, if_neg inx, if_pos rfl, ek]
  have ld : loadV (viewD (halfD D n)) = some (n, t) := by rw [vd]; exact load_sh (Nat.lt_succ_self n) hn (whole_frame hg hl) whole_half
  have gn : goneL (viewD (halfD D n)) = [snapL (n + 1)] := by
    rw [gone_eq]
    have e1 : snapV (viewD (halfD D n)) = [snapL n, snapL (n + 1)] := by rw [vd]; exact snapV_ss (Nat.lt_succ_self n) hn _ _
    have k1 : keepB (viewD (halfD D n)) (snapL n) = false := by unfold keepB; rw [ld]; exact decide_eq_false fun z => z rfl
    have k2 : keepB (viewD (halfD D n)) (snapL (n + 1)) = true := by unfold keepB; rw [ld]; exact decide_eq_true (Ne.symm ny)
    have ha : hasA (viewD (halfD D n)) asideL = false := by
      rw [vd]
      unfold hasA
      rw [getA_neg (fun z => snap_aside (n := n) (by omega) z.symm), getA_neg (fun z => snap_aside (n := n + 1) (by omega) z.symm)]
      rfl
    rw [e1, ha, List.filter_cons, if_neg (by rw [k1]; decide), List.filter_cons, if_pos k2, List.filter_nil]
    rfl
  refine ⟨m1, c1, w1, c2, by rw [nm]; rfl, by rw [nm, getA_neg ny, getA_pos rfl]; rfl, ?_, ld, by rw [gn]; rfl, ?_⟩
  · rw [vd]
    refine (wv (u := halfL) (getA2 ny)).trans whole_half
  · rw [clean_names, gn, nm, s.nm]
    unfold dropN
    rw [List.filter_cons, if_pos (by simp [ny]), List.filter_cons, if_neg (by simp), List.filter_nil]
    rfl
end K54

namespace K54
open PySem PySem.Spec PyProof.Rows L2
local macro_rules | `(tactic| array_mem_dec) => `(tactic| first | with_reducible assumption | with_reducible exact upd_same | ((with_reducible apply same_at); (with_reducible assumption); array_mem_dec) | ((with_reducible apply upd_atN); (with_reducible assumption); array_mem_dec) | ((with_reducible apply upd_at); (first | with_reducible assumption | (apply Ne.symm; with_reducible assumption)); array_mem_dec))
local macro_rules | `(tactic| array_get_dec) => `(tactic| first | (with_reducible refine w_seq ?_) | (with_reducible refine w_asg ?_) | (with_reducible refine w_drop ?_) | (with_reducible refine w_ret ?_) | (with_reducible refine w_retN ?_) | (with_reducible refine w_next ?_) | (with_reducible refine w_break ?_) | (with_reducible refine w_cont ?_) | (with_reducible refine w_ifS ?_) | (with_reducible refine w_sub ?_) | (with_reducible refine w_c ?_) | (with_reducible refine w_op ?_) | (with_reducible refine w_un ?_) | (with_reducible refine w_test ?_) | (with_reducible refine w_B ?_) | (with_reducible refine w_yes ?_) | (with_reducible refine w_not ?_) | (with_reducible refine w_and ?_) | (with_reducible refine w_or ?_) | (with_reducible refine w_andV ?_) | (with_reducible refine w_orV ?_) | (with_reducible refine w_notV ?_) | (with_reducible refine w_ifE ?_) | (with_reducible refine w_nil ?_) | (with_reducible refine w_cons ?_) | (with_reducible refine w_call ?_) | (with_reducible refine w_callS ?_) | (with_reducible refine w_cB ?_) | (with_reducible refine w_lst ?_) | (with_reducible refine w_tup ?_) | (with_reducible refine w_sl ?_) | (with_reducible refine w_noPart ?_) | (with_reducible refine w_part ?_) | (with_reducible refine w_bm ?_) | (with_reducible refine w_bm0 ?_) | (with_reducible refine w_strTy ?_) | (with_reducible refine w_bl ?_) | (with_reducible refine w_int1 ?_) | (with_reducible refine w_str1 ?_) | (with_reducible refine w_rI0 ?_) | (with_reducible refine w_rU ?_) | (with_reducible refine w_eqI ?_) | (with_reducible refine w_eqS ?_) | (with_reducible refine w_neI ?_) | (with_reducible refine w_neS ?_) | (with_reducible refine w_bl2 ?_) | (with_reducible refine w_isN ?_) | (with_reducible refine w_for ?_) | (with_reducible refine w_iRng1 ?_) | (with_reducible refine w_iRng2 ?_) | (with_reducible refine w_iList ?_) | (with_reducible refine w_iTup ?_) | (with_reducible refine w_iStr ?_) | (with_reducible refine w_lc ?_) | (with_reducible refine w_M1 ?_) | (with_reducible refine w_M0 ?_) | (with_reducible refine w_isS ?_) | ((with_reducible apply w_name); (simp only [wipe, List.map_cons, List.map_nil, List.foldl_cons, List.foldl_nil, List.set_cons_zero, List.set_cons_succ]; exact rfl)) | ((with_reducible apply w_var); exact rfl) | ((with_reducible apply w_lstTy); array_mem_dec) | ((with_reducible apply w_lenL); array_mem_dec) | ((with_reducible apply w_lenT); array_mem_dec) | ((with_reducible apply w_listOf); array_mem_dec) | ((with_reducible apply w_lenS); (first | (with_reducible assumption) | omega | (rw [sizeLine_eq]; omega))) | ((with_reducible apply w_slS); (first | (with_reducible assumption) | omega | (rw [sizeLine_eq]; omega))) | ((with_reducible apply w_wipe); exact rfl) | ((with_reducible apply w_acc); array_mem_dec; (try (first | (with_reducible assumption) | omega | (rw [sizeLine_eq]; omega)))) | ((with_reducible apply w_itl); array_mem_dec) | ((with_reducible apply w_itt); array_mem_dec) | ((with_reducible apply w_append); array_mem_dec; (try (first | (with_reducible assumption) | omega | (rw [sizeLine_eq]; omega)))) | ((with_reducible apply w_rng1); (first | (with_reducible assumption) | omega); (first | (with_reducible assumption) | omega)) | ((with_reducible apply w_ixL); array_mem_dec; (first | (with_reducible assumption) | exact rfl | (apply atI_nat; (with_reducible assumption)) | exact atI_last _ _)) | ((with_reducible apply w_ixT); array_mem_dec; (first | (with_reducible assumption) | exact rfl | (apply atI_nat; (with_reducible assumption)) | exact atI_last _ _)) | ((with_reducible apply w_iT); first | exact rfl | (with_reducible assumption)) | ((with_reducible apply w_iF); first | exact rfl | (with_reducible assumption)) | ((with_reducible apply w_isiI (b := true)); decide +kernel) | ((with_reducible apply w_isiI (b := false)); decide +kernel) | ((with_reducible apply w_isiB (b := true)); decide +kernel) | ((with_reducible apply w_isiB (b := false)); decide +kernel) | ((with_reducible apply w_isiS (b := true)); decide +kernel) | ((with_reducible apply w_isiS (b := false)); decide +kernel) | ((with_reducible apply w_isiN (b := true)); decide +kernel) | ((with_reducible apply w_isiN (b := false)); decide +kernel) | ((with_reducible apply w_isiL (b := true)); array_mem_dec; decide +kernel) | ((with_reducible apply w_isiL (b := false)); array_mem_dec; decide +kernel) | ((with_reducible apply w_isiT (b := true)); array_mem_dec; decide +kernel) | ((with_reducible apply w_isiT (b := false)); array_mem_dec; decide +kernel) | (with_reducible refine w_notT ?_) | (with_reducible refine w_chain ?_) | ((with_reducible apply w_trL); array_mem_dec) | ((with_reducible apply w_gTup); array_mem_dec; exact rfl) | ((with_reducible apply w_gLst); array_mem_dec; exact rfl) | (with_reducible refine w_gCons ?_) | (with_reducible refine w_gNil ?_) | (with_reducible refine w_Fld ?_) | (with_reducible refine w_sFld ?_) | (with_reducible refine w_dget ?_) | (with_reducible refine w_dIn ?_) | (with_reducible refine w_dNotIn ?_) | (with_reducible refine w_sDPut ?_) | (with_reducible refine w_dnewK ?_) | (with_reducible refine w_meth ?_) | (with_reducible refine w_make ?_) | (with_reducible refine w_methS ?_) | (with_reducible refine w_makeS ?_) | (with_reducible refine w_dpop ?_) | ((with_reducible apply w_fld1); array_mem_dec; (with_reducible assumption); (with_reducible assumption); exact rfl) | ((with_reducible apply w_sfld1); array_mem_dec; (with_reducible assumption); (with_reducible assumption); exact Nat.le_of_ble_eq_true rfl) | ((with_reducible apply w_meth1); array_mem_dec; exact rfl) | ((with_reducible apply w_dgetS); array_mem_dec; (with_reducible assumption)) | ((with_reducible apply w_dgetI); array_mem_dec; (with_reducible assumption)) | ((with_reducible apply w_dinS); array_mem_dec) | ((with_reducible apply w_dputI); array_mem_dec; (try (first | (with_reducible assumption) | omega | (rw [sizeLine_eq]; omega)))) | ((with_reducible apply w_dputS); array_mem_dec; (try (first | (with_reducible assumption) | omega | (rw [sizeLine_eq]; omega)))) | ((with_reducible apply w_isD); array_mem_dec) | ((with_reducible apply w_dictD); array_mem_dec) | ((with_reducible apply w_dpopS); array_mem_dec; (with_reducible assumption)) | (with_reducible refine w_iRev ?_) | ((with_reducible apply w_setL); array_mem_dec; exact rfl) | ((with_reducible apply w_cat); array_mem_dec; array_mem_dec; (try (first | (with_reducible assumption) | omega | (rw [sizeLine_eq]; omega)))) | (with_reducible refine w_iKeys ?_) | (with_reducible refine w_dget2 ?_) | (with_reducible refine w_scX ?_) | ((with_reducible apply w_keysF); array_mem_dec) | ((with_reducible apply w_dgetSF); array_mem_dec; (with_reducible assumption)))
def dpN (o : Option (Nat × Tx)) : List Tx := match o with
  | none => []
  | some p => [snapL p.1]
theorem after_clean {F : DS} (cp : cap F (F.names.length + 6)) (on : okNm (viewD F)) (fl : flat F) (w : wf F) :
    loadV (viewD (foundD (cleanD F) 0 [])) = loadV (viewD F) ∧ cap (foundD (cleanD F) 0 []) 1 ∧ srt ((cleanD F).names.map (·.1)) = dpN (loadV (viewD F)) ∧ cap (cleanD F) 5 := by
  have nd : ((viewD F).map (·.1)).Nodup := by rw [view_keys]; exact w.ndN
  obtain ⟨e1, e2⟩ := load_left on nd
  have cc : cap (cleanD F) 5 := cap_names (cap_drops (cp.less (by have := gone_len (D := F); omega)))
  have ek : (cleanD F).names.map (·.1) = dpN (loadV (viewD F)) := by rw [← view_keys, clean_view, e2]; cases loadV (viewD F) <;> rfl
  have el : (cleanD F).names.length ≤ 1 := by
    rw [← List.length_map (f := (·.1)), ek]
    cases loadV (viewD F) with
    | none => exact Nat.zero_le _
    | some p => exact Nat.le_refl _
  refine ⟨by rw [clean_lost fl, e1], cap_found cc (by show (cleanD F).names.length + 1 ≤ 5; omega) cc.na, ?_, cc⟩
  rw [ek]
  cases loadV (viewD F) with
  | none => exact srt_nil
  | some p => exact srt_one _
theorem dp_texts {K : PySem.W.Frag} {H : Hp} : ∀ xs : List Tx, DpAll K H (xs.map sv) (xs.map fun x => PyData.str (mkS x))
  | [] => .nil
  | x :: r => .cons (.str _) (dp_texts r)
theorem okTears0 {D : DS} {c : Nat} (hc : c ≤ D.ch.length) : okTears D (.int (c : Int)) [] :=
  ⟨by show (if 0 ≤ (c : Int) ∧ (c : Int) ≤ (D.ch.length : Int) then some (c : Int).toNat else none).isSome = true; rw [if_pos ⟨by omega, by omega⟩]; rfl, fun t m => (by cases m), ⟨List.nodup_nil, .nil⟩, fun t m => (by cases m)⟩
theorem PoolL.lst {H : Hp} {p l : Addr} (h : PoolL H p l) : ∃ xs, H p = some (.lst xs) := by
  obtain ⟨ns, a, b, c, d, h1, h2, _⟩ := h
  exact ⟨_, h1⟩
theorem PoolL.at {H : Hp} {p l : Addr} (h : PoolL H p l) : (∃ xs, H p = some (.lst xs)) ∧ ∃ xs, H l = some (.lst xs) := by
  obtain ⟨ns, a, b, c, d, h1, h2, _⟩ := h
  exact ⟨⟨_, h1⟩, _, h2⟩
theorem PoolL.kp {H H' : Hp} {p l : Addr} (h : PoolL H p l) (k1 : ∀ o, H p = some o → H' p = some o) (k2 : ∀ o, H l = some o → H' l = some o) : PoolL H' p l := by
  obtain ⟨ns, a, b, c, d, h1, h2, h3⟩ := h
  exact ⟨ns, a, b, c, d, k1 _ h1, k2 _ h2, h3⟩
theorem LoadAt.but {H H' : Hp} {p l : Addr} {v : V} {o : Option (Nat × Tx)} (h : LoadAt H v o) (pl : PoolL H p l) (s : SameBut p H H') : LoadAt H' v o := by
  cases o with
  | none => exact h
  | some q =>
    obtain ⟨x, e, hx⟩ := h
    obtain ⟨xs, hp⟩ := pl.lst
    exact ⟨x, e, s _ _ (fun z => by rw [z, hp] at hx; cases hx) hx⟩
theorem DiskAt.but {CD : Addr} {H H' : Hp} {p l a : Addr} {fp : List Addr} {D : DS} (h : DiskAt CD H a fp D) (pl : PoolL H p l) (np : p ∉ fp) (s : SameBut p H H') : DiskAt CD H' a fp D := by
  obtain ⟨xs, hp⟩ := pl.lst
  refine h.keep fun b o e m => s b o (fun z => ?_) e
  rcases m with m | ⟨ys, rfl⟩
  · exact np (by rw [← z]; exact m)
  · rw [z, hp] at e; cases e
theorem LoadAt.fr {CD : Addr} {H H' : Hp} {a : Addr} {fp fp' : List Addr} {D : DS} {v : V} {o : Option (Nat × Tx)} (h : LoadAt H v o) (dk : DiskAt CD H a fp D) (f : Fr fp fp' H H') : LoadAt H' v o := by
  cases o with
  | none => exact h
  | some q =>
    obtain ⟨x, e, hx⟩ := h
    exact ⟨x, e, f.1 _ _ hx (dk.1.noTup _ _ hx)⟩
def spEither (CD : Addr) : Sp := fun vs H Q _ => ∃ (p l a : Addr) (fp : List Addr) (D : DS) (v1 v2 : V) (o1 o2 : Option (Nat × Tx)), vs = [.ref p, .ref a, v1, v2] ∧ PoolL H p l ∧ DiskAt CD H a fp D ∧ p ∉ fp ∧ Eth D o1 o2 ∧ LoadAt H v1 o1 ∧ LoadAt H v2 o2 ∧
  ∀ H', PoolL H' p l → SameBut p H H' → Q (.bl true) H'
section
variable {P : Program} {w : World} {K : PySem.W.Frag} {mg : Str → Option Value} {base : Heap}
set_option maxHeartbeats 20000000 in
theorem ok__law_either (M : Nms K mg) : FnOk P w K mg base CX0 6 M.a__law_either M.d__law_either ["pool", "disk", "old", "new"] (spEither M.CD) := by
  refine M.F__law_either.ok sc__law_either (fun vs H Q E h => ?_) (fun cdv A outer s H vs Q E hr h => ?_)
  · obtain ⟨p, l, a, fp, D, v1, v2, o1, o2, rfl, _⟩ := h
    rfl
  · have hu := hu1 hr
    have clD := M.clD
    have nD_kept := M.nD_kept
    have nD_late := M.nD_late
    have nD_names := M.nD_names
    have nD_sure := M.nD_sure
    have nD_changes := M.nD_changes
    have nD_next := M.nD_next
    refine ⟨_, (pss_cons (ps_for PassesOwn.never rfl (pi_range1 (by rfl) M.T.b_range (pa_cons pe_int pa_nil)) (pg_name (i := 4) sc__law_either.nd rfl (Or.inl rfl)) (pss_cons (ps_asg (pe_call (ok__law_tears M) (hr.mono (by decide)) rfl M.g__law_tears M.k__law_tears M.b__law_tears .nil pass0 (pa_cons (pv 0) (pa_cons (pv 1) pa_nil))) (pg_lst rfl (pgs_cons (pg_name (i := 5) sc__law_either.nd rfl (Or.inl rfl)) (pgs_cons (pg_name (i := 6) sc__law_either.nd rfl (Or.inl rfl)) pgs_nil))))
    (pss_cons (ps_set (i := 7) sc__law_either.nd rfl (Or.inl rfl) (pe_meth (pv 1) M.clD M.m_Disk_cut_off (okL_Disk_cut_off M) (hr.mono (by decide)) M.b_Disk_cut_off .nil pass0 (pa_cons (pv 5) (pa_cons (pv 6) pa_nil))))
    (pss_cons (ps_set (i := 8) sc__law_either.nd rfl (Or.inl rfl) (pe_call (ok_load M) (hr.mono (by decide)) rfl M.g_load M.k_load M.b_load .nil pass0 (pa_cons (pv 7) pa_nil)))
    (pss_cons (ps_if (PW.pt (pw_and (pt_not (pt_val (pe_call (ok__law_same M) (hr.mono (by decide)) rfl M.g__law_same M.k__law_same M.b__law_same .nil pass0 (pa_cons (pv 8) (pa_cons (pv 2) pa_nil))))) (pw_and1 (pt_not (pt_val (pe_call (ok__law_same M) (hr.mono (by decide)) rfl M.g__law_same M.k__law_same M.b__law_same .nil pass0 (pa_cons (pv 8) (pa_cons (pv 3) pa_nil)))))))) (pss_one (ps_ret pe_bl)) pss_nil)
    (pss_cons (ps_expr (pe_call (ok_clean M) (hr.mono (by decide)) rfl M.g_clean M.k_clean M.b_clean .nil pass0 (pa_cons (pv 7) pa_nil)))
    (pss_one (ps_if (PW.pt (pw_or (pt_not (pt_val (pe_call (ok__law_same M) (hr.mono (by decide)) rfl M.g__law_same M.k__law_same M.b__law_same .nil pass0 (pa_cons (pe_call (ok_load M) (hr.mono (by decide)) rfl M.g_load M.k_load M.b_load .nil pass0 (pa_cons (pe_call (ok_all_lost M) (hr.mono (by decide)) rfl M.g_all_lost M.k_all_lost M.b_all_lost .nil pass0 (pa_cons (pv 7) pa_nil)) pa_nil)) (pa_cons (pv 8) pa_nil))))) (pw_or1 (pt_not (pt_val (pe_call (ok__law_same M) (hr.mono (by decide)) rfl M.g__law_same M.k__law_same M.b__law_same .nil pass0 (pa_cons (pe_meth0 (pv 7) M.clD M.m_Disk_names (ok_Disk_names M) (hr.mono (by decide)) M.b_Disk_names .nil pass0) (pa_cons (pe_ifExp (pt_cmpR op_isN (pv 8) pe_non (nomark _)) (pe_lst pa_nil) (pe_lst (pa_cons (pe_call (okL_snap_name M) (hr.mono (by decide)) rfl M.g_snap_name M.k_snap_name M.b_snap_name .nil pass0 (pa_cons (pe_ix (r := rIxT K) ix_tup (pv 8) pe_int (fun _ _ => rfl)) pa_nil)) pa_nil))) pa_nil)))))))) (pss_one (ps_ret pe_bl)) pss_nil))))))))
    (pss_one (ps_ret pe_bl))), ?_⟩
    try dsimp only [cxOf, Cx.nox]
    obtain ⟨p, l, a, fp, D, v1, v2, o1, o2, rfl, pl, dk, np, eth, lo1, lo2, q⟩ := h
    refine w_start (σ' := [some (.ref p), some (.ref a), some v1, some v2, none, none, none, none, none]) rfl ?_
    (repeat array_get_dec)
    refine for_range (lo := 0) (n := 3) (fun i σ H' => ∃ x4 x5 x6 x7 x8, σ = [some (.ref p), some (.ref a), some v1, some v2, x4, x5, x6, x7, x8] ∧ PoolL H' p l ∧ SameBut p H H') ⟨_, _, _, _, _, rfl, pl, fun b o _ e => e⟩ ?_ ?_
    · rintro i σ H' hi ⟨x4, x5, x6, x7, x8, rfl, pl1, sb1⟩
      have dk1 := dk.but pl np sb1
      (repeat array_get_dec)
      refine ⟨p, l, a, fp, D, rfl, pl1, dk1, eth.fl, np, fun r e c H2 hc pl2 sb2 hr0 he0 h2r h2e => ?_⟩
      have he0' : H e = none := by
        obtain ⟨xs, hp⟩ := pl.lst
        obtain ⟨ys, hp1⟩ := pl1.lst
        cases eb : H e with
        | none => rfl
        | some o => rw [sb1 _ _ (fun z => by rw [z, hp1] at he0; cases he0) eb] at he0; cases he0
      have sb12 : SameBut p H H2 := fun b o nb eb => sb2 _ _ nb (sb1 _ _ nb eb)
      have dk2 := dk.but pl np sb12
      obtain ⟨cpF, on, lF⟩ := eth.each c hc
      obtain ⟨⟨k0, l0, n0, sa0, c0, ts0, efp, ⟨_, ⟨dx0, hi2⟩, _⟩⟩, wfd⟩ := id dk2
      (repeat array_get_dec)
      refine ⟨a, fp, D, .int (c : Int), e, [], [], rfl, dk2, h2e, trivial, by decide, fun z => dk.1.has _ z he0', (fun t m => by cases m), okTears0 hc, fun k hk => ?_⟩
      obtain rfl : k = c := by
        have hk' : (if 0 ≤ (c : Int) ∧ (c : Int) ≤ (D.ch.length : Int) then some (c : Int).toNat else none) = some k := hk
        rw [if_pos ⟨by omega, by omega⟩, Int.toNat_natCast] at hk'
        cases hk'; rfl
      refine ⟨cpF.bd, fun b H3 fp3 dk3 s3 fr3 => ?_⟩
      have dk3 : DiskAt M.CD H3 b fp3 (foundD D k []) := dk3
      have fl3 : flat (foundD D k []) := found_flat
      obtain ⟨A1, A2, A3, A4⟩ := after_clean cpF on fl3 dk3.2
      generalize foundD D k [] = F at *
      obtain ⟨⟨k3, l3, n3, sa3, d3, ts3, efp3, ⟨_, ⟨dx3, hi3⟩, _⟩⟩, _⟩ := id dk3
      (repeat array_get_dec)
      refine ⟨b, fp3, F, rfl, dk3, cpF.na, fun vt H4 s4 lo => ?_⟩
      have pl4 := (pl2.keep s3).keep s4
      have sb14 : SameBut p H H4 := fun b o nb eb => s4 _ _ (s3 _ _ (sb12 _ _ nb eb))
      have dk4 := dk3.same s4
      (repeat array_get_dec)
      have lo1' := lo1.but pl sb14
      have lo2' := lo2.but pl sb14
      obtain ⟨_, ok0, dp0⟩ := lo.dp
      rcases lF with e0 | ⟨e0, ne⟩
      case' inl =>
        refine .inl ⟨vt, v1, _, rfl, dp0 _ _ lo, dp0 _ _ (by rw [e0]; exact lo1'), ok0, fun H5 s5 => ?_⟩
        (repeat array_get_dec)
      case' inr =>
        refine .inr ⟨vt, v1, _, _, rfl, lo, lo1', by rw [e0]; exact ne, fun H50 s50 => ?_⟩
        (repeat array_get_dec)
        refine .inl ⟨vt, v2, _, rfl, dp0 _ _ (lo.same s50), dp0 _ _ (by rw [e0]; exact lo2'.same s50), ok0, fun H5 s51 => ?_⟩
        have s5 : Same H4 H5 := s50.trans s51
        (repeat array_get_dec)
      all_goals
        have pl5 := pl4.keep s5
        have sb15 : SameBut p H H5 := fun b o nb eb => s5 _ _ (sb14 _ _ nb eb)
        have lo5 := lo.same s5
        have dk5 := dk4.same s5
        refine ⟨b, fp3, F, rfl, dk5, cpF.less (by omega), fun H6 fp6 dk6 F6 => ?_⟩
        have lo6 := lo5.fr dk5 F6
        obtain ⟨⟨k6, l6, n6, sa6, d6, ts6, efp6, ⟨_, ⟨dx6, hi6⟩, _⟩⟩, _⟩ := id dk6
        (repeat array_get_dec)
        refine ⟨b, fp6, _, rfl, dk6, A2.bd, fun b2 H7 fp7 dk7 s7 fr7 => ?_⟩
        (repeat array_get_dec)
        refine ⟨b2, fp7, _, rfl, dk7, A2.na, fun vt2 H8 s8 lo8 => ?_⟩
        rw [A1] at lo8
        have s68 := s7.trans s8
        have lo68 := lo6.same s68
        (repeat array_get_dec)
        refine .inl ⟨vt2, vt, _, rfl, dp0 _ _ lo8, dp0 _ _ lo68, ok0, fun H9 s9 => ?_⟩
        have s69 := s68.trans s9
        have hi9 := s69 _ _ hi6
        have dk9 := dk6.same s69
        have lo9 := lo6.same s69
        (repeat array_get_dec)
        refine ⟨b, fp6, _, rfl, dk9.1, fun r2 hr9 => ?_⟩
        rw [A3]
        have q1 : upd H9 r2 (.lst ((dpN (loadV (viewD F))).map sv)) r2 = some (.lst ((dpN (loadV (viewD F))).map sv)) := upd_same
        have s10 : Same H9 (upd H9 r2 (.lst ((dpN (loadV (viewD F))).map sv))) := same_upd (Same.refl _) hr9
        have lo10 := lo9.same s10
        have pl6 : PoolL H6 p l := by
          obtain ⟨⟨xs, hp2⟩, ys, hl2⟩ := pl2.at
          refine pl5.kp (fun o eb => F6.1 _ _ eb fun z => ?_) (fun o eb => F6.1 _ _ eb fun z => ?_)
          · rw [fr3 _ z] at hp2; cases hp2
          · rw [fr3 _ z] at hl2; cases hl2
        have pl10 : PoolL (upd H9 r2 (.lst ((dpN (loadV (viewD F))).map sv))) p l := (pl6.keep s69).keep s10
        have sb10 : SameBut p H (upd H9 r2 (.lst ((dpN (loadV (viewD F))).map sv))) := fun x o nb eb => s10 _ _ (s69 _ _ (F6.1 _ _ (sb15 _ _ nb eb) fun z => by
          have := sb12 _ _ nb eb
          rw [fr3 _ z] at this
          cases this))
        generalize upd H9 r2 (.lst ((dpN (loadV (viewD F))).map sv)) = H10 at *
        cases el : loadV (viewD F) with
        | none =>
          rw [el] at lo10 q1
          obtain rfl : vt = .non := lo10
          (repeat array_get_dec)
          refine ⟨by show 0 ≤ sizeLine; decide, fun r3 hr3 => ?_⟩
          have s11 := same_upd (o := .lst []) (Same.refl H10) hr3
          refine .inl ⟨.ref r2, .ref r3, .list [], rfl, .lst (SqL.of (s11 _ _ q1)) .nil, .lst (SqL.of upd_same) .nil, ⟨by decide, fun x m => by cases m⟩, fun H12 s12 => ?_⟩
          (repeat array_get_dec)
          exact ⟨_, _, _, _, _, rfl, (pl10.keep s11).keep s12, fun x o nb eb => s12 _ _ (s11 _ _ (sb10 _ _ nb eb))⟩
        | some pr =>
          obtain ⟨n, t⟩ := pr
          have n6 := load_le el
          rw [el] at lo10 q1
          obtain ⟨x, rfl, hx⟩ := lo10
          have t0 : atI [V.int (n : Int), sv t] (0 : Int) = some (.int (n : Int)) := atI_nat (j := 0) rfl
          (repeat array_get_dec)
          refine ⟨n, rfl, n6, ?_⟩
          (repeat array_get_dec)
          refine ⟨by show 1 ≤ sizeLine; decide, fun r3 hr3 => ?_⟩
          have s11 := same_upd (o := .lst [sv (snapL n)]) (Same.refl H10) hr3
          refine .inl ⟨.ref r2, .ref r3, .list [.str (mkS (snapL n))], rfl, .lst (SqL.of (s11 _ _ q1)) (.cons (.str _) .nil), .lst (SqL.of upd_same) (.cons (.str _) .nil), ⟨by show 1 ≤ 1000000; decide, fun y m => by obtain rfl := List.mem_singleton.mp m; trivial⟩, fun H12 s12 => ?_⟩
          (repeat array_get_dec)
          exact ⟨_, _, _, _, _, rfl, (pl10.keep s11).keep s12, fun x o nb eb => s12 _ _ (s11 _ _ (sb10 _ _ nb eb))⟩
    · rintro σ H' ⟨x4, x5, x6, x7, x8, rfl, pl1, sb1⟩
      (repeat array_get_dec)
      exact q _ pl1 sb1
end
end K54

namespace K54
open PySem PySem.Spec PyProof.Rows L2
local macro_rules | `(tactic| array_mem_dec) => `(tactic| first | with_reducible assumption | with_reducible exact upd_same | ((with_reducible apply same_at); (with_reducible assumption); array_mem_dec) | ((with_reducible apply upd_atN); (with_reducible assumption); array_mem_dec) | ((with_reducible apply upd_at); (first | with_reducible assumption | (apply Ne.symm; with_reducible assumption)); array_mem_dec))
local macro_rules | `(tactic| array_get_dec) => `(tactic| first | (with_reducible refine w_seq ?_) | (with_reducible refine w_asg ?_) | (with_reducible refine w_drop ?_) | (with_reducible refine w_ret ?_) | (with_reducible refine w_retN ?_) | (with_reducible refine w_next ?_) | (with_reducible refine w_break ?_) | (with_reducible refine w_cont ?_) | (with_reducible refine w_ifS ?_) | (with_reducible refine w_sub ?_) | (with_reducible refine w_c ?_) | (with_reducible refine w_op ?_) | (with_reducible refine w_un ?_) | (with_reducible refine w_test ?_) | (with_reducible refine w_B ?_) | (with_reducible refine w_yes ?_) | (with_reducible refine w_not ?_) | (with_reducible refine w_and ?_) | (with_reducible refine w_or ?_) | (with_reducible refine w_andV ?_) | (with_reducible refine w_orV ?_) | (with_reducible refine w_notV ?_) | (with_reducible refine w_ifE ?_) | (with_reducible refine w_nil ?_) | (with_reducible refine w_cons ?_) | (with_reducible refine w_call ?_) | (with_reducible refine w_callS ?_) | (with_reducible refine w_cB ?_) | (with_reducible refine w_lst ?_) | (with_reducible refine w_tup ?_) | (with_reducible refine w_sl ?_) | (with_reducible refine w_noPart ?_) | (with_reducible refine w_part ?_) | (with_reducible refine w_bm ?_) | (with_reducible refine w_bm0 ?_) | (with_reducible refine w_strTy ?_) | (with_reducible refine w_bl ?_) | (with_reducible refine w_int1 ?_) | (with_reducible refine w_str1 ?_) | (with_reducible refine w_rI0 ?_) | (with_reducible refine w_rU ?_) | (with_reducible refine w_eqI ?_) | (with_reducible refine w_eqS ?_) | (with_reducible refine w_neI ?_) | (with_reducible refine w_neS ?_) | (with_reducible refine w_bl2 ?_) | (with_reducible refine w_isN ?_) | (with_reducible refine w_for ?_) | (with_reducible refine w_iRng1 ?_) | (with_reducible refine w_iRng2 ?_) | (with_reducible refine w_iList ?_) | (with_reducible refine w_iTup ?_) | (with_reducible refine w_iStr ?_) | (with_reducible refine w_lc ?_) | (with_reducible refine w_M1 ?_) | (with_reducible refine w_M0 ?_) | (with_reducible refine w_isS ?_) | ((with_reducible apply w_name); (simp only [wipe, List.map_cons, List.map_nil, List.foldl_cons, List.foldl_nil, List.set_cons_zero, List.set_cons_succ]; exact rfl)) | ((with_reducible apply w_var); exact rfl) | ((with_reducible apply w_lstTy); array_mem_dec) | ((with_reducible apply w_lenL); array_mem_dec) | ((with_reducible apply w_lenT); array_mem_dec) | ((with_reducible apply w_listOf); array_mem_dec) | ((with_reducible apply w_lenS); (first | (with_reducible assumption) | omega | (rw [sizeLine_eq]; omega))) | ((with_reducible apply w_slS); (first | (with_reducible assumption) | omega | (rw [sizeLine_eq]; omega))) | ((with_reducible apply w_wipe); exact rfl) | ((with_reducible apply w_acc); array_mem_dec; (try (first | (with_reducible assumption) | omega | (rw [sizeLine_eq]; omega)))) | ((with_reducible apply w_itl); array_mem_dec) | ((with_reducible apply w_itt); array_mem_dec) | ((with_reducible apply w_append); array_mem_dec; (try (first | (with_reducible assumption) | omega | (rw [sizeLine_eq]; omega)))) | ((with_reducible apply w_rng1); (first | (with_reducible assumption) | omega); (first | (with_reducible assumption) | omega)) | ((with_reducible apply w_ixL); array_mem_dec; (first | (with_reducible assumption) | exact rfl | (apply atI_nat; (with_reducible assumption)) | exact atI_last _ _)) | ((with_reducible apply w_ixT); array_mem_dec; (first | (with_reducible assumption) | exact rfl | (apply atI_nat; (with_reducible assumption)) | exact atI_last _ _)) | ((with_reducible apply w_iT); first | exact rfl | (with_reducible assumption)) | ((with_reducible apply w_iF); first | exact rfl | (with_reducible assumption)) | ((with_reducible apply w_isiI (b := true)); decide +kernel) | ((with_reducible apply w_isiI (b := false)); decide +kernel) | ((with_reducible apply w_isiB (b := true)); decide +kernel) | ((with_reducible apply w_isiB (b := false)); decide +kernel) | ((with_reducible apply w_isiS (b := true)); decide +kernel) | ((with_reducible apply w_isiS (b := false)); decide +kernel) | ((with_reducible apply w_isiN (b := true)); decide +kernel) | ((with_reducible apply w_isiN (b := false)); decide +kernel) | ((with_reducible apply w_isiL (b := true)); array_mem_dec; decide +kernel) | ((with_reducible apply w_isiL (b := false)); array_mem_dec; decide +kernel) | ((with_reducible apply w_isiT (b := true)); array_mem_dec; decide +kernel) | ((with_reducible apply w_isiT (b := false)); array_mem_dec; decide +kernel) | (with_reducible refine w_notT ?_) | (with_reducible refine w_chain ?_) | ((with_reducible apply w_trL); array_mem_dec) | ((with_reducible apply w_gTup); array_mem_dec; exact rfl) | ((with_reducible apply w_gLst); array_mem_dec; exact rfl) | (with_reducible refine w_gCons ?_) | (with_reducible refine w_gNil ?_) | (with_reducible refine w_Fld ?_) | (with_reducible refine w_sFld ?_) | (with_reducible refine w_dget ?_) | (with_reducible refine w_dIn ?_) | (with_reducible refine w_dNotIn ?_) | (with_reducible refine w_sDPut ?_) | (with_reducible refine w_dnewK ?_) | (with_reducible refine w_meth ?_) | (with_reducible refine w_make ?_) | (with_reducible refine w_methS ?_) | (with_reducible refine w_makeS ?_) | (with_reducible refine w_dpop ?_) | ((with_reducible apply w_fld1); array_mem_dec; (with_reducible assumption); (with_reducible assumption); exact rfl) | ((with_reducible apply w_sfld1); array_mem_dec; (with_reducible assumption); (with_reducible assumption); exact Nat.le_of_ble_eq_true rfl) | ((with_reducible apply w_meth1); array_mem_dec; exact rfl) | ((with_reducible apply w_dgetS); array_mem_dec; (with_reducible assumption)) | ((with_reducible apply w_dgetI); array_mem_dec; (with_reducible assumption)) | ((with_reducible apply w_dinS); array_mem_dec) | ((with_reducible apply w_dputI); array_mem_dec; (try (first | (with_reducible assumption) | omega | (rw [sizeLine_eq]; omega)))) | ((with_reducible apply w_dputS); array_mem_dec; (try (first | (with_reducible assumption) | omega | (rw [sizeLine_eq]; omega)))) | ((with_reducible apply w_isD); array_mem_dec) | ((with_reducible apply w_dictD); array_mem_dec) | ((with_reducible apply w_dpopS); array_mem_dec; (with_reducible assumption)) | (with_reducible refine w_iRev ?_) | ((with_reducible apply w_setL); array_mem_dec; exact rfl) | ((with_reducible apply w_cat); array_mem_dec; array_mem_dec; (try (first | (with_reducible assumption) | omega | (rw [sizeLine_eq]; omega)))) | (with_reducible refine w_iKeys ?_) | (with_reducible refine w_dget2 ?_) | (with_reducible refine w_scX ?_) | ((with_reducible apply w_keysF); array_mem_dec) | ((with_reducible apply w_dgetSF); array_mem_dec; (with_reducible assumption)))
def figL (k n : Nat) : List Nat := List.replicate k 48 ++ TL.numL n
theorem fig_txt {n : Nat} : Str.ofString "snap." ++ mkS (figL (6 - (TL.numL n).length) n) = mkS (snapL n) := by
  have e : Str.ofString "snap." = mkS pre := by decide +kernel
  rw [e, mkS_app]
  rfl
theorem fig_next (k n : Nat) : Str.ofString "0" ++ mkS (figL k n) = mkS (figL (k + 1) n) := by
  have e : Str.ofString "0" = mkS [48] := by decide +kernel
  rw [e, mkS_app]
  unfold figL
  rw [List.replicate_succ]
  rfl
theorem cap_none : cap noneD 60 := ⟨by decide, by decide, by decide, by decide, by decide, List.nodup_nil, List.nodup_nil, fun i => by show 0 + 0 + 2000 * 60 ≤ 300000; decide, fun p m => by cases m⟩
theorem stb_none : Stb noneD none 0 60 := ⟨rfl, rfl, rfl, fun i => rfl, cap_none, wf_none, (fun n t e => by cases e), .inr rfl⟩
structure RunI (CD : Addr) (H : Hp) (p l a : Addr) (fp : List Addr) (D : DS) (v : V) (o : Option (Nat × Tx)) (i k : Nat) : Prop where
  pool : PoolL H p l
  dk : DiskAt CD H a fp D
  np : p ∉ fp
  nl : l ∉ fp
  lo : LoadAt H v o
  st : Stb D o i k
section
variable {CD : Addr} {H H' : Hp} {p l a : Addr} {fp : List Addr} {D : DS} {v : V} {o : Option (Nat × Tx)} {i k : Nat}
theorem RunI.same (x : RunI CD H p l a fp D v o i k) (s : Same H H') : RunI CD H' p l a fp D v o i k := ⟨x.pool.keep s, x.dk.same s, x.np, x.nl, x.lo.same s, x.st⟩
theorem RunI.drawn (x : RunI CD H p l a fp D v o i k) (pl : PoolL H' p l) (s : SameBut p H H') : RunI CD H' p l a fp D v o i k := ⟨pl, x.dk.but x.pool x.np s, x.np, x.nl, x.lo.but x.pool s, x.st⟩
end
/-- what holds while a disk is changed -/
structure MidI (CD : Addr) (H : Hp) (p l a : Addr) (fp : List Addr) (D : DS) (v w : V) (o o2 : Option (Nat × Tx)) : Prop where
  pool : PoolL H p l
  dk : DiskAt CD H a fp D
  np : p ∉ fp
  nl : l ∉ fp
  lo : LoadAt H v o
  lw : LoadAt H w o2
section
variable {CD : Addr} {H H' : Hp} {p l a : Addr} {fp fp' : List Addr} {D D' : DS} {v w : V} {o o2 : Option (Nat × Tx)}
theorem MidI.same (x : MidI CD H p l a fp D v w o o2) (s : Same H H') : MidI CD H' p l a fp D v w o o2 := ⟨x.pool.keep s, x.dk.same s, x.np, x.nl, x.lo.same s, x.lw.same s⟩
theorem MidI.drawn (x : MidI CD H p l a fp D v w o o2) (pl : PoolL H' p l) (s : SameBut p H H') : MidI CD H' p l a fp D v w o o2 := ⟨pl, x.dk.but x.pool x.np s, x.np, x.nl, x.lo.but x.pool s, x.lw.but x.pool s⟩
theorem MidI.disk (x : MidI CD H p l a fp D v w o o2) (dk : DiskAt CD H' a fp' D') (f : Fr fp fp' H H') : MidI CD H' p l a fp' D' v w o o2 := by
  obtain ⟨⟨xs, hp⟩, ys, hl⟩ := x.pool.at
  exact ⟨x.pool.kp (fun o e => f.1 _ _ e x.np) (fun o e => f.1 _ _ e x.nl), dk, fun m => (f.2 p m).elim x.np fun z => (by rw [hp] at z; cases z), fun m => (f.2 l m).elim x.nl fun z => (by rw [hl] at z; cases z), x.lo.fr x.dk f, x.lw.fr x.dk f⟩
end
def textS : List V := [.str (Str.ofString ""), .str (Str.ofString "abc"), .str (Str.ofString "a" ++ Str.ofString "\n" ++ Str.ofString "b 1:2"), .str (Str.ofString "zz")]
theorem Stb.less {D : DS} {o : Option (Nat × Tx)} {i k m : Nat} (s : Stb D o i k) (h : m ≤ k) : Stb D o i m := ⟨s.nm, s.su, s.ch, s.fl, s.cp.less h, s.w, s.kt, s.nx⟩
theorem Stb.load {D : DS} {o : Option (Nat × Tx)} {i k : Nat} (s : Stb D o i k) : loadV (viewD D) = o := by rw [s.view]; exact (Bo_view s.kt).1
theorem Stb.lost {D : DS} {o : Option (Nat × Tx)} {i k : Nat} (s : Stb D o i k) (h12 : 12 ≤ k) : loadV (viewD (foundD D 0 [])) = o ∧ cap (foundD D 0 []) 1 := by
  obtain ⟨a, _, b⟩ := (s.eth h12).each 0 (Nat.zero_le _)
  exact ⟨b.elim id fun x => x.1, a.less (by omega)⟩
theorem Stb.clean {D : DS} {o : Option (Nat × Tx)} {i k : Nat} (s : Stb D o i k) : goneL (viewD D) = [] ∧ cleanD D = D := by
  have g : goneL (viewD D) = [] := by
    rw [List.eq_nil_iff_forall_not_mem]
    intro x m
    rw [s.view] at m
    have kt := s.kt
    have h1 := Bo_view kt
    cases o with
    | none =>
      have := gone_in (D := D) x (by rw [s.view]; exact m)
      rw [s.nm] at this
      cases this
    | some q =>
      rcases mem_gone.mp m with ⟨m1, m2⟩ | ⟨m1, m2⟩
      · have m3 : x ∈ [snapL q.1] := (mem_snapV.mp m1).1
        obtain rfl := List.mem_singleton.mp m3
        unfold keepB at m2
        rw [h1.1] at m2
        exact (of_decide_eq_true m2) rfl
      · have n4 := (kt q.1 q.2 rfl).2.2.2
        have : getA (vw D (Bo (some q) i)) asideL = none := getA_neg (fun z => snap_aside (n := q.1) (by omega) z.symm)
        unfold hasA at m1
        rw [this] at m1
        cases m1
  refine ⟨g, ?_⟩
  have e : cleanD D = { D with sure := D.names, ch := [] } := by
    unfold cleanD
    rw [g]
    rfl
  rw [e]
  have e1 := s.nm.trans s.su.symm
  have e2 := s.ch
  cases D
  dsimp only at e1 e2
  rw [e1, e2]
theorem Stb.whole {D : DS} {n i k : Nat} {u : Tx} (s : Stb D (some (n, u)) i k) : (getA D.names (snapL n)).isSome = true ∧ wholeV (viewD D) (snapL n) = some u := by
  obtain ⟨a, b, c, _⟩ := s.kt n u rfl
  refine ⟨by rw [s.nm]; show (getA [(snapL n, i)] (snapL n)).isSome = true; rw [getA_pos rfl]; rfl, ?_⟩
  rw [s.view]
  refine (wv (l := [(snapL n, keptD D i)]) (u := keptD D i) getA1).trans ?_
  rw [a]
  exact whole_frame b c
theorem Stb.snaps {D : DS} {n i k : Nat} {u : Tx} (s : Stb D (some (n, u)) i k) : snapV (viewD D) = [snapL n] := by
  rw [s.view]
  exact snapV_s (by have := (s.kt n u rfl).2.2.2; omega) _
def wrongV : List V := [.str (Str.ofString "snap.new"), .str (Str.ofString "snap.12345"), .str (Str.ofString "snaps.000001"), .str (Str.ofString "log.000001"), .str (Str.ofString "")]
theorem wrong_in {v : V} (h : v ∈ wrongV) : ∃ l : Tx, v = .str (mkS l) ∧ l.length ≤ 100 ∧ isSnapL l = false := by
  unfold wrongV at h
  simp only [List.mem_cons, List.not_mem_nil, or_false] at h
  rcases h with rfl | rfl | rfl | rfl | rfl
  · exact ⟨tl (Str.ofString "snap.new"), rfl, by decide +kernel, by decide +kernel⟩
  · exact ⟨tl (Str.ofString "snap.12345"), rfl, by decide +kernel, by decide +kernel⟩
  · exact ⟨tl (Str.ofString "snaps.000001"), rfl, by decide +kernel, by decide +kernel⟩
  · exact ⟨tl (Str.ofString "log.000001"), rfl, by decide +kernel, by decide +kernel⟩
  · exact ⟨tl (Str.ofString ""), rfl, by decide +kernel, by decide +kernel⟩
def badV : List V := [.int (-1), .int 1000000, .bl true]
theorem bad_in {v : V} (h : v ∈ badV) : ∃ b : IB, v = vIB b ∧ inIB 999999 b = none := by
  unfold badV at h
  simp only [List.mem_cons, List.not_mem_nil, or_false] at h
  rcases h with rfl | rfl | rfl
  · exact ⟨.int (-1), rfl, by decide⟩
  · exact ⟨.int 1000000, rfl, by decide⟩
  · exact ⟨.bl true, rfl, rfl⟩
theorem w_ifc {c : Bool} {x y : Int} {σ : L2.St} {H : Hp} {k : VK} (h : k (.int (if c = true then x else y)) H) : if c = true then tC (.int x) σ H k else tC (.int y) σ H k := by
  cases c <;> exact h
theorem good_num (j : Nat) : goodT (TL.numL j) := by
  refine List.all_eq_true.mpr fun c hc => ?_
  have := TL.numL_digits j c hc
  exact (show ∀ c, 48 ≤ c ∧ c ≤ 57 → okSign c = true by
    intro c h
    obtain ⟨h1, h2⟩ := h
    have : ∀ c < 58, 48 ≤ c → okSign c = true := by decide
    exact this c (by omega) h1) c this
theorem text_in {v : V} (h : v ∈ textS) : ∃ t : Tx, v = .str (mkS t) ∧ goodT t ∧ t.length ≤ 10 := by
  unfold textS at h
  simp only [List.mem_cons, List.not_mem_nil, or_false] at h
  rcases h with rfl | rfl | rfl | rfl
  · exact ⟨tl (Str.ofString ""), rfl, by unfold goodT; decide +kernel, by decide +kernel⟩
  · exact ⟨tl (Str.ofString "abc"), rfl, by unfold goodT; decide +kernel, by decide +kernel⟩
  · exact ⟨tl (Str.ofString "a" ++ Str.ofString "\n" ++ Str.ofString "b 1:2"), rfl, by unfold goodT; decide +kernel, by decide +kernel⟩
  · exact ⟨tl (Str.ofString "zz"), rfl, by unfold goodT; decide +kernel, by decide +kernel⟩
def spRun (K : PySem.W.Frag) : Sp := fun vs H Q _ => ∃ (a : Addr) (ns : List Int), vs = [.ref a] ∧ SqL K H a (ns.map V.int) ∧ ns.length ≤ 63 ∧ ∀ H', Q (.bl true) H'
section
variable {P : Program} {w : World} {K : PySem.W.Frag} {mg : Str → Option Value} {base : Heap}
set_option maxHeartbeats 40000000 in
theorem ok__law_run (M : Nms K mg) : FnOk P w K mg base CX0 8 M.a__law_run M.d__law_run ["script"] (spRun K) := by
  refine M.F__law_run.ok sc__law_run (fun vs H Q E h => ?_) (fun cdv A outer s H vs Q E hr h => ?_)
  · obtain ⟨a, ns, rfl, _⟩ := h
    rfl
  · have hu := hu1 hr
    have clD := M.clD
    have nD_kept := M.nD_kept
    have nD_late := M.nD_late
    have nD_names := M.nD_names
    have nD_sure := M.nD_sure
    have nD_changes := M.nD_changes
    have nD_next := M.nD_next
    refine ⟨_, (pss_cons (ps_set (i := 1) sc__law_run.nd rfl (Or.inl rfl) (pe_call (ok__law_pool M) (hr.mono (by decide)) rfl M.g__law_pool M.k__law_pool M.b__law_pool .nil pass0 (pa_cons (pv 0) pa_nil)))
    (pss_cons (ps_set (i := 2) sc__law_run.nd rfl (Or.inl rfl) (pe_make0 M.mkD (ok_Disk___init__ M) (hr.mono (by decide)) rfl M.gD M.b_Disk___init__ .nil pass0))
    (pss_cons (ps_if (PW.pt (pw_or (pt_cmpR op_notN (pe_call (ok_load M) (hr.mono (by decide)) rfl M.g_load M.k_load M.b_load .nil pass0 (pa_cons (pv 2) pa_nil)) pe_non (nomark _)) (pw_or (pt_cmpR op_ne (pe_call (ok__law_refused M) (hr.mono (by decide)) rfl M.g__law_refused M.k__law_refused M.b__law_refused .nil pass0 (pa_cons pe_int (pa_cons (pv 2) (pa_cons pe_int (pa_cons pe_int pa_nil))))) pe_str (nomark _)) (pw_or1 (pt_cmpR op_ne (pe_call (ok__law_refused M) (hr.mono (by decide)) rfl M.g__law_refused M.k__law_refused M.b__law_refused .nil pass0 (pa_cons pe_int (pa_cons (pv 2) (pa_cons pe_str (pa_cons pe_int pa_nil))))) pe_str (nomark _)))))) (pss_one (ps_ret pe_bl)) pss_nil)
    (pss_cons (ps_set (i := 3) sc__law_run.nd rfl (Or.inl rfl) pe_non)
    (pss_cons (ps_set (i := 4) sc__law_run.nd rfl (Or.inl rfl) pe_int)
    (pss_cons (ps_for PassesOwn.never rfl (pi_range1 (by rfl) M.T.b_range (pa_cons (pe_op op_add pe_int (pe_call (ok__law_draw M) (hr.mono (by decide)) rfl M.g__law_draw M.k__law_draw M.b__law_draw .nil pass0 (pa_cons (pv 1) (pa_cons pe_int pa_nil)))) pa_nil)) (pg_name (i := 5) sc__law_run.nd rfl (Or.inl rfl)) (pss_cons (ps_set (i := 4) sc__law_run.nd rfl (Or.inl rfl) (pe_op op_add (pe_op op_add (pv 4) (pe_call (ok__law_draw M) (hr.mono (by decide)) rfl M.g__law_draw M.k__law_draw M.b__law_draw .nil pass0 (pa_cons (pv 1) (pa_cons pe_int pa_nil)))) (pe_ifExp (pt_cmpR op_gt (pv 5) pe_int (nomark _)) pe_int pe_int)))
    (pss_cons (ps_set (i := 6) sc__law_run.nd rfl (Or.inl rfl) (pe_op op_add_str (pe_call (ok__law_pick M) (hr.mono (by decide)) rfl M.g__law_pick M.k__law_pick M.b__law_pick .nil pass0 (pa_cons (pv 1) (pa_cons (pe_lst (pa_cons pe_str (pa_cons pe_str (pa_cons (pe_op op_add_str (pe_op op_add_str pe_str pe_str) pe_str) (pa_cons pe_str pa_nil))))) pa_nil))) (pe_callTy call_str_int (by rfl) M.T.b_str (by decide +kernel) (pa_cons (pv 5) pa_nil))))
    (pss_cons (ps_set (i := 7) sc__law_run.nd rfl (Or.inl rfl) (pe_tup (pa_cons (pv 4) (pa_cons (pv 6) pa_nil))))
    (pss_cons (ps_set (i := 8) sc__law_run.nd rfl (Or.inl rfl) (pe_callB (id := "len") (r := fun xs H Q => ∃ x n, xs = [x] ∧ LenV K x H n ∧ Q (V.int ((n : Nat) : Int)) H) call_len (by rfl) M.T.b_len (by decide +kernel) (pa_cons (pe_call (ok_snap_names M) (hr.mono (by decide)) rfl M.g_snap_names M.k_snap_names M.b_snap_names .nil pass0 (pa_cons (pv 2) pa_nil)) pa_nil)))
    (pss_cons (ps_if (pt_cmpR op_eq (pe_call (ok__law_draw M) (hr.mono (by decide)) rfl M.g__law_draw M.k__law_draw M.b__law_draw .nil pass0 (pa_cons (pv 1) (pa_cons pe_int pa_nil))) pe_int (nomark _)) (pss_cons (ps_expr (pe_call (okL_write_aside M) (hr.mono (by decide)) rfl M.g_write_aside M.k_write_aside M.b_write_aside .nil pass0 (pa_cons (pv 2) (pa_cons (pv 6) pa_nil))))
    (pss_cons (ps_if (PW.pt (pw_or (pt_not (pt_val (pe_call (ok__law_same M) (hr.mono (by decide)) rfl M.g__law_same M.k__law_same M.b__law_same .nil pass0 (pa_cons (pe_call (ok_load M) (hr.mono (by decide)) rfl M.g_load M.k_load M.b_load .nil pass0 (pa_cons (pv 2) pa_nil)) (pa_cons (pv 3) pa_nil))))) (pw_or1 (pt_not (pt_val (pe_call (ok__law_either M) (hr.mono (by decide)) rfl M.g__law_either M.k__law_either M.b__law_either .nil pass0 (pa_cons (pv 1) (pa_cons (pv 2) (pa_cons (pv 3) (pa_cons (pv 3) pa_nil)))))))))) (pss_one (ps_ret pe_bl)) pss_nil)
    (pss_cons (ps_expr (pe_call (okL_name_it M) (hr.mono (by decide)) rfl M.g_name_it M.k_name_it M.b_name_it .nil pass0 (pa_cons (pv 2) (pa_cons (pv 4) pa_nil))))
    (pss_cons (ps_if (PW.pt (pw_or (pt_not (pt_val (pe_call (ok__law_same M) (hr.mono (by decide)) rfl M.g__law_same M.k__law_same M.b__law_same .nil pass0 (pa_cons (pe_call (ok_load M) (hr.mono (by decide)) rfl M.g_load M.k_load M.b_load .nil pass0 (pa_cons (pv 2) pa_nil)) (pa_cons (pv 7) pa_nil))))) (pw_or1 (pt_not (pt_val (pe_call (ok__law_either M) (hr.mono (by decide)) rfl M.g__law_either M.k__law_either M.b__law_either .nil pass0 (pa_cons (pv 1) (pa_cons (pv 2) (pa_cons (pv 3) (pa_cons (pv 7) pa_nil)))))))))) (pss_one (ps_ret pe_bl)) pss_nil)
    (pss_one (ps_if (pt_not (pt_val (pe_call (ok__law_same M) (hr.mono (by decide)) rfl M.g__law_same M.k__law_same M.b__law_same .nil pass0 (pa_cons (pe_call (ok_drop_older M) (hr.mono (by decide)) rfl M.g_drop_older M.k_drop_older M.b_drop_older .nil pass0 (pa_cons (pv 2) (pa_cons (pv 4) pa_nil))) (pa_cons (pv 8) pa_nil))))) (pss_one (ps_ret pe_bl)) pss_nil)))))) (pss_one (ps_if (pt_not (pt_val (pe_call (ok__law_same M) (hr.mono (by decide)) rfl M.g__law_same M.k__law_same M.b__law_same .nil pass0 (pa_cons (pe_call (okL_save M) (hr.mono (by decide)) rfl M.g_save M.k_save M.b_save .nil pass0 (pa_cons (pv 2) (pa_cons (pv 4) (pa_cons (pv 6) pa_nil)))) (pa_cons (pv 8) pa_nil))))) (pss_one (ps_ret pe_bl)) pss_nil)))
    (pss_cons (ps_if (PW.pt (pw_or (pt_not (pt_val (pe_call (ok__law_same M) (hr.mono (by decide)) rfl M.g__law_same M.k__law_same M.b__law_same .nil pass0 (pa_cons (pe_call (ok_load M) (hr.mono (by decide)) rfl M.g_load M.k_load M.b_load .nil pass0 (pa_cons (pe_call (ok_all_lost M) (hr.mono (by decide)) rfl M.g_all_lost M.k_all_lost M.b_all_lost .nil pass0 (pa_cons (pv 2) pa_nil)) pa_nil)) (pa_cons (pv 7) pa_nil))))) (pw_or (pt_not (pt_val (pe_call (ok__law_either M) (hr.mono (by decide)) rfl M.g__law_either M.k__law_either M.b__law_either .nil pass0 (pa_cons (pv 1) (pa_cons (pv 2) (pa_cons (pv 7) (pa_cons (pv 7) pa_nil))))))) (pw_or1 (pt_not (pt_val (pe_call (ok__law_same M) (hr.mono (by decide)) rfl M.g__law_same M.k__law_same M.b__law_same .nil pass0 (pa_cons (pe_call (okL_whole_snap M) (hr.mono (by decide)) rfl M.g_whole_snap M.k_whole_snap M.b_whole_snap .nil pass0 (pa_cons (pv 2) (pa_cons (pe_call (okL_snap_name M) (hr.mono (by decide)) rfl M.g_snap_name M.k_snap_name M.b_snap_name .nil pass0 (pa_cons (pv 4) pa_nil)) pa_nil))) (pa_cons (pv 6) pa_nil))))))))) (pss_one (ps_ret pe_bl)) pss_nil)
    (pss_cons (ps_set (i := 9) sc__law_run.nd rfl (Or.inl rfl) (pe_callTy call_str_int (by rfl) M.T.b_str (by decide +kernel) (pa_cons (pv 4) pa_nil)))
    (pss_cons (ps_while PassesOwn.never (pt_cmpR op_lt (pe_callB (id := "len") (r := fun xs H Q => ∃ x n, xs = [x] ∧ LenV K x H n ∧ Q (V.int ((n : Nat) : Int)) H) call_len (by rfl) M.T.b_len (by decide +kernel) (pa_cons (pv 9) pa_nil)) pe_int (nomark _)) (pss_one (ps_set (i := 9) sc__law_run.nd rfl (Or.inl rfl) (pe_op op_add_str pe_str (pv 9)))))
    (pss_cons (ps_if (PW.pt (pw_or (pt_not (pt_val (pe_call (ok__law_same M) (hr.mono (by decide)) rfl M.g__law_same M.k__law_same M.b__law_same .nil pass0 (pa_cons (pe_call (okL_snap_name M) (hr.mono (by decide)) rfl M.g_snap_name M.k_snap_name M.b_snap_name .nil pass0 (pa_cons (pv 4) pa_nil)) (pa_cons (pe_op op_add_str pe_str (pv 9)) pa_nil))))) (pw_or (pt_not (pt_val (pe_call (ok__law_same M) (hr.mono (by decide)) rfl M.g__law_same M.k__law_same M.b__law_same .nil pass0 (pa_cons (pe_call (okL_number_of M) (hr.mono (by decide)) rfl M.g_number_of M.k_number_of M.b_number_of .nil pass0 (pa_cons (pe_op op_add_str pe_str (pv 9)) pa_nil)) (pa_cons (pv 4) pa_nil))))) (pw_or1 (pt_cmpR op_isnot_bl (pe_call (ok_is_snap M) (hr.mono (by decide)) rfl M.g_is_snap M.k_is_snap M.b_is_snap .nil pass0 (pa_cons (pe_op op_add_str pe_str (pv 9)) pa_nil)) pe_bl (nomark _)))))) (pss_one (ps_ret pe_bl)) pss_nil)
    (pss_cons (ps_if (PW.pt (pw_or (pt_not (pt_val (pe_call (ok__law_same M) (hr.mono (by decide)) rfl M.g__law_same M.k__law_same M.b__law_same .nil pass0 (pa_cons (pe_call (ok_snap_names M) (hr.mono (by decide)) rfl M.g_snap_names M.k_snap_names M.b_snap_names .nil pass0 (pa_cons (pv 2) pa_nil)) (pa_cons (pe_lst (pa_cons (pe_op op_add_str pe_str (pv 9)) pa_nil)) pa_nil))))) (pw_or1 (pt_not (pt_val (pe_call (ok__law_same M) (hr.mono (by decide)) rfl M.g__law_same M.k__law_same M.b__law_same .nil pass0 (pa_cons (pe_call (ok_clean M) (hr.mono (by decide)) rfl M.g_clean M.k_clean M.b_clean .nil pass0 (pa_cons (pv 2) pa_nil)) (pa_cons pe_int pa_nil)))))))) (pss_one (ps_ret pe_bl)) pss_nil)
    (pss_one (ps_set (i := 3) sc__law_run.nd rfl (Or.inl rfl) (pv 7))))))))))))))
    (pss_cons (ps_set (i := 10) sc__law_run.nd rfl (Or.inl rfl) (pe_meth0 (pv 2) M.clD M.m_Disk_copy (ok_Disk_copy M) (hr.mono (by decide)) M.b_Disk_copy .nil pass0))
    (pss_cons (ps_expr (pe_meth (pv 10) M.clD M.m_Disk_make (okL_Disk_make M) (hr.mono (by decide)) M.b_Disk_make .nil pass0 (pa_cons (pe_call (okL_snap_name M) (hr.mono (by decide)) rfl M.g_snap_name M.k_snap_name M.b_snap_name .nil pass0 (pa_cons (pe_op op_add (pv 4) pe_int) pa_nil)) pa_nil)))
    (pss_cons (ps_expr (pe_meth (pv 10) M.clD M.m_Disk_write (okL_Disk_write M) (hr.mono (by decide)) M.b_Disk_write .nil pass0 (pa_cons (pe_call (okL_snap_name M) (hr.mono (by decide)) rfl M.g_snap_name M.k_snap_name M.b_snap_name .nil pass0 (pa_cons (pe_op op_add (pv 4) pe_int) pa_nil)) (pa_cons pe_str pa_nil))))
    (pss_cons (ps_if (PW.pt (pw_or (pt_cmpR op_notN (pe_call (okL_whole_snap M) (hr.mono (by decide)) rfl M.g_whole_snap M.k_whole_snap M.b_whole_snap .nil pass0 (pa_cons (pv 10) (pa_cons (pe_call (okL_snap_name M) (hr.mono (by decide)) rfl M.g_snap_name M.k_snap_name M.b_snap_name .nil pass0 (pa_cons (pe_op op_add (pv 4) pe_int) pa_nil)) pa_nil))) pe_non (nomark _)) (pw_or (pt_not (pt_val (pe_call (ok__law_same M) (hr.mono (by decide)) rfl M.g__law_same M.k__law_same M.b__law_same .nil pass0 (pa_cons (pe_call (ok_load M) (hr.mono (by decide)) rfl M.g_load M.k_load M.b_load .nil pass0 (pa_cons (pv 10) pa_nil)) (pa_cons (pv 3) pa_nil))))) (pw_or (pt_not (pt_val (pe_call (ok__law_same M) (hr.mono (by decide)) rfl M.g__law_same M.k__law_same M.b__law_same .nil pass0 (pa_cons (pe_call (ok_clean M) (hr.mono (by decide)) rfl M.g_clean M.k_clean M.b_clean .nil pass0 (pa_cons (pv 10) pa_nil)) (pa_cons pe_int pa_nil))))) (pw_or1 (pt_not (pt_val (pe_call (ok__law_same M) (hr.mono (by decide)) rfl M.g__law_same M.k__law_same M.b__law_same .nil pass0 (pa_cons (pe_meth0 (pv 10) M.clD M.m_Disk_names (ok_Disk_names M) (hr.mono (by decide)) M.b_Disk_names .nil pass0) (pa_cons (pe_meth0 (pv 2) M.clD M.m_Disk_names (ok_Disk_names M) (hr.mono (by decide)) M.b_Disk_names .nil pass0) pa_nil)))))))))) (pss_one (ps_ret pe_bl)) pss_nil)
    (pss_cons (ps_for PassesOwn.never rfl (pi_list (pe_lst (pa_cons pe_str (pa_cons pe_str (pa_cons pe_str (pa_cons pe_str (pa_cons pe_str pa_nil))))))) (pg_name (i := 11) sc__law_run.nd rfl (Or.inl rfl)) (pss_one (ps_if (PW.pt (pw_or (pt_cmpR op_isnot_bl (pe_call (ok_is_snap M) (hr.mono (by decide)) rfl M.g_is_snap M.k_is_snap M.b_is_snap .nil pass0 (pa_cons (pv 11) pa_nil)) pe_bl (nomark _)) (pw_or1 (pt_cmpR op_ne (pe_call (ok__law_refused M) (hr.mono (by decide)) rfl M.g__law_refused M.k__law_refused M.b__law_refused .nil pass0 (pa_cons pe_int (pa_cons (pv 2) (pa_cons (pv 11) (pa_cons pe_int pa_nil))))) pe_str (nomark _))))) (pss_one (ps_ret pe_bl)) pss_nil)))
    (pss_cons (ps_set (i := 12) sc__law_run.nd rfl (Or.inl rfl) (pe_call (ok_load M) (hr.mono (by decide)) rfl M.g_load M.k_load M.b_load .nil pass0 (pa_cons (pv 2) pa_nil)))
    (pss_cons (ps_if (PW.pt (pw_or (pt_cmpR op_ne (pe_call (ok__law_refused M) (hr.mono (by decide)) rfl M.g__law_refused M.k__law_refused M.b__law_refused .nil pass0 (pa_cons pe_int (pa_cons (pv 2) (pa_cons (pe_call (ok__law_pick M) (hr.mono (by decide)) rfl M.g__law_pick M.k__law_pick M.b__law_pick .nil pass0 (pa_cons (pv 1) (pa_cons (pe_lst (pa_cons (pe_un un_neg pe_int) (pa_cons pe_int (pa_cons pe_bl pa_nil)))) pa_nil))) (pa_cons pe_int pa_nil))))) pe_str (nomark _)) (pw_or (pt_cmpR op_ne (pe_call (ok__law_refused M) (hr.mono (by decide)) rfl M.g__law_refused M.k__law_refused M.b__law_refused .nil pass0 (pa_cons pe_int (pa_cons (pv 2) (pa_cons (pe_un un_neg pe_int) (pa_cons pe_str pa_nil))))) pe_str (nomark _)) (pw_or1 (pt_cmpR op_ne (pe_call (ok__law_refused M) (hr.mono (by decide)) rfl M.g__law_refused M.k__law_refused M.b__law_refused .nil pass0 (pa_cons pe_int (pa_cons (pv 2) (pa_cons (pe_op op_add (pv 4) pe_int) (pa_cons pe_str pa_nil))))) pe_str (nomark _)))))) (pss_one (ps_ret pe_bl)) pss_nil)
    (pss_one (ps_ret (pe_call (ok__law_same M) (hr.mono (by decide)) rfl M.g__law_same M.k__law_same M.b__law_same .nil pass0 (pa_cons (pe_call (ok_load M) (hr.mono (by decide)) rfl M.g_load M.k_load M.b_load .nil pass0 (pa_cons (pv 2) pa_nil)) (pa_cons (pv 12) pa_nil)))))))))))))))))), ?_⟩
    try dsimp only [cxOf, Cx.nox]
    obtain ⟨sa, ns, rfl, hS, hn, q⟩ := h
    refine w_start (σ' := [some (.ref sa), none, none, none, none, none, none, none, none, none, none, none, none]) rfl ?_
    (repeat array_get_dec)
    refine ⟨sa, ns, rfl, hS, hn, fun H1 p l s1 _ _ pl => ?_⟩
    (repeat array_get_dec)
    intro a da ha hda hne
    refine ⟨a, da, rfl, upd_same, fun H2 fp dk fr => ⟨rfl, ?_⟩⟩
    obtain ⟨pl2, np1, np2⟩ : PoolL H2 p l ∧ p ∉ fp ∧ l ∉ fp := by
      have pl' := (pl.new (o := .own a) hda).new (o := .ins M.CD da []) (q := a) (by rw [upd_ne (Ne.symm hne)]; exact ha)
      obtain ⟨⟨xs, hp⟩, ys, hl⟩ := pl'.at
      have m1 : p ∉ [a] := by
        simp
        intro z
        rw [z, upd_same] at hp
        cases hp
      have m2 : l ∉ [a] := by
        simp
        intro z
        rw [z, upd_same] at hl
        cases hl
      exact ⟨pl'.kp (fun o e => fr.1 _ _ e m1) (fun o e => fr.1 _ _ e m2), fun m => (fr.2 p m).elim m1 fun z => (by rw [hp] at z; cases z), fun m => (fr.2 l m).elim m2 fun z => (by rw [hl] at z; cases z)⟩
    clear fr pl ha hda
    (repeat array_get_dec)
    refine ⟨a, fp, noneD, rfl, dk, cap_none.na, fun vt H3 s3 lo3 => ?_⟩
    rw [show loadV (viewD noneD) = none from load_nil] at lo3
    obtain rfl : vt = .non := lo3
    have dk3 := dk.same s3
    (repeat array_get_dec)
    refine ⟨3, _, _, _, .unk, rfl, .name_it a fp noneD dk3 _ (.int 3) (cap_none.less (by omega)) rfl, fun H4 s4 => ?_⟩
    have dk4 := dk3.same s4
    unfold wordK
    (repeat array_get_dec)
    refine ⟨4, _, _, _, .unk, rfl, .whole a fp noneD dk4 _ (tl (Str.ofString "snap.000001")) rfl, fun H5 s5 => ?_⟩
    have I0 : RunI M.CD H5 p l a fp noneD .non none 0 60 := ⟨((pl2.keep s3).keep s4).keep s5, dk4.same s5, np1, np2, rfl, stb_none⟩
    clear dk4 s4 s5 dk3 s3 dk pl2
    unfold wordK
    (repeat array_get_dec)
    refine ⟨p, l, 4, rfl, I0.pool, by omega, by omega, fun v H6 v0 v4 pl6 sb6 => ?_⟩
    obtain ⟨nv, rfl⟩ := Int.eq_ofNat_of_zero_le v0
    have I1 := I0.drawn pl6 sb6
    clear I0 pl6 sb6
    (repeat array_get_dec)
    have ev : (1 + (nv : Int)).toNat = 1 + nv := by omega
    try rw [ev]
    refine for_range (lo := 0) (n := 1 + nv) (fun j σ H' => ∃ v5 v6 v7 v8 v9 fp D vo o i num, σ = [some (.ref sa), some (.ref p), some (.ref a), some vo, some (.int ((num : Nat) : Int)), v5, v6, v7, v8, v9, none, none, none] ∧ RunI M.CD H' p l a fp D vo o i (60 - 8 * j) ∧ num ≤ 9 * j ∧ (j = 0 → o = none) ∧ (1 ≤ j → ∃ t, o = some (num, t))) ⟨_, _, _, _, _, fp, noneD, _, none, 0, 0, rfl, I1, by omega, fun _ => rfl, fun z => by omega⟩ ?_ ?_
    · rintro j σ H7 hj ⟨v5, v6, v7, v8, v9, fp, D, vo, o, i, num, rfl, I, hnum, ho0, ho1⟩
      have hj4 : j < 4 := by omega
      rw [Int.zero_add]
      (repeat array_get_dec)
      refine ⟨p, l, 9, rfl, I.pool, by omega, by omega, fun d H8 d0 d9 pl8 sb8 => ?_⟩
      have I2 := I.drawn pl8 sb8
      clear I pl8 sb8
      (repeat array_get_dec)
      refine w_ifc ?_
      obtain ⟨dn, rfl⟩ := Int.eq_ofNat_of_zero_le d0
      obtain ⟨m, em, m40, old, mle⟩ : ∃ m : Nat, ((num : Int) + (dn : Int) + (if decide ((0 : Int) < (j : Int)) = true then 1 else 0)) = (m : Int) ∧ m < 40 ∧ olds o m ∧ m ≤ 9 * (j + 1) := by
        by_cases hj0 : j = 0
        · refine ⟨num + dn, ?_, by omega, fun a b z => (by rw [ho0 hj0] at z; cases z), by omega⟩
          rw [if_neg (by rw [decide_eq_true_eq]; omega)]; omega
        · refine ⟨num + dn + 1, ?_, by omega, fun a b z => ?_, by omega⟩
          · rw [if_pos (by rw [decide_eq_true_eq]; omega)]; omega
          · obtain ⟨t, ht⟩ := ho1 (by omega)
            rw [ht] at z
            cases z
            omega
      refine ⟨_, _, rfl, rfl, ?_⟩
      show gName 4 (V.int ((num : Int) + (dn : Int) + _)) _ _ _
      rw [em]
      (repeat array_get_dec)
      refine w_addS (by decide +kernel) ?_
      (repeat array_get_dec)
      refine w_addS (by decide +kernel) ?_
      (repeat array_get_dec)
      refine ⟨by show 4 ≤ sizeLine; decide, fun tr htr => ?_⟩
      have I3 := I2.same (same_upd (o := .lst textS) (Same.refl H8) htr)
      have ntp : tr ≠ p := fun z => by
        obtain ⟨xs, hp⟩ := I2.pool.lst
        rw [z, hp] at htr; cases htr
      (repeat array_get_dec)
      refine ⟨p, tr, l, textS, rfl, I3.pool, upd_same, ntp, by decide, by decide, fun tv H9 mt pl9 sb9 => ?_⟩
      have I4 := I3.drawn pl9 sb9
      clear I2 I3 pl9 sb9 htr ntp
      obtain ⟨t0, rfl, gt0, lt0⟩ := text_in mt
      (repeat array_get_dec)
      refine w_strOf (log_small j (by omega)) ?_
      (repeat array_get_dec)
      have lj : (TL.numL j).length ≤ 6 := TL.numL_len (by decide) (by omega)
      have ej : Str.ofString (toString ((j : Nat) : Int)) = mkS (TL.numL j) := TL.ext_tl (by rw [TL.tl_num])
      rw [ej]
      (repeat array_get_dec)
      refine w_addS (i := mkS t0) (j := mkS (TL.numL j)) (by rw [len_tl (mkS t0), len_tl (mkS (TL.numL j)), sizeLine_eq]; show t0.length + (TL.numL j).length ≤ _; omega) ?_
      rw [mkS_app]
      have gu : goodT (t0 ++ TL.numL j) := by
        unfold goodT
        rw [List.all_append, Bool.and_eq_true]
        exact ⟨gt0, good_num j⟩
      have lu : (t0 ++ TL.numL j).length ≤ 20 := by rw [List.length_append]; omega
      generalize t0 ++ TL.numL j = u at *
      have lu2 : (mkS u).length ≤ sizeLine := by rw [len_tl, sizeLine_eq]; show u.length ≤ _; omega
      (repeat array_get_dec)
      refine ⟨by show 2 ≤ sizeLine; decide, fun x hx => ?_⟩
      have mi : MidI M.CD (upd H9 x (.tup [.int (m : Int), sv u])) p l a fp D vo (.ref x) o (some (m, u)) := by
        have I5 := I4.same (same_upd (o := .tup [.int (m : Int), sv u]) (Same.refl H9) hx)
        exact ⟨I5.pool, I5.dk, I5.np, I5.nl, I5.lo, x, rfl, upd_same⟩
      have st := I4.st
      clear I4
      have stx : upd H9 x (.tup [.int (m : Int), sv u]) = upd H9 x (.tup [.int (m : Int), .str (mkS u)]) := rfl
      generalize upd H9 x (.tup [.int (m : Int), sv u]) = G0 at *
      (repeat array_get_dec)
      refine ⟨a, fp, D, rfl, mi.dk, st.cp.na, fun r G1 s1 hr1 h1 => ?_⟩
      have mi1 := mi.same s1
      (repeat array_get_dec)
      rw [List.length_map]
      (repeat array_get_dec)
      refine ⟨p, l, 2, rfl, mi1.pool, by omega, by omega, fun e G2 e0 e2 pl2 sb2 => ?_⟩
      have mi2 := mi1.drawn pl2 sb2
      clear mi mi1 s1 hr1 h1 pl2 sb2
      obtain ⟨S3, el3, le1⟩ := (st.less (m := 60 - 8 * (j + 1) + 6) (by omega)).done (n := m) (u := u) (by omega) gu (by omega) old m40
      obtain ⟨⟨k0, l0, n0, sa0, c0, ts0, efp, ⟨_, ⟨dx0, hi0⟩, _⟩⟩, _⟩ := id mi2.dk
      (repeat array_get_dec)
      refine ite2 (fun hb => ?b1) (fun hb => ?b2)
      case' b2 =>
        (repeat array_get_dec)
        refine ⟨a, fp, D, m, u, rfl, mi2.dk, by omega, by omega, (st.cp.less (by rw [st.nm]; have := (Bo_view st.kt).2.2; omega)), gu, fun G3 fp3 dk3 F3 => ?_⟩
        have J := mi2.disk dk3 F3
        (repeat array_get_dec)
        refine .inl ⟨_, _, .int (((snapV (viewD D)).length : Nat) : Int), rfl, by rw [el3]; exact .int _, .int _, trivial, fun G4 s4 => ?_⟩
        have J := J.same s4
        (repeat array_get_dec)
      case' b1 =>
        obtain ⟨a1, a2, a3, a4, a5, a6, a7, a8, a9⟩ := (st.less (m := 60 - 8 * (j + 1) + 4) (by omega)).aside (u := u) (by omega) gu (by omega)
        obtain ⟨n1, n2, n3, n4, n5, n6, n7, n8⟩ := (st.less (m := 60 - 8 * (j + 1) + 5) (by omega)).named (n := m) (u := u) (by omega) gu (by omega) old m40
        (repeat array_get_dec)
        refine ⟨a, fp, D, u, rfl, mi2.dk, by omega, st.cp.less (by omega), gu, fun G3 fp3 dk3 F3 => ?_⟩
        have J1 := mi2.disk dk3 F3
        (repeat array_get_dec)
        refine ⟨a, fp3, _, rfl, J1.dk, a3.na, fun vt G4 s4 lo4 => ?_⟩
        rw [a1] at lo4
        have J2 := J1.same s4
        obtain ⟨_, ok0, dp0⟩ := lo4.dp
        (repeat array_get_dec)
        refine .inl ⟨vt, vo, _, rfl, dp0 _ _ lo4, dp0 _ _ J2.lo, ok0, fun G5 s5 => ?_⟩
        have J3 := J2.same s5
        (repeat array_get_dec)
        refine ⟨p, l, a, fp3, _, vo, vo, o, o, rfl, J3.pool, J3.dk, J3.np, a2, J3.lo, J3.lo, fun G6 pl6 sb6 => ?_⟩
        have J4 := J3.drawn pl6 sb6
        (repeat array_get_dec)
        refine ⟨a, fp3, _, m, rfl, J4.dk, a3.less (by omega), by omega, asideD_has (frame63 gu), fun G7 fp7 dk7 F7 => ?_⟩
        have J5 := J4.disk dk7 F7
        (repeat array_get_dec)
        refine ⟨a, fp7, _, rfl, J5.dk, n3.na, fun vt2 G8 s8 lo8 => ?_⟩
        rw [n1] at lo8
        have J6 := J5.same s8
        obtain ⟨_, ok2, dp2⟩ := lo8.dp
        (repeat array_get_dec)
        refine .inl ⟨vt2, .ref x, _, rfl, dp2 _ _ lo8, dp2 _ _ J6.lw, ok2, fun G9 s9 => ?_⟩
        have J7 := J6.same s9
        (repeat array_get_dec)
        refine ⟨p, l, a, fp7, _, vo, .ref x, o, some (m, u), rfl, J7.pool, J7.dk, J7.np, n2, J7.lo, J7.lw, fun G10 pl10 sb10 => ?_⟩
        have J8 := J7.drawn pl10 sb10
        (repeat array_get_dec)
        refine ⟨a, fp7, _, (m : Int), rfl, J8.dk, n3.less (by omega), fun G3 fp3 dk3 F3 => ?_⟩
        have J := J8.disk dk3 F3
        (repeat array_get_dec)
        refine .inl ⟨_, _, .int (((snapV (viewD D)).length : Nat) : Int), rfl, by rw [el3]; exact .int _, .int _, trivial, fun G4 s4 => ?_⟩
        have J := J.same s4
        (repeat array_get_dec)
      all_goals
        clear st old
        generalize olderD (nameD (asideD D (frameL u)) m) (m : Int) = D3 at *
        have h12 : 12 ≤ 60 - 8 * (j + 1) := by omega
        obtain ⟨L1, L2⟩ := S3.lost h12
        obtain ⟨W1, W2⟩ := S3.whole
        have ldS := S3.load
        refine ⟨a, fp3, D3, rfl, J.dk, L2.bd, fun b H5 fpb dkb s5 frb => ?_⟩
        have Ja := J.same s5
        (repeat array_get_dec)
        refine ⟨b, fpb, _, rfl, dkb, L2.na, fun vtt H6 s6 lo6 => ?_⟩
        rw [L1] at lo6
        have Jb := Ja.same s6
        obtain ⟨_, okt, dpt⟩ := lo6.dp
        (repeat array_get_dec)
        refine .inl ⟨vtt, .ref x, _, rfl, dpt _ _ lo6, dpt _ _ Jb.lw, okt, fun H7 s7 => ?_⟩
        have Jc := Jb.same s7
        (repeat array_get_dec)
        refine ⟨p, l, a, fp3, D3, .ref x, .ref x, some (m, u), some (m, u), rfl, Jc.pool, Jc.dk, Jc.np, S3.eth h12, Jc.lw, Jc.lw, fun H8 pl8 sb8 => ?_⟩
        have Jd := Jc.drawn pl8 sb8
        (repeat array_get_dec)
        refine ⟨m, rfl, by omega, ?_⟩
        (repeat array_get_dec)
        refine ⟨a, fp3, D3, snapL m, rfl, Jd.dk, W1, fun H9 s9 => ?_⟩
        rw [W2]
        have Je := Jd.same s9
        unfold vOpt
        (repeat array_get_dec)
        refine .inl ⟨_, _, .str (mkS u), rfl, .str _, .str _, trivial, fun H10 s10 => ?_⟩
        have Jf := Je.same s10
        clear Ja Jb Jc Jd Je s5 s6 s7 s9 s10 sb8 pl8
        (repeat array_get_dec)
        refine w_strOf (log_small m (by omega)) ?_
        (repeat array_get_dec)
        have l6 : (TL.numL m).length ≤ 6 := TL.numL_len (by decide) (by omega)
        have l1 : 1 ≤ (TL.numL m).length := by
          have := TL.numL_ne m
          cases e : TL.numL m with
          | nil => exact absurd e this
          | cons _ _ => simp
        have ef0 : Str.ofString (toString ((m : Nat) : Int)) = mkS (figL 0 m) := TL.ext_tl (by rw [TL.tl_num]; rfl)
        rw [ef0]
        refine w_while ⟨fun mm σ H' => ∃ k, mm = 6 - k ∧ k + (TL.numL m).length ≤ 6 ∧ H' = H10 ∧ σ = [some (.ref sa), some (.ref p), some (.ref a), some vo, some (.int (m : Int)), some (.int (j : Int)), some (.str (mkS u)), some (.ref x), some (.int (((snapV (viewD D)).length : Nat) : Int)), some (.str (mkS (figL k m))), none, none, none], ⟨6, 0, rfl, by omega, rfl, rfl⟩, ?_⟩
        rintro mm σ H' ⟨k, rfl, hk, rfl, rfl⟩
        have lk : (mkS (figL k m)).length = k + (TL.numL m).length := by rw [len_tl]; show (figL k m).length = _; unfold figL; rw [List.length_append, List.length_replicate]
        have lz : (mkS (figL k m)).length ≤ sizeLine := by rw [lk, sizeLine_eq]; omega
        (repeat array_get_dec)
        rw [lk]
        refine ite2 (fun h6 => ?_) (fun h6 => ?_)
        · have h6' : k + (TL.numL m).length < 6 := by have := of_decide_eq_true h6; omega
          refine ⟨_, fun _ _ z => z, ?_⟩
          (repeat array_get_dec)
          have c0 : (Str.ofString "0").length ≤ 1 := by decide +kernel
          refine w_addS (fit_add c0 (Nat.le_of_eq lk) (by omega)) ?_
          rw [fig_next]
          (repeat array_get_dec)
          exact ⟨6 - (k + 1), by omega, k + 1, rfl, by omega, rfl, rfl⟩
        · have h6' : k = 6 - (TL.numL m).length := by
            have : ¬ ((k + (TL.numL m).length : Nat) : Int) < 6 := fun z => h6 (decide_eq_true z)
            omega
          have c4 : (Str.ofString "snap.").length ≤ 5 := by decide +kernel
          have ft : Str.ofString "snap." ++ mkS (figL k m) = mkS (snapL m) := by rw [h6']; exact fig_txt
          have pl := snap_len5 (n := m) (by omega)
          (repeat array_get_dec)
          refine ⟨m, rfl, by omega, ?_⟩
          (repeat array_get_dec)
          refine w_addS (fit_add c4 (Nat.le_of_eq lk) (by omega)) ?_
          rw [ft]
          (repeat array_get_dec)
          refine .inl ⟨_, _, .str (mkS (snapL m)), rfl, .str _, .str _, trivial, fun H3 s3 => ?_⟩
          have Jg := Jf.same s3
          (repeat array_get_dec)
          refine w_addS (fit_add c4 (Nat.le_of_eq lk) (by omega)) ?_
          rw [ft]
          (repeat array_get_dec)
          refine ⟨snapL m, rfl, by omega, snap_is (by omega), fun H4 s4 => ?_⟩
          rw [snap_val]
          have Jh := Jg.same s4
          (repeat array_get_dec)
          refine .inl ⟨_, _, .int (m : Int), rfl, .int _, .int _, trivial, fun H5 s5 => ?_⟩
          have Ji := Jh.same s5
          (repeat array_get_dec)
          refine w_addS (fit_add c4 (Nat.le_of_eq lk) (by omega)) ?_
          rw [ft]
          (repeat array_get_dec)
          refine ⟨snapL m, rfl, by omega, fun H6 s6 => ?_⟩
          rw [snap_is (n := m) (by omega)]
          have Jj := Ji.same s6
          clear Jg Jh Ji s3 s4 s5 s6
          (repeat array_get_dec)
          refine ⟨a, fp3, D3, rfl, Jj.dk, S3.cp.na, fun r H7 s7 hr7 h7 => ?_⟩
          have Jk := Jj.same s7
          rw [S3.snaps] at h7
          (repeat array_get_dec)
          refine w_addS (fit_add c4 (Nat.le_of_eq lk) (by omega)) ?_
          rw [ft]
          (repeat array_get_dec)
          refine ⟨by show 1 ≤ sizeLine; decide, fun r3 hr3 => ?_⟩
          have s11 := same_upd (o := .lst [sv (snapL m)]) (Same.refl H7) hr3
          have Jl := Jk.same s11
          refine .inl ⟨.ref r, .ref r3, .list [.str (mkS (snapL m))], rfl, .lst (SqL.of (s11 _ _ h7)) (.cons (.str _) .nil), .lst (SqL.of upd_same) (.cons (.str _) .nil), ⟨by show 1 ≤ 1000000; decide, fun y m => by obtain rfl := List.mem_singleton.mp m; trivial⟩, fun H12 s12 => ?_⟩
          have Jm := Jl.same s12
          (repeat array_get_dec)
          refine ⟨a, fp3, D3, rfl, Jm.dk, S3.cp.less (by rw [S3.nm]; show 1 + 4 ≤ _; omega), fun H13 fp13 dk13 F13 => ?_⟩
          have Jn := Jm.disk dk13 F13
          rw [S3.clean.2] at Jn
          rw [S3.clean.1]
          (repeat array_get_dec)
          refine .inl ⟨_, _, .int 0, rfl, .int _, .int _, trivial, fun H14 s14 => ?_⟩
          have Jo := Jn.same s14
          (repeat array_get_dec)
          exact ⟨_, _, _, _, _, fp13, D3, .ref x, some (m, u), D.next, m, rfl, ⟨Jo.pool, Jo.dk, Jo.np, Jo.nl, Jo.lw, S3⟩, mle, fun z => (by omega), fun _ => ⟨u, rfl⟩⟩
    · rintro σ H7 ⟨v5, v6, v7, v8, v9, fp, D, vo, o, i, num, rfl, I, hnum, ho0, ho1⟩
      obtain ⟨t, rfl⟩ := ho1 (by omega)
      have S := I.st.less (m := 20 + 2) (by omega)
      have n40 : num + 1 < 40 := by omega
      obtain ⟨f1, f2, f3, f4, f5, f6, f7, f8, f9, f10⟩ := half_facts S n40
      obtain ⟨⟨k0, l0, n0, sa0, c0, ts0, efp, ⟨_, ⟨dx0, hi0⟩, _⟩⟩, _⟩ := id I.dk
      (repeat array_get_dec)
      refine ⟨a, fp, D, rfl, I.dk, fun b H8 fpb dkb s8 frb => ?_⟩
      have sm : ∀ {H' : Hp} {f : List Addr}, Fr fpb f H8 H' → Same H7 H' := fun F b' o' e' => F.1 _ _ (s8 _ _ e') fun z => by rw [frb _ z] at e'; cases e'
      obtain ⟨⟨k1, l1, n1, sa1, c1, ts1, efp1, ⟨_, ⟨dx1, hi1⟩, _⟩⟩, _⟩ := id dkb
      (repeat array_get_dec)
      refine ⟨num + 1, rfl, by omega, ?_⟩
      (repeat array_get_dec)
      refine ⟨b, snapL (num + 1), fpb, D, rfl, dkb, f2.bd, f1, fun H9 fp9 dk9 F9 => ?_⟩
      have dk9 : DiskAt M.CD H9 b fp9 (halfA D num) := dk9
      obtain ⟨⟨k2, l2, n2, sa2, c2, ts2, efp2, ⟨_, ⟨dx2, hi2⟩, _⟩⟩, _⟩ := id dk9
      (repeat array_get_dec)
      refine ⟨num + 1, rfl, by omega, ?_⟩
      (repeat array_get_dec)
      refine ⟨b, snapL (num + 1), halfL, fp9, halfA D num, rfl, dk9, f4.bd, f3, fun H10 fp10 dk10 F10 => ?_⟩
      have dk10 : DiskAt M.CD H10 b fp10 (halfD D num) := dk10
      have Fh := F9.trans F10
      (repeat array_get_dec)
      refine ⟨num + 1, rfl, by omega, ?_⟩
      (repeat array_get_dec)
      refine ⟨b, fp10, halfD D num, snapL (num + 1), rfl, dk10, f6, fun H11 s11 => ?_⟩
      rw [f7]
      have dk11 := dk10.same s11
      have Fi := Fh.trans (Fr.same s11)
      unfold vOpt
      (repeat array_get_dec)
      refine ⟨b, fp10, halfD D num, rfl, dk11, f4.na, fun vt H12 s12 lo12 => ?_⟩
      rw [f8] at lo12
      have dk12 := dk11.same s12
      have Fj := Fi.trans (Fr.same s12)
      have I12 := I.same (sm Fj)
      obtain ⟨_, okt, dpt⟩ := lo12.dp
      (repeat array_get_dec)
      refine .inl ⟨vt, vo, _, rfl, dpt _ _ lo12, dpt _ _ I12.lo, okt, fun H13 s13 => ?_⟩
      have dk13 := dk12.same s13
      have Fk := Fj.trans (Fr.same s13)
      (repeat array_get_dec)
      refine ⟨b, fp10, halfD D num, rfl, dk13, f4.less (by omega), fun H14 fp14 dk14 F14 => ?_⟩
      rw [f9]
      have Fl := Fk.trans F14
      (repeat array_get_dec)
      refine .inl ⟨_, _, .int 1, rfl, .int _, .int _, trivial, fun H15 s15 => ?_⟩
      have dk15 := dk14.same s15
      have Fm := Fl.trans (Fr.same s15)
      have I15 := I.same (sm Fm)
      obtain ⟨⟨k3, l3, n3, sa3, c3, ts3, efp3, ⟨_, ⟨dx3, hi3⟩, _⟩⟩, _⟩ := id dk15
      obtain ⟨⟨k4, l4, n4, sa4, c4, ts4, efp4, ⟨_, ⟨dx4, hi4⟩, _⟩⟩, _⟩ := id I15.dk
      clear dk9 dk10 dk11 dk12 dk13 dk14 Fh Fi Fj Fk Fl F9 F10 F14 s11 s12 s13 s15 lo12 I12 hi0 hi1 hi2
      (repeat array_get_dec)
      refine ⟨b, fp14, _, rfl, dk15.1, fun r hr => ?_⟩
      rw [f10]
      have q1 : upd H15 r (.lst ((srt (D.names.map (·.1))).map sv)) r = some (.lst ((srt (D.names.map (·.1))).map sv)) := upd_same
      have s16 := same_upd (o := .lst ((srt (D.names.map (·.1))).map sv)) (Same.refl H15) hr
      have I16 := I15.same s16
      have hi5 := s16 _ _ hi4
      generalize upd H15 r (.lst ((srt (D.names.map (·.1))).map sv)) = H16 at *
      (repeat array_get_dec)
      refine ⟨a, fp, D, rfl, I16.dk.1, fun r2 hr2 => ?_⟩
      have s17 := same_upd (o := .lst ((srt (D.names.map (·.1))).map sv)) (Same.refl H16) hr2
      have I17 := I16.same s17
      refine .inl ⟨.ref r, .ref r2, .list ((srt (D.names.map (·.1))).map fun x => PyData.str (mkS x)), rfl, .lst (SqL.of (s17 _ _ q1)) (dp_texts _), .lst (SqL.of upd_same) (dp_texts _), ⟨by rw [List.length_map, (srt_perm _).length_eq, List.length_map, I.st.nm]; show 1 ≤ 1000000; decide, fun y my => by obtain ⟨_, _, rfl⟩ := List.mem_map.mp my; trivial⟩, fun H18 s18 => ?_⟩
      have I18 := I17.same s18
      clear I15 I16 I17 s16 s17 s18 q1 hi3 hi4 hi5 dk15 Fm hr hr2 dkb frb s8
      (repeat array_get_dec)
      refine ⟨by show 5 ≤ sizeLine; decide, fun rw1 hrw => ?_⟩
      have s19 := same_upd (o := .lst wrongV) (Same.refl H18) hrw
      have I19 := I18.same s19
      have g19 : upd H18 rw1 (.lst wrongV) rw1 = some (.lst wrongV) := upd_same
      have nrp : rw1 ≠ p := fun z => by
        obtain ⟨xs, hp⟩ := I18.pool.lst
        rw [z, hp] at hrw; cases hrw
      clear I18 s19 hrw
      generalize hG : upd H18 rw1 (.lst wrongV) = H19 at *
      have hG' : upd H18 rw1 (.lst [.str (Str.ofString "snap.new"), .str (Str.ofString "snap.12345"), .str (Str.ofString "snaps.000001"), .str (Str.ofString "log.000001"), .str (Str.ofString "")]) = H19 := hG
      rw [hG']
      clear hG hG'
      (repeat array_get_dec)
      refine for_list (K := K) (a := rw1) (xs := wrongV) (fun q1 σ H' => ∃ v11, σ = [some (.ref sa), some (.ref p), some (.ref a), some vo, some (.int (num : Int)), v5, v6, v7, v8, v9, some (.ref b), v11, none] ∧ Same H19 H') ⟨_, rfl, Same.refl _⟩ ?_ ?_ ?_
      · rintro q1 σ H' _ ⟨v11, rfl, sH⟩
        exact SqL.of (sH _ _ g19)
      · rintro q1 vw σ H' hv ⟨v11, rfl, sH⟩
        obtain ⟨lw, rfl, hlw, hno⟩ := wrong_in (List.mem_of_getElem? hv)
        have Ix := I19.same sH
        (repeat array_get_dec)
        refine ⟨lw, rfl, hlw, fun H20 s20 => ?_⟩
        rw [hno]
        (repeat array_get_dec)
        refine ⟨1, _, _, _, .pap, rfl, .number _ _ lw hlw hno, fun H21 s21 => ?_⟩
        unfold wordK
        (repeat array_get_dec)
        exact ⟨_, rfl, (sH.trans s20).trans s21⟩
      · rintro σ H' ⟨v11, rfl, sH⟩
        have I20 := I19.same sH
        (repeat array_get_dec)
        refine ⟨a, fp, D, rfl, I20.dk, I20.st.cp.na, fun vb H21 s21 lob => ?_⟩
        rw [I20.st.load] at lob
        have I21 := I20.same s21
        (repeat array_get_dec)
        refine ⟨by show 3 ≤ sizeLine; decide, fun r5 hr5 => ?_⟩
        have I22 := I21.same (same_upd (o := .lst badV) (Same.refl H21) hr5)
        have nr5 : r5 ≠ p := fun z => by
          obtain ⟨xs, hp⟩ := I21.pool.lst
          rw [z, hp] at hr5; cases hr5
        have vbx : LoadAt (upd H21 r5 (.lst badV)) vb (some (num, t)) := lob.same (same_upd (Same.refl H21) hr5)
        (repeat array_get_dec)
        refine ⟨p, r5, l, badV, rfl, I22.pool, upd_same, nr5, by decide, by decide, fun vv H23 mv pl23 sb23 => ?_⟩
        have I23 := I22.drawn pl23 sb23
        have lob3 := vbx.but I22.pool sb23
        obtain ⟨ib, rfl, hib⟩ := bad_in mv
        clear I20 I21 I22 vbx lob s21 hr5 mv sb23 pl23
        (repeat array_get_dec)
        refine ⟨0, _, _, _, .num, rfl, .name _ _ ib hib, fun H24 s24 => ?_⟩
        have I24 := I23.same s24
        unfold wordK
        (repeat array_get_dec)
        refine ⟨2, _, _, _, .num, rfl, .saveN a fp D I24.dk (.int (-1)) (tl (Str.ofString "a")) (by decide +kernel) rfl, fun H25 s25 => ?_⟩
        have I25 := I24.same s25
        unfold wordK
        (repeat array_get_dec)
        refine ⟨2, _, _, _, .pap, rfl, .saveP a fp D I25.dk (num + 1) (by omega) (tl (Str.ofString "?")) (by decide +kernel) (I25.st.cp.less (by rw [I25.st.nm]; show 1 + 12 ≤ _; omega)) (by unfold goodT; decide +kernel), fun H26 s26 => ?_⟩
        have I26 := I25.same s26
        unfold wordK
        (repeat array_get_dec)
        refine ⟨a, fp, D, rfl, I26.dk, I26.st.cp.na, fun vz H27 s27 loz => ?_⟩
        rw [I26.st.load] at loz
        have lob4 := (((lob3.same s24).same s25).same s26).same s27
        obtain ⟨_, okz, dpz⟩ := loz.dp
        (repeat array_get_dec)
        exact .inl ⟨vz, vb, _, rfl, dpz _ _ loz, dpz _ _ lob4, okz, fun H28 _ => q H28⟩
end
end K54

namespace K54
open PySem PySem.Spec PyProof.Rows L2
def spLaw (K : PySem.W.Frag) : Sp := spRun K
section
variable {P : Program} {w : World} {K : PySem.W.Frag} {mg : Str → Option Value} {base : Heap}
theorem ok_law (M : Nms K mg) : FnOk P w K mg base CX0 9 M.a_law M.d_law ["script"] (spLaw K) := by
  refine M.F_law.ok sc_law (fun vs H Q E h => ?_) (fun cdv A outer s H vs Q E hr h => ?_)
  · obtain ⟨a, ns, rfl, _⟩ := h
    rfl
  · refine ⟨_, pss_one (ps_try_thru0 (pss_one (ps_ret (pe_call (ok__law_run M) (hr.mono (by decide)) rfl M.g__law_run M.k__law_run M.b__law_run .nil pass0 (pa_cons (pv 0) pa_nil))))), ?_⟩
    obtain ⟨sa, ns, rfl, hS, hn, q⟩ := h
    exact ⟨_, rfl, sa, ns, rfl, hS, hn, q⟩
end
end K54

namespace K54
open PySem PySem.Spec PyProof.Rows L2
/-! ### what the top has written, the head -/
theorem all_mk {P : Program} {w : World} {K : PySem.W.Frag} {h : Heap} {mg : Str → Option Value} {fa f1 f2 f3 f4 f5 f6 T6 f7 T7 f8 f9 f10 f11 f12 f13 f14 f15 f16 f17 f18 f19 f20 f21 f22 f23 f24 f25 f26 f27 f28 f29 f30 f31 f32 f33 f34 f35 f36 f37 f38 f39 f40 f41 f42 f43 f44 f45 f46 f47 f48 CD CE CP CU CN : Addr} (X : K.In h) (G : h.Ns mainGlobals mg) (hfa : mg "law" = some (.ref fa))
    {od1 an1 od2 an2 od3 an3 od4 an4 od5 an5 od6 an6 oD6 od7 an7 oD7 od8 an8 od9 an9 od10 an10 od11 an11 od12 an12 od13 an13 od14 an14 od15 an15 od16 an16 od17 an17 od18 an18 od19 an19 od20 an20 od21 an21 od22 an22 od23 an23 od24 an24 od25 an25 od26 an26 od27 an27 od28 an28 od29 an29 od30 an30 od31 an31 od32 an32 od33 an33 od34 an34 od35 an35 od36 an36 od37 an37 od38 an38 od39 an39 od40 an40 od41 an41 od42 an42 od43 an43 od44 an44 od45 an45 od46 an46 od47 an47 od48 an48 : Option Addr} {sl1 sl2 sl3 sl4 sl5 sl6 sT6 sl7 sT7 sl8 sl9 sl10 sl11 sl12 sl13 sl14 sl15 sl16 sl17 sl18 sl19 sl20 sl21 sl22 sl23 sl24 sl25 sl26 sl27 sl28 sl29 sl30 sl31 sl32 sl33 sl34 sl35 sl36 sl37 sl38 sl39 sl40 sl41 sl42 sl43 sl44 sl45 sl46 sl47 sl48 : Array (Option Value)} {oc1 kV1 dc1 pm1 cd1 ct1 oc2 kV2 dc2 pm2 cd2 ct2 oc3 kV3 dc3 pm3 cd3 ct3 oc4 kV4 dc4 pm4 cd4 ct4 oc5 kV5 dc5 pm5 cd5 ct5 oc6 kV6 dc6 pm6 cd6 ct6 oT6 oc7 kV7 dc7 pm7 cd7 ct7 oT7 oc8 kV8 dc8 pm8 cd8 ct8 oc9 kV9 dc9 pm9 cd9 ct9 oc10 kV10 dc10 pm10 cd10 ct10 oc11 kV11 dc11 pm11 cd11 ct11 oc12 kV12 dc12 pm12 cd12 ct12 oc13 kV13 dc13 pm13 cd13 ct13 oc14 kV14 dc14 pm14 cd14 ct14 oc15 kV15 dc15 pm15 cd15 ct15 oc16 kV16 dc16 pm16 cd16 ct16 oc17 kV17 dc17 pm17 cd17 ct17 oc18 kV18 dc18 pm18 cd18 ct18 oc19 kV19 dc19 pm19 cd19 ct19 oc20 kV20 dc20 pm20 cd20 ct20 oc21 kV21 dc21 pm21 cd21 ct21 oc22 kV22 dc22 pm22 cd22 ct22 oc23 kV23 dc23 pm23 cd23 ct23 oc24 kV24 dc24 pm24 cd24 ct24 oc25 kV25 dc25 pm25 cd25 ct25 oc26 kV26 dc26 pm26 cd26 ct26 oc27 kV27 dc27 pm27 cd27 ct27 oc28 kV28 dc28 pm28 cd28 ct28 oc29 kV29 dc29 pm29 cd29 ct29 oc30 kV30 dc30 pm30 cd30 ct30 oc31 kV31 dc31 pm31 cd31 ct31 oc32 kV32 dc32 pm32 cd32 ct32 oc33 kV33 dc33 pm33 cd33 ct33 oc34 kV34 dc34 pm34 cd34 ct34 oc35 kV35 dc35 pm35 cd35 ct35 oc36 kV36 dc36 pm36 cd36 ct36 oc37 kV37 dc37 pm37 cd37 ct37 oc38 kV38 dc38 pm38 cd38 ct38 oc39 kV39 dc39 pm39 cd39 ct39 oc40 kV40 dc40 pm40 cd40 ct40 oc41 kV41 dc41 pm41 cd41 ct41 oc42 kV42 dc42 pm42 cd42 ct42 oc43 kV43 dc43 pm43 cd43 ct43 oc44 kV44 dc44 pm44 cd44 ct44 oc45 kV45 dc45 pm45 cd45 ct45 oc46 kV46 dc46 pm46 cd46 ct46 oc47 kV47 dc47 pm47 cd47 ct47 oc48 kV48 dc48 pm48 cd48 ct48 : Value}
    {t6_0 t6_1 t7_0 t7_1 t_SPOILT t_ASIDE t_GREAT t_STEP t_MOST : Tok}
    {nT6 nT7 : Nat}
    (a1 : PySem.W.nsIn K mainGlobals "check_of" = some (some (.ref f1)))
    (a2 : PySem.W.nsIn K mainGlobals "checked_text" = some (some (.ref f2)))
    (a3 : PySem.W.nsIn K mainGlobals "framed" = some (some (.ref f3)))
    (a4 : PySem.W.nsIn K mainGlobals "_number" = some (some (.ref f4)))
    (a5 : PySem.W.nsIn K mainGlobals "one_frame" = some (some (.ref f5)))
    (a6 : PySem.W.nsIn K mainGlobals "is_number" = some (some (.ref f6)))
    (a7 : PySem.W.nsIn K mainGlobals "checked_number" = some (some (.ref f7)))
    (a8 : PySem.W.nsIn K mainGlobals "snap_name" = some (some (.ref f8)))
    (a9 : PySem.W.nsIn K mainGlobals "is_snap" = some (some (.ref f9)))
    (a10 : PySem.W.nsIn K mainGlobals "snap_names" = some (some (.ref f10)))
    (a11 : PySem.W.nsIn K mainGlobals "number_of" = some (some (.ref f11)))
    (a12 : PySem.W.nsIn K mainGlobals "write_aside" = some (some (.ref f12)))
    (a13 : PySem.W.nsIn K mainGlobals "name_it" = some (some (.ref f13)))
    (a14 : PySem.W.nsIn K mainGlobals "save" = some (some (.ref f14)))
    (a15 : PySem.W.nsIn K mainGlobals "drop_older" = some (some (.ref f15)))
    (a16 : PySem.W.nsIn K mainGlobals "whole_snap" = some (some (.ref f16)))
    (a17 : PySem.W.nsIn K mainGlobals "load" = some (some (.ref f17)))
    (a18 : PySem.W.nsIn K mainGlobals "clean" = some (some (.ref f18)))
    (a36 : PySem.W.nsIn K mainGlobals "applied" = some (some (.ref f36)))
    (a37 : PySem.W.nsIn K mainGlobals "checked_tears" = some (some (.ref f37)))
    (a38 : PySem.W.nsIn K mainGlobals "all_lost" = some (some (.ref f38)))
    (a39 : PySem.W.nsIn K mainGlobals "_law_same" = some (some (.ref f39)))
    (a40 : PySem.W.nsIn K mainGlobals "_law_pool" = some (some (.ref f40)))
    (a41 : PySem.W.nsIn K mainGlobals "_law_draw" = some (some (.ref f41)))
    (a42 : PySem.W.nsIn K mainGlobals "_law_pick" = some (some (.ref f42)))
    (a43 : PySem.W.nsIn K mainGlobals "_law_refusal" = some (some (.ref f43)))
    (a44 : PySem.W.nsIn K mainGlobals "_law_tears" = some (some (.ref f44)))
    (a45 : PySem.W.nsIn K mainGlobals "_law_either" = some (some (.ref f45)))
    (a46 : PySem.W.nsIn K mainGlobals "_law_refused" = some (some (.ref f46)))
    (a47 : PySem.W.nsIn K mainGlobals "_law_run" = some (some (.ref f47)))
    (a48 : PySem.W.nsIn K mainGlobals "law" = some (some (.ref f48)))
    (g_CD : PySem.W.nsIn K mainGlobals "Disk" = some (some (.ref CD)))
    (aE : PySem.W.nsIn K mainGlobals "DeskError" = some (some (.ref CE)))
    (a_CP : PySem.W.nsIn K mainGlobals "InvalidPaper" = some (some (.ref CP)))
    (a_CU : PySem.W.nsIn K mainGlobals "UnknownName" = some (some (.ref CU)))
    (a_CN : PySem.W.nsIn K mainGlobals "InvalidNumber" = some (some (.ref CN)))
    (z_len : PySem.W.nsIn K mainGlobals "len" = some none)
    (z_isinstance : PySem.W.nsIn K mainGlobals "isinstance" = some none)
    (z_str : PySem.W.nsIn K mainGlobals "str" = some none)
    (z_int : PySem.W.nsIn K mainGlobals "int" = some none)
    (z_list : PySem.W.nsIn K mainGlobals "list" = some none)
    (z_tuple : PySem.W.nsIn K mainGlobals "tuple" = some none)
    (z_bool : PySem.W.nsIn K mainGlobals "bool" = some none)
    (z_range : PySem.W.nsIn K mainGlobals "range" = some none)
    (z_abs : PySem.W.nsIn K mainGlobals "abs" = some none)
    (z_ord : PySem.W.nsIn K mainGlobals "ord" = some none)
    (z_sorted : PySem.W.nsIn K mainGlobals "sorted" = some none)
    (z_dict : PySem.W.nsIn K mainGlobals "dict" = some none)
    (z_reversed : PySem.W.nsIn K mainGlobals "reversed" = some none)
    (z_ValueError : PySem.W.nsIn K mainGlobals "ValueError" = some none)
    (n_SPOILT : PySem.W.nsIn K mainGlobals "SPOILT" = some (some (.str (Str.ofString "?") t_SPOILT)))
    (n_ASIDE : PySem.W.nsIn K mainGlobals "ASIDE" = some (some (.str (Str.ofString "snap.new") t_ASIDE)))
    (n_GREAT : PySem.W.nsIn K mainGlobals "GREAT" = some (some (.int 1000003 t_GREAT)))
    (n_STEP : PySem.W.nsIn K mainGlobals "STEP" = some (some (.int 8191 t_STEP)))
    (n_MOST : PySem.W.nsIn K mainGlobals "MOST" = some (some (.int 1000000 t_MOST)))
    (l1 : K.lookup f1 = some ⟨oc1, od1, .func (PySem.W.fnOf "check_of" "check_of" (defArgs s_check_of) (defBody s_check_of) (defScope s_check_of) .none kV1 dc1 pm1 an1 cd1 ct1), sl1⟩)
    (c1 : PySem.W.codeIn K cd1 "check_of" = true)
    (k1 : PySem.W.keepIn K (.ref f1) = true)
    (l2 : K.lookup f2 = some ⟨oc2, od2, .func (PySem.W.fnOf "checked_text" "checked_text" (defArgs s_checked_text) (defBody s_checked_text) (defScope s_checked_text) .none kV2 dc2 pm2 an2 cd2 ct2), sl2⟩)
    (c2 : PySem.W.codeIn K cd2 "checked_text" = true)
    (k2 : PySem.W.keepIn K (.ref f2) = true)
    (l3 : K.lookup f3 = some ⟨oc3, od3, .func (PySem.W.fnOf "framed" "framed" (defArgs s_framed) (defBody s_framed) (defScope s_framed) .none kV3 dc3 pm3 an3 cd3 ct3), sl3⟩)
    (c3 : PySem.W.codeIn K cd3 "framed" = true)
    (k3 : PySem.W.keepIn K (.ref f3) = true)
    (l4 : K.lookup f4 = some ⟨oc4, od4, .func (PySem.W.fnOf "_number" "_number" (defArgs s__number) (defBody s__number) (defScope s__number) .none kV4 dc4 pm4 an4 cd4 ct4), sl4⟩)
    (c4 : PySem.W.codeIn K cd4 "_number" = true)
    (k4 : PySem.W.keepIn K (.ref f4) = true)
    (l5 : K.lookup f5 = some ⟨oc5, od5, .func (PySem.W.fnOf "one_frame" "one_frame" (defArgs s_one_frame) (defBody s_one_frame) (defScope s_one_frame) .none kV5 dc5 pm5 an5 cd5 ct5), sl5⟩)
    (c5 : PySem.W.codeIn K cd5 "one_frame" = true)
    (k5 : PySem.W.keepIn K (.ref f5) = true)
    (l6 : K.lookup f6 = some ⟨oc6, od6, .func (PySem.W.fnOf "is_number" "is_number" (defArgs s_is_number) (defBody s_is_number) (defScope s_is_number) (.ref T6) kV6 dc6 pm6 an6 cd6 ct6), sl6⟩)
    (c6 : PySem.W.codeIn K cd6 "is_number" = true)
    (k6 : PySem.W.keepIn K (.ref f6) = true)
    (d6 : K.lookup T6 = some ⟨oT6, oD6, .seq #[.int 0 t6_0, .int 1000000 t6_1] nT6, sT6⟩)
    (l7 : K.lookup f7 = some ⟨oc7, od7, .func (PySem.W.fnOf "checked_number" "checked_number" (defArgs s_checked_number) (defBody s_checked_number) (defScope s_checked_number) (.ref T7) kV7 dc7 pm7 an7 cd7 ct7), sl7⟩)
    (c7 : PySem.W.codeIn K cd7 "checked_number" = true)
    (k7 : PySem.W.keepIn K (.ref f7) = true)
    (d7 : K.lookup T7 = some ⟨oT7, oD7, .seq #[.int 0 t7_0, .int 1000000 t7_1] nT7, sT7⟩)
    (l8 : K.lookup f8 = some ⟨oc8, od8, .func (PySem.W.fnOf "snap_name" "snap_name" (defArgs s_snap_name) (defBody s_snap_name) (defScope s_snap_name) .none kV8 dc8 pm8 an8 cd8 ct8), sl8⟩)
    (c8 : PySem.W.codeIn K cd8 "snap_name" = true)
    (k8 : PySem.W.keepIn K (.ref f8) = true)
    (l9 : K.lookup f9 = some ⟨oc9, od9, .func (PySem.W.fnOf "is_snap" "is_snap" (defArgs s_is_snap) (defBody s_is_snap) (defScope s_is_snap) .none kV9 dc9 pm9 an9 cd9 ct9), sl9⟩)
    (c9 : PySem.W.codeIn K cd9 "is_snap" = true)
    (k9 : PySem.W.keepIn K (.ref f9) = true)
    (l10 : K.lookup f10 = some ⟨oc10, od10, .func (PySem.W.fnOf "snap_names" "snap_names" (defArgs s_snap_names) (defBody s_snap_names) (defScope s_snap_names) .none kV10 dc10 pm10 an10 cd10 ct10), sl10⟩)
    (c10 : PySem.W.codeIn K cd10 "snap_names" = true)
    (k10 : PySem.W.keepIn K (.ref f10) = true)
    (l11 : K.lookup f11 = some ⟨oc11, od11, .func (PySem.W.fnOf "number_of" "number_of" (defArgs s_number_of) (defBody s_number_of) (defScope s_number_of) .none kV11 dc11 pm11 an11 cd11 ct11), sl11⟩)
    (c11 : PySem.W.codeIn K cd11 "number_of" = true)
    (k11 : PySem.W.keepIn K (.ref f11) = true)
    (l12 : K.lookup f12 = some ⟨oc12, od12, .func (PySem.W.fnOf "write_aside" "write_aside" (defArgs s_write_aside) (defBody s_write_aside) (defScope s_write_aside) .none kV12 dc12 pm12 an12 cd12 ct12), sl12⟩)
    (c12 : PySem.W.codeIn K cd12 "write_aside" = true)
    (k12 : PySem.W.keepIn K (.ref f12) = true)
    (l13 : K.lookup f13 = some ⟨oc13, od13, .func (PySem.W.fnOf "name_it" "name_it" (defArgs s_name_it) (defBody s_name_it) (defScope s_name_it) .none kV13 dc13 pm13 an13 cd13 ct13), sl13⟩)
    (c13 : PySem.W.codeIn K cd13 "name_it" = true)
    (k13 : PySem.W.keepIn K (.ref f13) = true)
    (l14 : K.lookup f14 = some ⟨oc14, od14, .func (PySem.W.fnOf "save" "save" (defArgs s_save) (defBody s_save) (defScope s_save) .none kV14 dc14 pm14 an14 cd14 ct14), sl14⟩)
    (c14 : PySem.W.codeIn K cd14 "save" = true)
    (k14 : PySem.W.keepIn K (.ref f14) = true)
    (l15 : K.lookup f15 = some ⟨oc15, od15, .func (PySem.W.fnOf "drop_older" "drop_older" (defArgs s_drop_older) (defBody s_drop_older) (defScope s_drop_older) .none kV15 dc15 pm15 an15 cd15 ct15), sl15⟩)
    (c15 : PySem.W.codeIn K cd15 "drop_older" = true)
    (k15 : PySem.W.keepIn K (.ref f15) = true)
    (l16 : K.lookup f16 = some ⟨oc16, od16, .func (PySem.W.fnOf "whole_snap" "whole_snap" (defArgs s_whole_snap) (defBody s_whole_snap) (defScope s_whole_snap) .none kV16 dc16 pm16 an16 cd16 ct16), sl16⟩)
    (c16 : PySem.W.codeIn K cd16 "whole_snap" = true)
    (k16 : PySem.W.keepIn K (.ref f16) = true)
    (l17 : K.lookup f17 = some ⟨oc17, od17, .func (PySem.W.fnOf "load" "load" (defArgs s_load) (defBody s_load) (defScope s_load) .none kV17 dc17 pm17 an17 cd17 ct17), sl17⟩)
    (c17 : PySem.W.codeIn K cd17 "load" = true)
    (k17 : PySem.W.keepIn K (.ref f17) = true)
    (l18 : K.lookup f18 = some ⟨oc18, od18, .func (PySem.W.fnOf "clean" "clean" (defArgs s_clean) (defBody s_clean) (defScope s_clean) .none kV18 dc18 pm18 an18 cd18 ct18), sl18⟩)
    (c18 : PySem.W.codeIn K cd18 "clean" = true)
    (k18 : PySem.W.keepIn K (.ref f18) = true)
    (a19 : PySem.W.findIn K (.ref CD) "__init__" = some (some (.ref f19)))
    (i19 : PySem.W.isFn K (.ref f19) = true)
    (l19 : K.lookup f19 = some ⟨oc19, od19, .func (PySem.W.fnOf "__init__" "Disk.__init__" (defArgs s_Disk___init__) (defBody s_Disk___init__) (defScope s_Disk___init__) .none kV19 dc19 pm19 an19 cd19 ct19), sl19⟩)
    (c19 : PySem.W.codeIn K cd19 "Disk.__init__" = true)
    (k19 : PySem.W.keepIn K (.ref f19) = true)
    (a20 : PySem.W.findIn K (.ref CD) "names" = some (some (.ref f20)))
    (i20 : PySem.W.isFn K (.ref f20) = true)
    (l20 : K.lookup f20 = some ⟨oc20, od20, .func (PySem.W.fnOf "names" "Disk.names" (defArgs s_Disk_names) (defBody s_Disk_names) (defScope s_Disk_names) .none kV20 dc20 pm20 an20 cd20 ct20), sl20⟩)
    (c20 : PySem.W.codeIn K cd20 "Disk.names" = true)
    (k20 : PySem.W.keepIn K (.ref f20) = true)
    (a21 : PySem.W.findIn K (.ref CD) "has" = some (some (.ref f21)))
    (i21 : PySem.W.isFn K (.ref f21) = true)
    (l21 : K.lookup f21 = some ⟨oc21, od21, .func (PySem.W.fnOf "has" "Disk.has" (defArgs s_Disk_has) (defBody s_Disk_has) (defScope s_Disk_has) .none kV21 dc21 pm21 an21 cd21 ct21), sl21⟩)
    (c21 : PySem.W.codeIn K cd21 "Disk.has" = true)
    (k21 : PySem.W.keepIn K (.ref f21) = true)
    (a22 : PySem.W.findIn K (.ref CD) "_file" = some (some (.ref f22)))
    (i22 : PySem.W.isFn K (.ref f22) = true)
    (l22 : K.lookup f22 = some ⟨oc22, od22, .func (PySem.W.fnOf "_file" "Disk._file" (defArgs s_Disk__file) (defBody s_Disk__file) (defScope s_Disk__file) .none kV22 dc22 pm22 an22 cd22 ct22), sl22⟩)
    (c22 : PySem.W.codeIn K cd22 "Disk._file" = true)
    (k22 : PySem.W.keepIn K (.ref f22) = true)
    (a23 : PySem.W.findIn K (.ref CD) "read" = some (some (.ref f23)))
    (i23 : PySem.W.isFn K (.ref f23) = true)
    (l23 : K.lookup f23 = some ⟨oc23, od23, .func (PySem.W.fnOf "read" "Disk.read" (defArgs s_Disk_read) (defBody s_Disk_read) (defScope s_Disk_read) .none kV23 dc23 pm23 an23 cd23 ct23), sl23⟩)
    (c23 : PySem.W.codeIn K cd23 "Disk.read" = true)
    (k23 : PySem.W.keepIn K (.ref f23) = true)
    (a24 : PySem.W.findIn K (.ref CD) "make" = some (some (.ref f24)))
    (i24 : PySem.W.isFn K (.ref f24) = true)
    (l24 : K.lookup f24 = some ⟨oc24, od24, .func (PySem.W.fnOf "make" "Disk.make" (defArgs s_Disk_make) (defBody s_Disk_make) (defScope s_Disk_make) .none kV24 dc24 pm24 an24 cd24 ct24), sl24⟩)
    (c24 : PySem.W.codeIn K cd24 "Disk.make" = true)
    (k24 : PySem.W.keepIn K (.ref f24) = true)
    (a25 : PySem.W.findIn K (.ref CD) "_change" = some (some (.ref f25)))
    (i25 : PySem.W.isFn K (.ref f25) = true)
    (l25 : K.lookup f25 = some ⟨oc25, od25, .func (PySem.W.fnOf "_change" "Disk._change" (defArgs s_Disk__change) (defBody s_Disk__change) (defScope s_Disk__change) .none kV25 dc25 pm25 an25 cd25 ct25), sl25⟩)
    (c25 : PySem.W.codeIn K cd25 "Disk._change" = true)
    (k25 : PySem.W.keepIn K (.ref f25) = true)
    (a26 : PySem.W.findIn K (.ref CD) "write" = some (some (.ref f26)))
    (i26 : PySem.W.isFn K (.ref f26) = true)
    (l26 : K.lookup f26 = some ⟨oc26, od26, .func (PySem.W.fnOf "write" "Disk.write" (defArgs s_Disk_write) (defBody s_Disk_write) (defScope s_Disk_write) .none kV26 dc26 pm26 an26 cd26 ct26), sl26⟩)
    (c26 : PySem.W.codeIn K cd26 "Disk.write" = true)
    (k26 : PySem.W.keepIn K (.ref f26) = true)
    (a27 : PySem.W.findIn K (.ref CD) "sync" = some (some (.ref f27)))
    (i27 : PySem.W.isFn K (.ref f27) = true)
    (l27 : K.lookup f27 = some ⟨oc27, od27, .func (PySem.W.fnOf "sync" "Disk.sync" (defArgs s_Disk_sync) (defBody s_Disk_sync) (defScope s_Disk_sync) .none kV27 dc27 pm27 an27 cd27 ct27), sl27⟩)
    (c27 : PySem.W.codeIn K cd27 "Disk.sync" = true)
    (k27 : PySem.W.keepIn K (.ref f27) = true)
    (a28 : PySem.W.findIn K (.ref CD) "sync_names" = some (some (.ref f28)))
    (i28 : PySem.W.isFn K (.ref f28) = true)
    (l28 : K.lookup f28 = some ⟨oc28, od28, .func (PySem.W.fnOf "sync_names" "Disk.sync_names" (defArgs s_Disk_sync_names) (defBody s_Disk_sync_names) (defScope s_Disk_sync_names) .none kV28 dc28 pm28 an28 cd28 ct28), sl28⟩)
    (c28 : PySem.W.codeIn K cd28 "Disk.sync_names" = true)
    (k28 : PySem.W.keepIn K (.ref f28) = true)
    (a29 : PySem.W.findIn K (.ref CD) "move" = some (some (.ref f29)))
    (i29 : PySem.W.isFn K (.ref f29) = true)
    (l29 : K.lookup f29 = some ⟨oc29, od29, .func (PySem.W.fnOf "move" "Disk.move" (defArgs s_Disk_move) (defBody s_Disk_move) (defScope s_Disk_move) .none kV29 dc29 pm29 an29 cd29 ct29), sl29⟩)
    (c29 : PySem.W.codeIn K cd29 "Disk.move" = true)
    (k29 : PySem.W.keepIn K (.ref f29) = true)
    (a30 : PySem.W.findIn K (.ref CD) "remove" = some (some (.ref f30)))
    (i30 : PySem.W.isFn K (.ref f30) = true)
    (l30 : K.lookup f30 = some ⟨oc30, od30, .func (PySem.W.fnOf "remove" "Disk.remove" (defArgs s_Disk_remove) (defBody s_Disk_remove) (defScope s_Disk_remove) .none kV30 dc30 pm30 an30 cd30 ct30), sl30⟩)
    (c30 : PySem.W.codeIn K cd30 "Disk.remove" = true)
    (k30 : PySem.W.keepIn K (.ref f30) = true)
    (a31 : PySem.W.findIn K (.ref CD) "late_changes" = some (some (.ref f31)))
    (i31 : PySem.W.isFn K (.ref f31) = true)
    (l31 : K.lookup f31 = some ⟨oc31, od31, .func (PySem.W.fnOf "late_changes" "Disk.late_changes" (defArgs s_Disk_late_changes) (defBody s_Disk_late_changes) (defScope s_Disk_late_changes) .none kV31 dc31 pm31 an31 cd31 ct31), sl31⟩)
    (c31 : PySem.W.codeIn K cd31 "Disk.late_changes" = true)
    (k31 : PySem.W.keepIn K (.ref f31) = true)
    (a32 : PySem.W.findIn K (.ref CD) "late_size" = some (some (.ref f32)))
    (i32 : PySem.W.isFn K (.ref f32) = true)
    (l32 : K.lookup f32 = some ⟨oc32, od32, .func (PySem.W.fnOf "late_size" "Disk.late_size" (defArgs s_Disk_late_size) (defBody s_Disk_late_size) (defScope s_Disk_late_size) .none kV32 dc32 pm32 an32 cd32 ct32), sl32⟩)
    (c32 : PySem.W.codeIn K cd32 "Disk.late_size" = true)
    (k32 : PySem.W.keepIn K (.ref f32) = true)
    (a33 : PySem.W.findIn K (.ref CD) "late_files" = some (some (.ref f33)))
    (i33 : PySem.W.isFn K (.ref f33) = true)
    (l33 : K.lookup f33 = some ⟨oc33, od33, .func (PySem.W.fnOf "late_files" "Disk.late_files" (defArgs s_Disk_late_files) (defBody s_Disk_late_files) (defScope s_Disk_late_files) .none kV33 dc33 pm33 an33 cd33 ct33), sl33⟩)
    (c33 : PySem.W.codeIn K cd33 "Disk.late_files" = true)
    (k33 : PySem.W.keepIn K (.ref f33) = true)
    (a34 : PySem.W.findIn K (.ref CD) "copy" = some (some (.ref f34)))
    (i34 : PySem.W.isFn K (.ref f34) = true)
    (l34 : K.lookup f34 = some ⟨oc34, od34, .func (PySem.W.fnOf "copy" "Disk.copy" (defArgs s_Disk_copy) (defBody s_Disk_copy) (defScope s_Disk_copy) .none kV34 dc34 pm34 an34 cd34 ct34), sl34⟩)
    (c34 : PySem.W.codeIn K cd34 "Disk.copy" = true)
    (k34 : PySem.W.keepIn K (.ref f34) = true)
    (a35 : PySem.W.findIn K (.ref CD) "cut_off" = some (some (.ref f35)))
    (i35 : PySem.W.isFn K (.ref f35) = true)
    (l35 : K.lookup f35 = some ⟨oc35, od35, .func (PySem.W.fnOf "cut_off" "Disk.cut_off" (defArgs s_Disk_cut_off) (defBody s_Disk_cut_off) (defScope s_Disk_cut_off) .none kV35 dc35 pm35 an35 cd35 ct35), sl35⟩)
    (c35 : PySem.W.codeIn K cd35 "Disk.cut_off" = true)
    (k35 : PySem.W.keepIn K (.ref f35) = true)
    (l36 : K.lookup f36 = some ⟨oc36, od36, .func (PySem.W.fnOf "applied" "applied" (defArgs s_applied) (defBody s_applied) (defScope s_applied) .none kV36 dc36 pm36 an36 cd36 ct36), sl36⟩)
    (c36 : PySem.W.codeIn K cd36 "applied" = true)
    (k36 : PySem.W.keepIn K (.ref f36) = true)
    (l37 : K.lookup f37 = some ⟨oc37, od37, .func (PySem.W.fnOf "checked_tears" "checked_tears" (defArgs s_checked_tears) (defBody s_checked_tears) (defScope s_checked_tears) .none kV37 dc37 pm37 an37 cd37 ct37), sl37⟩)
    (c37 : PySem.W.codeIn K cd37 "checked_tears" = true)
    (k37 : PySem.W.keepIn K (.ref f37) = true)
    (l38 : K.lookup f38 = some ⟨oc38, od38, .func (PySem.W.fnOf "all_lost" "all_lost" (defArgs s_all_lost) (defBody s_all_lost) (defScope s_all_lost) .none kV38 dc38 pm38 an38 cd38 ct38), sl38⟩)
    (c38 : PySem.W.codeIn K cd38 "all_lost" = true)
    (k38 : PySem.W.keepIn K (.ref f38) = true)
    (l39 : K.lookup f39 = some ⟨oc39, od39, .func (PySem.W.fnOf "_law_same" "_law_same" (defArgs s__law_same) (defBody s__law_same) (defScope s__law_same) .none kV39 dc39 pm39 an39 cd39 ct39), sl39⟩)
    (c39 : PySem.W.codeIn K cd39 "_law_same" = true)
    (k39 : PySem.W.keepIn K (.ref f39) = true)
    (l40 : K.lookup f40 = some ⟨oc40, od40, .func (PySem.W.fnOf "_law_pool" "_law_pool" (defArgs s__law_pool) (defBody s__law_pool) (defScope s__law_pool) .none kV40 dc40 pm40 an40 cd40 ct40), sl40⟩)
    (c40 : PySem.W.codeIn K cd40 "_law_pool" = true)
    (k40 : PySem.W.keepIn K (.ref f40) = true)
    (l41 : K.lookup f41 = some ⟨oc41, od41, .func (PySem.W.fnOf "_law_draw" "_law_draw" (defArgs s__law_draw) (defBody s__law_draw) (defScope s__law_draw) .none kV41 dc41 pm41 an41 cd41 ct41), sl41⟩)
    (c41 : PySem.W.codeIn K cd41 "_law_draw" = true)
    (k41 : PySem.W.keepIn K (.ref f41) = true)
    (l42 : K.lookup f42 = some ⟨oc42, od42, .func (PySem.W.fnOf "_law_pick" "_law_pick" (defArgs s__law_pick) (defBody s__law_pick) (defScope s__law_pick) .none kV42 dc42 pm42 an42 cd42 ct42), sl42⟩)
    (c42 : PySem.W.codeIn K cd42 "_law_pick" = true)
    (k42 : PySem.W.keepIn K (.ref f42) = true)
    (l43 : K.lookup f43 = some ⟨oc43, od43, .func (PySem.W.fnOf "_law_refusal" "_law_refusal" (defArgs s__law_refusal) (defBody s__law_refusal) (defScope s__law_refusal) .none kV43 dc43 pm43 an43 cd43 ct43), sl43⟩)
    (c43 : PySem.W.codeIn K cd43 "_law_refusal" = true)
    (k43 : PySem.W.keepIn K (.ref f43) = true)
    (l44 : K.lookup f44 = some ⟨oc44, od44, .func (PySem.W.fnOf "_law_tears" "_law_tears" (defArgs s__law_tears) (defBody s__law_tears) (defScope s__law_tears) .none kV44 dc44 pm44 an44 cd44 ct44), sl44⟩)
    (c44 : PySem.W.codeIn K cd44 "_law_tears" = true)
    (k44 : PySem.W.keepIn K (.ref f44) = true)
    (l45 : K.lookup f45 = some ⟨oc45, od45, .func (PySem.W.fnOf "_law_either" "_law_either" (defArgs s__law_either) (defBody s__law_either) (defScope s__law_either) .none kV45 dc45 pm45 an45 cd45 ct45), sl45⟩)
    (c45 : PySem.W.codeIn K cd45 "_law_either" = true)
    (k45 : PySem.W.keepIn K (.ref f45) = true)
    (l46 : K.lookup f46 = some ⟨oc46, od46, .func (PySem.W.fnOf "_law_refused" "_law_refused" (defArgs s__law_refused) (defBody s__law_refused) (defScope s__law_refused) .none kV46 dc46 pm46 an46 cd46 ct46), sl46⟩)
    (c46 : PySem.W.codeIn K cd46 "_law_refused" = true)
    (k46 : PySem.W.keepIn K (.ref f46) = true)
    (l47 : K.lookup f47 = some ⟨oc47, od47, .func (PySem.W.fnOf "_law_run" "_law_run" (defArgs s__law_run) (defBody s__law_run) (defScope s__law_run) .none kV47 dc47 pm47 an47 cd47 ct47), sl47⟩)
    (c47 : PySem.W.codeIn K cd47 "_law_run" = true)
    (k47 : PySem.W.keepIn K (.ref f47) = true)
    (l48 : K.lookup f48 = some ⟨oc48, od48, .func (PySem.W.fnOf "law" "law" (defArgs s_law) (defBody s_law) (defScope s_law) .none kV48 dc48 pm48 an48 cd48 ct48), sl48⟩)
    (c48 : PySem.W.codeIn K cd48 "law" = true)
    (k48 : PySem.W.keepIn K (.ref f48) = true)
    (pg_CD : PySem.W.plainGet K CD Str.empty = true)
    (hd_CD : PySem.W.hasDictIn K CD = true)
    (po_CD : PySem.W.plainOver K CD = true)
    (sa_CD : PySem.W.findIn K (.ref CD) "__setattr__" = some (some (.builtin "object.__setattr__")))
    (mk_CD : PySem.W.makesIn K CD = true)
    (kc_CD : PySem.W.keepIn K (.ref CD) = true)
    (n_CD_kept : PySem.W.findIn K (.ref CD) "_kept" = some none)
    (n_CD_late : PySem.W.findIn K (.ref CD) "_late" = some none)
    (n_CD_names : PySem.W.findIn K (.ref CD) "_names" = some none)
    (n_CD_sure : PySem.W.findIn K (.ref CD) "_sure" = some none)
    (n_CD_changes : PySem.W.findIn K (.ref CD) "_changes" = some none)
    (n_CD_next : PySem.W.findIn K (.ref CD) "_next" = some none)
    (bE : PySem.W.subIn K (.ref CE) (.type "BaseException") = some true)
    (tE : PySem.W.typeIn K (.ref CE) = some (.type "type"))
    (hE : PySem.W.hasDictIn K CE = true)
    (x_CP : PySem.W.excIn K CP [.type "ValueError", .type "Exception", .type "BaseException", .type "object"] "ValueError.__new__" = true)
    (k_CP : PySem.W.keepIn K (.ref CP) = true)
    (b_CP : PySem.W.subIn K (.ref CP) (.type "BaseException") = some true)
    (t_CP : PySem.W.typeIn K (.ref CP) = some (.type "type"))
    (sD_CP : PySem.W.subIn K (.ref CP) (.ref CE) = some true)
    (sV_CP : PySem.W.subIn K (.ref CP) (.type "ValueError") = some true)
    (eg_CP : PySem.W.findIn K (.ref CP) "__getattribute__" = some (some (.builtin "BaseException.__getattribute__")))
    (ek_CP : PySem.W.findIn K (.ref CP) "__getattr__" = some none)
    (ed_CP : PySem.W.hasDictIn K CP = true)
    (ea_CP : PySem.W.findIn K (.ref CP) "__class__" = some (some (.builtin "object.__class__")))
    (en_CP : PySem.W.specialIn K (.builtin "object.__class__") "__get__" = some (some (.builtin "getset_descriptor.__get__")))
    (et_CP : PySem.W.takesIn K (.builtin "object.__class__") = some true)
    (em_CP : PySem.W.mroIn K CP (.type "object") = some true)
    (x_CU : PySem.W.excIn K CU [.type "ValueError", .type "Exception", .type "BaseException", .type "object"] "ValueError.__new__" = true)
    (k_CU : PySem.W.keepIn K (.ref CU) = true)
    (b_CU : PySem.W.subIn K (.ref CU) (.type "BaseException") = some true)
    (t_CU : PySem.W.typeIn K (.ref CU) = some (.type "type"))
    (sD_CU : PySem.W.subIn K (.ref CU) (.ref CE) = some true)
    (sV_CU : PySem.W.subIn K (.ref CU) (.type "ValueError") = some true)
    (eg_CU : PySem.W.findIn K (.ref CU) "__getattribute__" = some (some (.builtin "BaseException.__getattribute__")))
    (ek_CU : PySem.W.findIn K (.ref CU) "__getattr__" = some none)
    (ed_CU : PySem.W.hasDictIn K CU = true)
    (ea_CU : PySem.W.findIn K (.ref CU) "__class__" = some (some (.builtin "object.__class__")))
    (en_CU : PySem.W.specialIn K (.builtin "object.__class__") "__get__" = some (some (.builtin "getset_descriptor.__get__")))
    (et_CU : PySem.W.takesIn K (.builtin "object.__class__") = some true)
    (em_CU : PySem.W.mroIn K CU (.type "object") = some true)
    (x_CN : PySem.W.excIn K CN [.type "ValueError", .type "Exception", .type "BaseException", .type "object"] "ValueError.__new__" = true)
    (k_CN : PySem.W.keepIn K (.ref CN) = true)
    (b_CN : PySem.W.subIn K (.ref CN) (.type "BaseException") = some true)
    (t_CN : PySem.W.typeIn K (.ref CN) = some (.type "type"))
    (sD_CN : PySem.W.subIn K (.ref CN) (.ref CE) = some true)
    (sV_CN : PySem.W.subIn K (.ref CN) (.type "ValueError") = some true)
    (eg_CN : PySem.W.findIn K (.ref CN) "__getattribute__" = some (some (.builtin "BaseException.__getattribute__")))
    (ek_CN : PySem.W.findIn K (.ref CN) "__getattr__" = some none)
    (ed_CN : PySem.W.hasDictIn K CN = true)
    (ea_CN : PySem.W.findIn K (.ref CN) "__class__" = some (some (.builtin "object.__class__")))
    (en_CN : PySem.W.specialIn K (.builtin "object.__class__") "__get__" = some (some (.builtin "getset_descriptor.__get__")))
    (et_CN : PySem.W.takesIn K (.builtin "object.__class__") = some true)
    (em_CN : PySem.W.mroIn K CN (.type "object") = some true)
    (p_notUP : PySem.W.kitOne K (.ref CP) (.ref CU) = some false)
    (p_notPU : PySem.W.kitOne K (.ref CU) (.ref CP) = some false)
    (p_notNP : PySem.W.kitOne K (.ref CP) (.ref CN) = some false)
    (p_notPN : PySem.W.kitOne K (.ref CN) (.ref CP) = some false)
    (p_notNU : PySem.W.kitOne K (.ref CU) (.ref CN) = some false)
    (p_notUN : PySem.W.kitOne K (.ref CN) (.ref CU) = some false)
    : ∃ fd : FuncData, (∀ (s : Shared) (v : Value), BindsTo s fd ⟨[v], []⟩ [("script", v)]) ∧ ∀ base : Heap, K.In base → base.Ns mainGlobals mg → FnOk P w K mg base CX0 9 fa fd ["script"] (spLaw K) := by
  have e := hfa.symm.trans (PySem.W.mg_of X G a48)
  cases e
  have T : Blt mg := ⟨PySem.W.mg_none_of X G z_len, PySem.W.mg_none_of X G z_isinstance, PySem.W.mg_none_of X G z_str, PySem.W.mg_none_of X G z_int, PySem.W.mg_none_of X G z_list, PySem.W.mg_none_of X G z_tuple, PySem.W.mg_none_of X G z_bool, PySem.W.mg_none_of X G z_range, PySem.W.mg_none_of X G z_abs, PySem.W.mg_none_of X G z_ord, PySem.W.mg_none_of X G z_sorted, PySem.W.mg_none_of X G z_dict, PySem.W.mg_none_of X G z_reversed, PySem.W.mg_none_of X G z_ValueError⟩
  have F1 := fun_mk (st := s_check_of) l1 c1 k1
  have b1 := F1.binds (ps := ["text"]) fun _ _ _ _ _ _ us hl => match us, hl with | [_], _ => rfl
  have F2 := fun_mk (st := s_checked_text) l2 c2 k2
  have b2 := F2.binds (ps := ["text"]) fun _ _ _ _ _ _ us hl => match us, hl with | [_], _ => rfl
  have F3 := fun_mk (st := s_framed) l3 c3 k3
  have b3 := F3.binds (ps := ["text"]) fun _ _ _ _ _ _ us hl => match us, hl with | [_], _ => rfl
  have F4 := fun_mk (st := s__number) l4 c4 k4
  have b4 := F4.binds (ps := ["text", "at"]) fun _ _ _ _ _ _ us hl => match us, hl with | [_, _], _ => rfl
  have F5 := fun_mk (st := s_one_frame) l5 c5 k5
  have b5 := F5.binds (ps := ["text", "at"]) fun _ _ _ _ _ _ us hl => match us, hl with | [_, _], _ => rfl
  have F6 : FunD K "is_number" "is_number" (defArgs s_is_number) (defBody s_is_number) (defScope s_is_number) [.int 0, .int 1000000] [] f6 (PySem.W.fnOf "is_number" "is_number" (defArgs s_is_number) (defBody s_is_number) (defScope s_is_number) (.ref T6) kV6 dc6 pm6 an6 cd6 ct6) := ⟨⟨_, _, _, _, _, _, _, _, _, _, rfl, l6, c6, .inr ⟨by simp, _, _, [.int 0 t6_0, .int 1000000 t6_1], _, rfl, d6, rfl, .cons ⟨_, rfl⟩ (.cons ⟨_, rfl⟩ (.nil))⟩, .inl rfl⟩, k6⟩
  have b6 : Binds K (PySem.W.fnOf "is_number" "is_number" (defArgs s_is_number) (defBody s_is_number) (defScope s_is_number) (.ref T6) kV6 dc6 pm6 an6 cd6 ct6) ["value", "least", "most"] [] := by
    obtain ⟨ds, v, b⟩ := F6.binds1 (ps := ["value", "least", "most"]) 3 2 (by simp) rfl fun T kV doc pm an cdv ct us its hl hi => match us, its, hl, hi with | [_, _, _], [_, _], _, _ => ⟨_, rfl, rfl⟩
    cases v
    exact b
  have F7 : FunD K "checked_number" "checked_number" (defArgs s_checked_number) (defBody s_checked_number) (defScope s_checked_number) [.int 0, .int 1000000] [] f7 (PySem.W.fnOf "checked_number" "checked_number" (defArgs s_checked_number) (defBody s_checked_number) (defScope s_checked_number) (.ref T7) kV7 dc7 pm7 an7 cd7 ct7) := ⟨⟨_, _, _, _, _, _, _, _, _, _, rfl, l7, c7, .inr ⟨by simp, _, _, [.int 0 t7_0, .int 1000000 t7_1], _, rfl, d7, rfl, .cons ⟨_, rfl⟩ (.cons ⟨_, rfl⟩ (.nil))⟩, .inl rfl⟩, k7⟩
  have b7 : Binds K (PySem.W.fnOf "checked_number" "checked_number" (defArgs s_checked_number) (defBody s_checked_number) (defScope s_checked_number) (.ref T7) kV7 dc7 pm7 an7 cd7 ct7) ["value", "least", "most"] [] := by
    obtain ⟨ds, v, b⟩ := F7.binds1 (ps := ["value", "least", "most"]) 3 2 (by simp) rfl fun T kV doc pm an cdv ct us its hl hi => match us, its, hl, hi with | [_, _, _], [_, _], _, _ => ⟨_, rfl, rfl⟩
    cases v
    exact b
  have F8 := fun_mk (st := s_snap_name) l8 c8 k8
  have b8 := F8.binds (ps := ["number"]) fun _ _ _ _ _ _ us hl => match us, hl with | [_], _ => rfl
  have F9 := fun_mk (st := s_is_snap) l9 c9 k9
  have b9 := F9.binds (ps := ["name"]) fun _ _ _ _ _ _ us hl => match us, hl with | [_], _ => rfl
  have F10 := fun_mk (st := s_snap_names) l10 c10 k10
  have b10 := F10.binds (ps := ["disk"]) fun _ _ _ _ _ _ us hl => match us, hl with | [_], _ => rfl
  have F11 := fun_mk (st := s_number_of) l11 c11 k11
  have b11 := F11.binds (ps := ["name"]) fun _ _ _ _ _ _ us hl => match us, hl with | [_], _ => rfl
  have F12 := fun_mk (st := s_write_aside) l12 c12 k12
  have b12 := F12.binds (ps := ["disk", "text"]) fun _ _ _ _ _ _ us hl => match us, hl with | [_, _], _ => rfl
  have F13 := fun_mk (st := s_name_it) l13 c13 k13
  have b13 := F13.binds (ps := ["disk", "number"]) fun _ _ _ _ _ _ us hl => match us, hl with | [_, _], _ => rfl
  have F14 := fun_mk (st := s_save) l14 c14 k14
  have b14 := F14.binds (ps := ["disk", "number", "text"]) fun _ _ _ _ _ _ us hl => match us, hl with | [_, _, _], _ => rfl
  have F15 := fun_mk (st := s_drop_older) l15 c15 k15
  have b15 := F15.binds (ps := ["disk", "number"]) fun _ _ _ _ _ _ us hl => match us, hl with | [_, _], _ => rfl
  have F16 := fun_mk (st := s_whole_snap) l16 c16 k16
  have b16 := F16.binds (ps := ["disk", "name"]) fun _ _ _ _ _ _ us hl => match us, hl with | [_, _], _ => rfl
  have F17 := fun_mk (st := s_load) l17 c17 k17
  have b17 := F17.binds (ps := ["disk"]) fun _ _ _ _ _ _ us hl => match us, hl with | [_], _ => rfl
  have F18 := fun_mk (st := s_clean) l18 c18 k18
  have b18 := F18.binds (ps := ["disk"]) fun _ _ _ _ _ _ us hl => match us, hl with | [_], _ => rfl
  have F19 := fun_mk (st := s_Disk___init__) l19 c19 k19
  have b19 := F19.binds (ps := ["self"]) fun _ _ _ _ _ _ us hl => match us, hl with | [_], _ => rfl
  have F20 := fun_mk (st := s_Disk_names) l20 c20 k20
  have b20 := F20.binds (ps := ["self"]) fun _ _ _ _ _ _ us hl => match us, hl with | [_], _ => rfl
  have F21 := fun_mk (st := s_Disk_has) l21 c21 k21
  have b21 := F21.binds (ps := ["self", "name"]) fun _ _ _ _ _ _ us hl => match us, hl with | [_, _], _ => rfl
  have F22 := fun_mk (st := s_Disk__file) l22 c22 k22
  have b22 := F22.binds (ps := ["self", "name"]) fun _ _ _ _ _ _ us hl => match us, hl with | [_, _], _ => rfl
  have F23 := fun_mk (st := s_Disk_read) l23 c23 k23
  have b23 := F23.binds (ps := ["self", "name"]) fun _ _ _ _ _ _ us hl => match us, hl with | [_, _], _ => rfl
  have F24 := fun_mk (st := s_Disk_make) l24 c24 k24
  have b24 := F24.binds (ps := ["self", "name"]) fun _ _ _ _ _ _ us hl => match us, hl with | [_, _], _ => rfl
  have F25 := fun_mk (st := s_Disk__change) l25 c25 k25
  have b25 := F25.binds (ps := ["self", "row"]) fun _ _ _ _ _ _ us hl => match us, hl with | [_, _], _ => rfl
  have F26 := fun_mk (st := s_Disk_write) l26 c26 k26
  have b26 := F26.binds (ps := ["self", "name", "text"]) fun _ _ _ _ _ _ us hl => match us, hl with | [_, _, _], _ => rfl
  have F27 := fun_mk (st := s_Disk_sync) l27 c27 k27
  have b27 := F27.binds (ps := ["self", "name"]) fun _ _ _ _ _ _ us hl => match us, hl with | [_, _], _ => rfl
  have F28 := fun_mk (st := s_Disk_sync_names) l28 c28 k28
  have b28 := F28.binds (ps := ["self"]) fun _ _ _ _ _ _ us hl => match us, hl with | [_], _ => rfl
  have F29 := fun_mk (st := s_Disk_move) l29 c29 k29
  have b29 := F29.binds (ps := ["self", "one", "other"]) fun _ _ _ _ _ _ us hl => match us, hl with | [_, _, _], _ => rfl
  have F30 := fun_mk (st := s_Disk_remove) l30 c30 k30
  have b30 := F30.binds (ps := ["self", "name"]) fun _ _ _ _ _ _ us hl => match us, hl with | [_, _], _ => rfl
  have F31 := fun_mk (st := s_Disk_late_changes) l31 c31 k31
  have b31 := F31.binds (ps := ["self"]) fun _ _ _ _ _ _ us hl => match us, hl with | [_], _ => rfl
  have F32 := fun_mk (st := s_Disk_late_size) l32 c32 k32
  have b32 := F32.binds (ps := ["self", "name"]) fun _ _ _ _ _ _ us hl => match us, hl with | [_, _], _ => rfl
  have F33 := fun_mk (st := s_Disk_late_files) l33 c33 k33
  have b33 := F33.binds (ps := ["self"]) fun _ _ _ _ _ _ us hl => match us, hl with | [_], _ => rfl
  have F34 := fun_mk (st := s_Disk_copy) l34 c34 k34
  have b34 := F34.binds (ps := ["self"]) fun _ _ _ _ _ _ us hl => match us, hl with | [_], _ => rfl
  have F35 := fun_mk (st := s_Disk_cut_off) l35 c35 k35
  have b35 := F35.binds (ps := ["self", "changes", "tears"]) fun _ _ _ _ _ _ us hl => match us, hl with | [_, _, _], _ => rfl
  have F36 := fun_mk (st := s_applied) l36 c36 k36
  have b36 := F36.binds (ps := ["names", "changes"]) fun _ _ _ _ _ _ us hl => match us, hl with | [_, _], _ => rfl
  have F37 := fun_mk (st := s_checked_tears) l37 c37 k37
  have b37 := F37.binds (ps := ["disk", "changes", "tears"]) fun _ _ _ _ _ _ us hl => match us, hl with | [_, _, _], _ => rfl
  have F38 := fun_mk (st := s_all_lost) l38 c38 k38
  have b38 := F38.binds (ps := ["disk"]) fun _ _ _ _ _ _ us hl => match us, hl with | [_], _ => rfl
  have F39 := fun_mk (st := s__law_same) l39 c39 k39
  have b39 := F39.binds (ps := ["actual", "due"]) fun _ _ _ _ _ _ us hl => match us, hl with | [_, _], _ => rfl
  have F40 := fun_mk (st := s__law_pool) l40 c40 k40
  have b40 := F40.binds (ps := ["script"]) fun _ _ _ _ _ _ us hl => match us, hl with | [_], _ => rfl
  have F41 := fun_mk (st := s__law_draw) l41 c41 k41
  have b41 := F41.binds (ps := ["pool", "many"]) fun _ _ _ _ _ _ us hl => match us, hl with | [_, _], _ => rfl
  have F42 := fun_mk (st := s__law_pick) l42 c42 k42
  have b42 := F42.binds (ps := ["pool", "rows"]) fun _ _ _ _ _ _ us hl => match us, hl with | [_, _], _ => rfl
  have F43 := fun_mk (st := s__law_refusal) l43 c43 k43
  have b43 := F43.binds (ps := ["problem"]) fun _ _ _ _ _ _ us hl => match us, hl with | [_], _ => rfl
  have F44 := fun_mk (st := s__law_tears) l44 c44 k44
  have b44 := F44.binds (ps := ["pool", "disk"]) fun _ _ _ _ _ _ us hl => match us, hl with | [_, _], _ => rfl
  have F45 := fun_mk (st := s__law_either) l45 c45 k45
  have b45 := F45.binds (ps := ["pool", "disk", "old", "new"]) fun _ _ _ _ _ _ us hl => match us, hl with | [_, _, _, _], _ => rfl
  have F46 := fun_mk (st := s__law_refused) l46 c46 k46
  have b46 := F46.binds (ps := ["choice", "disk", "one", "two"]) fun _ _ _ _ _ _ us hl => match us, hl with | [_, _, _, _], _ => rfl
  have F47 := fun_mk (st := s__law_run) l47 c47 k47
  have b47 := F47.binds (ps := ["script"]) fun _ _ _ _ _ _ us hl => match us, hl with | [_], _ => rfl
  have F48 := fun_mk (st := s_law) l48 c48 k48
  have b48 := F48.binds (ps := ["script"]) fun _ _ _ _ _ _ us hl => match us, hl with | [_], _ => rfl
  have X_CP : ErrT K mg "InvalidPaper" CP := ⟨PySem.W.mg_of X G a_CP, x_CP, k_CP, b_CP, t_CP⟩
  have kV_CP : PySem.W.kitOne K (.ref CP) (.type "ValueError") = some true := by
    show (if (Value.ref CP == Value.type "ValueError") = true then some true else PySem.W.kitCls K (.ref CP) (.type "ValueError")) = some true
    rw [show (Value.ref CP == Value.type "ValueError") = false from rfl, if_neg Bool.false_ne_true]
    show (if PySem.W.kitMeta "ValueError" = true then PySem.W.subIn K (.ref CP) (.type "ValueError") else none) = some true
    rw [if_pos (show PySem.W.kitMeta "ValueError" = true by decide +kernel)]
    exact sV_CP
  have kC_CP : PySem.W.kitOne K (.ref CP) (.ref CP) = some true := if_pos (by simp)
  have Y_CP : CatchT K mg CE CP := ⟨PySem.W.mg_of X G aE, PySem.W.exm_ref bE hE tE sD_CP, ⟨eg_CP, ek_CP, b_CP, ed_CP, ea_CP, en_CP, et_CP, em_CP⟩, kC_CP, kV_CP, PySem.W.mg_none_of X G z_ValueError⟩
  have X_CU : ErrT K mg "UnknownName" CU := ⟨PySem.W.mg_of X G a_CU, x_CU, k_CU, b_CU, t_CU⟩
  have kV_CU : PySem.W.kitOne K (.ref CU) (.type "ValueError") = some true := by
    show (if (Value.ref CU == Value.type "ValueError") = true then some true else PySem.W.kitCls K (.ref CU) (.type "ValueError")) = some true
    rw [show (Value.ref CU == Value.type "ValueError") = false from rfl, if_neg Bool.false_ne_true]
    show (if PySem.W.kitMeta "ValueError" = true then PySem.W.subIn K (.ref CU) (.type "ValueError") else none) = some true
    rw [if_pos (show PySem.W.kitMeta "ValueError" = true by decide +kernel)]
    exact sV_CU
  have kC_CU : PySem.W.kitOne K (.ref CU) (.ref CU) = some true := if_pos (by simp)
  have Y_CU : CatchT K mg CE CU := ⟨PySem.W.mg_of X G aE, PySem.W.exm_ref bE hE tE sD_CU, ⟨eg_CU, ek_CU, b_CU, ed_CU, ea_CU, en_CU, et_CU, em_CU⟩, kC_CU, kV_CU, PySem.W.mg_none_of X G z_ValueError⟩
  have X_CN : ErrT K mg "InvalidNumber" CN := ⟨PySem.W.mg_of X G a_CN, x_CN, k_CN, b_CN, t_CN⟩
  have kV_CN : PySem.W.kitOne K (.ref CN) (.type "ValueError") = some true := by
    show (if (Value.ref CN == Value.type "ValueError") = true then some true else PySem.W.kitCls K (.ref CN) (.type "ValueError")) = some true
    rw [show (Value.ref CN == Value.type "ValueError") = false from rfl, if_neg Bool.false_ne_true]
    show (if PySem.W.kitMeta "ValueError" = true then PySem.W.subIn K (.ref CN) (.type "ValueError") else none) = some true
    rw [if_pos (show PySem.W.kitMeta "ValueError" = true by decide +kernel)]
    exact sV_CN
  have kC_CN : PySem.W.kitOne K (.ref CN) (.ref CN) = some true := if_pos (by simp)
  have Y_CN : CatchT K mg CE CN := ⟨PySem.W.mg_of X G aE, PySem.W.exm_ref bE hE tE sD_CN, ⟨eg_CN, ek_CN, b_CN, ed_CN, ea_CN, en_CN, et_CN, em_CN⟩, kC_CN, kV_CN, PySem.W.mg_none_of X G z_ValueError⟩
  let M : Nms K mg := { T := T, a_check_of := f1, d_check_of := PySem.W.fnOf "check_of" "check_of" (defArgs s_check_of) (defBody s_check_of) (defScope s_check_of) .none kV1 dc1 pm1 an1 cd1 ct1, b_check_of := b1, k_check_of := k1, F_check_of := F1, g_check_of := PySem.W.mg_of X G a1, a_checked_text := f2, d_checked_text := PySem.W.fnOf "checked_text" "checked_text" (defArgs s_checked_text) (defBody s_checked_text) (defScope s_checked_text) .none kV2 dc2 pm2 an2 cd2 ct2, b_checked_text := b2, k_checked_text := k2, F_checked_text := F2, g_checked_text := PySem.W.mg_of X G a2, a_framed := f3, d_framed := PySem.W.fnOf "framed" "framed" (defArgs s_framed) (defBody s_framed) (defScope s_framed) .none kV3 dc3 pm3 an3 cd3 ct3, b_framed := b3, k_framed := k3, F_framed := F3, g_framed := PySem.W.mg_of X G a3, a__number := f4, d__number := PySem.W.fnOf "_number" "_number" (defArgs s__number) (defBody s__number) (defScope s__number) .none kV4 dc4 pm4 an4 cd4 ct4, b__number := b4, k__number := k4, F__number := F4, g__number := PySem.W.mg_of X G a4, a_one_frame := f5, d_one_frame := PySem.W.fnOf "one_frame" "one_frame" (defArgs s_one_frame) (defBody s_one_frame) (defScope s_one_frame) .none kV5 dc5 pm5 an5 cd5 ct5, b_one_frame := b5, k_one_frame := k5, F_one_frame := F5, g_one_frame := PySem.W.mg_of X G a5, a_is_number := f6, d_is_number := PySem.W.fnOf "is_number" "is_number" (defArgs s_is_number) (defBody s_is_number) (defScope s_is_number) (.ref T6) kV6 dc6 pm6 an6 cd6 ct6, b_is_number := b6, k_is_number := k6, F_is_number := ⟨_, F6⟩, g_is_number := PySem.W.mg_of X G a6, a_checked_number := f7, d_checked_number := PySem.W.fnOf "checked_number" "checked_number" (defArgs s_checked_number) (defBody s_checked_number) (defScope s_checked_number) (.ref T7) kV7 dc7 pm7 an7 cd7 ct7, b_checked_number := b7, k_checked_number := k7, F_checked_number := ⟨_, F7⟩, g_checked_number := PySem.W.mg_of X G a7, a_snap_name := f8, d_snap_name := PySem.W.fnOf "snap_name" "snap_name" (defArgs s_snap_name) (defBody s_snap_name) (defScope s_snap_name) .none kV8 dc8 pm8 an8 cd8 ct8, b_snap_name := b8, k_snap_name := k8, F_snap_name := F8, g_snap_name := PySem.W.mg_of X G a8, a_is_snap := f9, d_is_snap := PySem.W.fnOf "is_snap" "is_snap" (defArgs s_is_snap) (defBody s_is_snap) (defScope s_is_snap) .none kV9 dc9 pm9 an9 cd9 ct9, b_is_snap := b9, k_is_snap := k9, F_is_snap := F9, g_is_snap := PySem.W.mg_of X G a9, a_snap_names := f10, d_snap_names := PySem.W.fnOf "snap_names" "snap_names" (defArgs s_snap_names) (defBody s_snap_names) (defScope s_snap_names) .none kV10 dc10 pm10 an10 cd10 ct10, b_snap_names := b10, k_snap_names := k10, F_snap_names := F10, g_snap_names := PySem.W.mg_of X G a10, a_number_of := f11, d_number_of := PySem.W.fnOf "number_of" "number_of" (defArgs s_number_of) (defBody s_number_of) (defScope s_number_of) .none kV11 dc11 pm11 an11 cd11 ct11, b_number_of := b11, k_number_of := k11, F_number_of := F11, g_number_of := PySem.W.mg_of X G a11, a_write_aside := f12, d_write_aside := PySem.W.fnOf "write_aside" "write_aside" (defArgs s_write_aside) (defBody s_write_aside) (defScope s_write_aside) .none kV12 dc12 pm12 an12 cd12 ct12, b_write_aside := b12, k_write_aside := k12, F_write_aside := F12, g_write_aside := PySem.W.mg_of X G a12, a_name_it := f13, d_name_it := PySem.W.fnOf "name_it" "name_it" (defArgs s_name_it) (defBody s_name_it) (defScope s_name_it) .none kV13 dc13 pm13 an13 cd13 ct13, b_name_it := b13, k_name_it := k13, F_name_it := F13, g_name_it := PySem.W.mg_of X G a13, a_save := f14, d_save := PySem.W.fnOf "save" "save" (defArgs s_save) (defBody s_save) (defScope s_save) .none kV14 dc14 pm14 an14 cd14 ct14, b_save := b14, k_save := k14, F_save := F14, g_save := PySem.W.mg_of X G a14, a_drop_older := f15, d_drop_older := PySem.W.fnOf "drop_older" "drop_older" (defArgs s_drop_older) (defBody s_drop_older) (defScope s_drop_older) .none kV15 dc15 pm15 an15 cd15 ct15, b_drop_older := b15, k_drop_older := k15, F_drop_older := F15, g_drop_older := PySem.W.mg_of X G a15, a_whole_snap := f16, d_whole_snap := PySem.W.fnOf "whole_snap" "whole_snap" (defArgs s_whole_snap) (defBody s_whole_snap) (defScope s_whole_snap) .none kV16 dc16 pm16 an16 cd16 ct16, b_whole_snap := b16, k_whole_snap := k16, F_whole_snap := F16, g_whole_snap := PySem.W.mg_of X G a16, a_load := f17, d_load := PySem.W.fnOf "load" "load" (defArgs s_load) (defBody s_load) (defScope s_load) .none kV17 dc17 pm17 an17 cd17 ct17, b_load := b17, k_load := k17, F_load := F17, g_load := PySem.W.mg_of X G a17, a_clean := f18, d_clean := PySem.W.fnOf "clean" "clean" (defArgs s_clean) (defBody s_clean) (defScope s_clean) .none kV18 dc18 pm18 an18 cd18 ct18, b_clean := b18, k_clean := k18, F_clean := F18, g_clean := PySem.W.mg_of X G a18, a_Disk___init__ := f19, d_Disk___init__ := PySem.W.fnOf "__init__" "Disk.__init__" (defArgs s_Disk___init__) (defBody s_Disk___init__) (defScope s_Disk___init__) .none kV19 dc19 pm19 an19 cd19 ct19, b_Disk___init__ := b19, k_Disk___init__ := k19, F_Disk___init__ := F19, a_Disk_names := f20, d_Disk_names := PySem.W.fnOf "names" "Disk.names" (defArgs s_Disk_names) (defBody s_Disk_names) (defScope s_Disk_names) .none kV20 dc20 pm20 an20 cd20 ct20, b_Disk_names := b20, k_Disk_names := k20, F_Disk_names := F20, a_Disk_has := f21, d_Disk_has := PySem.W.fnOf "has" "Disk.has" (defArgs s_Disk_has) (defBody s_Disk_has) (defScope s_Disk_has) .none kV21 dc21 pm21 an21 cd21 ct21, b_Disk_has := b21, k_Disk_has := k21, F_Disk_has := F21, a_Disk__file := f22, d_Disk__file := PySem.W.fnOf "_file" "Disk._file" (defArgs s_Disk__file) (defBody s_Disk__file) (defScope s_Disk__file) .none kV22 dc22 pm22 an22 cd22 ct22, b_Disk__file := b22, k_Disk__file := k22, F_Disk__file := F22, a_Disk_read := f23, d_Disk_read := PySem.W.fnOf "read" "Disk.read" (defArgs s_Disk_read) (defBody s_Disk_read) (defScope s_Disk_read) .none kV23 dc23 pm23 an23 cd23 ct23, b_Disk_read := b23, k_Disk_read := k23, F_Disk_read := F23, a_Disk_make := f24, d_Disk_make := PySem.W.fnOf "make" "Disk.make" (defArgs s_Disk_make) (defBody s_Disk_make) (defScope s_Disk_make) .none kV24 dc24 pm24 an24 cd24 ct24, b_Disk_make := b24, k_Disk_make := k24, F_Disk_make := F24, a_Disk__change := f25, d_Disk__change := PySem.W.fnOf "_change" "Disk._change" (defArgs s_Disk__change) (defBody s_Disk__change) (defScope s_Disk__change) .none kV25 dc25 pm25 an25 cd25 ct25, b_Disk__change := b25, k_Disk__change := k25, F_Disk__change := F25, a_Disk_write := f26, d_Disk_write := PySem.W.fnOf "write" "Disk.write" (defArgs s_Disk_write) (defBody s_Disk_write) (defScope s_Disk_write) .none kV26 dc26 pm26 an26 cd26 ct26, b_Disk_write := b26, k_Disk_write := k26, F_Disk_write := F26, a_Disk_sync := f27, d_Disk_sync := PySem.W.fnOf "sync" "Disk.sync" (defArgs s_Disk_sync) (defBody s_Disk_sync) (defScope s_Disk_sync) .none kV27 dc27 pm27 an27 cd27 ct27, b_Disk_sync := b27, k_Disk_sync := k27, F_Disk_sync := F27, a_Disk_sync_names := f28, d_Disk_sync_names := PySem.W.fnOf "sync_names" "Disk.sync_names" (defArgs s_Disk_sync_names) (defBody s_Disk_sync_names) (defScope s_Disk_sync_names) .none kV28 dc28 pm28 an28 cd28 ct28, b_Disk_sync_names := b28, k_Disk_sync_names := k28, F_Disk_sync_names := F28, a_Disk_move := f29, d_Disk_move := PySem.W.fnOf "move" "Disk.move" (defArgs s_Disk_move) (defBody s_Disk_move) (defScope s_Disk_move) .none kV29 dc29 pm29 an29 cd29 ct29, b_Disk_move := b29, k_Disk_move := k29, F_Disk_move := F29, a_Disk_remove := f30, d_Disk_remove := PySem.W.fnOf "remove" "Disk.remove" (defArgs s_Disk_remove) (defBody s_Disk_remove) (defScope s_Disk_remove) .none kV30 dc30 pm30 an30 cd30 ct30, b_Disk_remove := b30, k_Disk_remove := k30, F_Disk_remove := F30, a_Disk_late_changes := f31, d_Disk_late_changes := PySem.W.fnOf "late_changes" "Disk.late_changes" (defArgs s_Disk_late_changes) (defBody s_Disk_late_changes) (defScope s_Disk_late_changes) .none kV31 dc31 pm31 an31 cd31 ct31, b_Disk_late_changes := b31, k_Disk_late_changes := k31, F_Disk_late_changes := F31, a_Disk_late_size := f32, d_Disk_late_size := PySem.W.fnOf "late_size" "Disk.late_size" (defArgs s_Disk_late_size) (defBody s_Disk_late_size) (defScope s_Disk_late_size) .none kV32 dc32 pm32 an32 cd32 ct32, b_Disk_late_size := b32, k_Disk_late_size := k32, F_Disk_late_size := F32, a_Disk_late_files := f33, d_Disk_late_files := PySem.W.fnOf "late_files" "Disk.late_files" (defArgs s_Disk_late_files) (defBody s_Disk_late_files) (defScope s_Disk_late_files) .none kV33 dc33 pm33 an33 cd33 ct33, b_Disk_late_files := b33, k_Disk_late_files := k33, F_Disk_late_files := F33, a_Disk_copy := f34, d_Disk_copy := PySem.W.fnOf "copy" "Disk.copy" (defArgs s_Disk_copy) (defBody s_Disk_copy) (defScope s_Disk_copy) .none kV34 dc34 pm34 an34 cd34 ct34, b_Disk_copy := b34, k_Disk_copy := k34, F_Disk_copy := F34, a_Disk_cut_off := f35, d_Disk_cut_off := PySem.W.fnOf "cut_off" "Disk.cut_off" (defArgs s_Disk_cut_off) (defBody s_Disk_cut_off) (defScope s_Disk_cut_off) .none kV35 dc35 pm35 an35 cd35 ct35, b_Disk_cut_off := b35, k_Disk_cut_off := k35, F_Disk_cut_off := F35, a_applied := f36, d_applied := PySem.W.fnOf "applied" "applied" (defArgs s_applied) (defBody s_applied) (defScope s_applied) .none kV36 dc36 pm36 an36 cd36 ct36, b_applied := b36, k_applied := k36, F_applied := F36, g_applied := PySem.W.mg_of X G a36, a_checked_tears := f37, d_checked_tears := PySem.W.fnOf "checked_tears" "checked_tears" (defArgs s_checked_tears) (defBody s_checked_tears) (defScope s_checked_tears) .none kV37 dc37 pm37 an37 cd37 ct37, b_checked_tears := b37, k_checked_tears := k37, F_checked_tears := F37, g_checked_tears := PySem.W.mg_of X G a37, a_all_lost := f38, d_all_lost := PySem.W.fnOf "all_lost" "all_lost" (defArgs s_all_lost) (defBody s_all_lost) (defScope s_all_lost) .none kV38 dc38 pm38 an38 cd38 ct38, b_all_lost := b38, k_all_lost := k38, F_all_lost := F38, g_all_lost := PySem.W.mg_of X G a38, a__law_same := f39, d__law_same := PySem.W.fnOf "_law_same" "_law_same" (defArgs s__law_same) (defBody s__law_same) (defScope s__law_same) .none kV39 dc39 pm39 an39 cd39 ct39, b__law_same := b39, k__law_same := k39, F__law_same := F39, g__law_same := PySem.W.mg_of X G a39, a__law_pool := f40, d__law_pool := PySem.W.fnOf "_law_pool" "_law_pool" (defArgs s__law_pool) (defBody s__law_pool) (defScope s__law_pool) .none kV40 dc40 pm40 an40 cd40 ct40, b__law_pool := b40, k__law_pool := k40, F__law_pool := F40, g__law_pool := PySem.W.mg_of X G a40, a__law_draw := f41, d__law_draw := PySem.W.fnOf "_law_draw" "_law_draw" (defArgs s__law_draw) (defBody s__law_draw) (defScope s__law_draw) .none kV41 dc41 pm41 an41 cd41 ct41, b__law_draw := b41, k__law_draw := k41, F__law_draw := F41, g__law_draw := PySem.W.mg_of X G a41, a__law_pick := f42, d__law_pick := PySem.W.fnOf "_law_pick" "_law_pick" (defArgs s__law_pick) (defBody s__law_pick) (defScope s__law_pick) .none kV42 dc42 pm42 an42 cd42 ct42, b__law_pick := b42, k__law_pick := k42, F__law_pick := F42, g__law_pick := PySem.W.mg_of X G a42, a__law_refusal := f43, d__law_refusal := PySem.W.fnOf "_law_refusal" "_law_refusal" (defArgs s__law_refusal) (defBody s__law_refusal) (defScope s__law_refusal) .none kV43 dc43 pm43 an43 cd43 ct43, b__law_refusal := b43, k__law_refusal := k43, F__law_refusal := F43, g__law_refusal := PySem.W.mg_of X G a43, a__law_tears := f44, d__law_tears := PySem.W.fnOf "_law_tears" "_law_tears" (defArgs s__law_tears) (defBody s__law_tears) (defScope s__law_tears) .none kV44 dc44 pm44 an44 cd44 ct44, b__law_tears := b44, k__law_tears := k44, F__law_tears := F44, g__law_tears := PySem.W.mg_of X G a44, a__law_either := f45, d__law_either := PySem.W.fnOf "_law_either" "_law_either" (defArgs s__law_either) (defBody s__law_either) (defScope s__law_either) .none kV45 dc45 pm45 an45 cd45 ct45, b__law_either := b45, k__law_either := k45, F__law_either := F45, g__law_either := PySem.W.mg_of X G a45, a__law_refused := f46, d__law_refused := PySem.W.fnOf "_law_refused" "_law_refused" (defArgs s__law_refused) (defBody s__law_refused) (defScope s__law_refused) .none kV46 dc46 pm46 an46 cd46 ct46, b__law_refused := b46, k__law_refused := k46, F__law_refused := F46, g__law_refused := PySem.W.mg_of X G a46, a__law_run := f47, d__law_run := PySem.W.fnOf "_law_run" "_law_run" (defArgs s__law_run) (defBody s__law_run) (defScope s__law_run) .none kV47 dc47 pm47 an47 cd47 ct47, b__law_run := b47, k__law_run := k47, F__law_run := F47, g__law_run := PySem.W.mg_of X G a47, a_law := fa, d_law := PySem.W.fnOf "law" "law" (defArgs s_law) (defBody s_law) (defScope s_law) .none kV48 dc48 pm48 an48 cd48 ct48, b_law := b48, k_law := k48, F_law := F48, g_law := PySem.W.mg_of X G a48, CD := CD, gD := PySem.W.mg_of X G g_CD, clD := ⟨pg_CD, hd_CD, po_CD, sa_CD⟩, mkD := ⟨mk_CD, a19, i19, kc_CD⟩, nD_kept := n_CD_kept, nD_late := n_CD_late, nD_names := n_CD_names, nD_sure := n_CD_sure, nD_changes := n_CD_changes, nD_next := n_CD_next, m_Disk_names := ⟨a20, i20, k20⟩, m_Disk_has := ⟨a21, i21, k21⟩, m_Disk__file := ⟨a22, i22, k22⟩, m_Disk_read := ⟨a23, i23, k23⟩, m_Disk_make := ⟨a24, i24, k24⟩, m_Disk__change := ⟨a25, i25, k25⟩, m_Disk_write := ⟨a26, i26, k26⟩, m_Disk_sync := ⟨a27, i27, k27⟩, m_Disk_sync_names := ⟨a28, i28, k28⟩, m_Disk_move := ⟨a29, i29, k29⟩, m_Disk_remove := ⟨a30, i30, k30⟩, m_Disk_late_changes := ⟨a31, i31, k31⟩, m_Disk_late_size := ⟨a32, i32, k32⟩, m_Disk_late_files := ⟨a33, i33, k33⟩, m_Disk_copy := ⟨a34, i34, k34⟩, m_Disk_cut_off := ⟨a35, i35, k35⟩, CE := CE, CP := CP, XP := X_CP, YP := Y_CP, CU := CU, XU := X_CU, YU := Y_CU, CN := CN, XN := X_CN, YN := Y_CN, notUP := p_notUP, notPU := p_notPU, notNP := p_notNP, notPN := p_notPN, notNU := p_notNU, notUN := p_notUN, cSP := ⟨_, PySem.W.mg_of X G n_SPOILT⟩, cAS := ⟨_, PySem.W.mg_of X G n_ASIDE⟩, cGREAT := ⟨_, PySem.W.mg_of X G n_GREAT⟩, cSTEP := ⟨_, PySem.W.mg_of X G n_STEP⟩, cMO := ⟨_, PySem.W.mg_of X G n_MOST⟩ }
  exact ⟨M.d_law, fun s v => .of_eq rfl, fun base _ _ => ok_law M⟩
theorem walk {l : PySem.W.OpenLaw} {q : Program} {loose : List Str} {XP : (Str → Option Value) → Heap → Prop} {YP : World → Heap → Prop} {d : DefRec} {K : Params → PySem.W.Frag} (hn : l.most = some 63) (hdf : d.params.defaults = [])
    (hY : ∀ (w : World) (h : Heap), YP w h → (K w.params).In h)
    (F : ∀ (w : World) (mg : Str → Option Value) (fa : Addr) (h : Heap), (K w.params).In h → h.Ns mainGlobals mg → mg d.name = some (.ref fa) →
      ∃ fd : FuncData, (∀ (s : Shared) (u : Value), BindsTo s fd ⟨[u], []⟩ [("script", u)]) ∧ ∀ base : Heap, (K w.params).In base → base.Ns mainGlobals mg → FnOk l.prog w (K w.params) mg base CX0 9 fa fd ["script"] (spLaw (K w.params))) :
    PySem.W.WalkO q loose XP YP l.row.toRowW d [] (fun f vs => PySem.call f vs) :=
  L2.walk_of (n := 63) (k := 9) (x := "script") (CX := fun _ => CX0) (sp := fun w => spLaw (K w.params)) hn (by decide) hdf ⟨rfl, by decide, by decide⟩ hY F (fun _ _ a ns hl _ hS => ⟨a, ns, rfl, hS, hl, fun _ => rfl⟩) fun _ _ _ _ _ z => z
end K54


open PySem PySem.W PyProof.Rows in
set_option maxRecDepth 100000 in
set_option maxHeartbeats 0 in
theorem PySem.Challenge.cw_desksagree_k54_whole_snapshots_old_or_ne_holds : PySem.Challenge.rw_desksagree_k54_whole_snapshots_old_or_ne.Holds := by
  w_on; o_law; k_head; (case hw => w_witness2)
  k_fill
  refine K54.walk (l := PySem.Challenge.rw_desksagree_k54_whole_snapshots_old_or_ne) rfl rfl (fun w h Y => PySem.W.kIn_of Y) ?F
  case F =>
    intro w mg fa h KX G hmg
    refine' K54.all_mk KX G hmg ?a1 ?a2 ?a3 ?a4 ?a5 ?a6 ?a7 ?a8 ?a9 ?a10 ?a11 ?a12 ?a13 ?a14 ?a15 ?a16 ?a17 ?a18 ?a36 ?a37 ?a38 ?a39 ?a40 ?a41 ?a42 ?a43 ?a44 ?a45 ?a46 ?a47 ?a48 ?g_CD ?aE ?a_CP ?a_CU ?a_CN ?z_len ?z_isinstance ?z_str ?z_int ?z_list ?z_tuple ?z_bool ?z_range ?z_abs ?z_ord ?z_sorted ?z_dict ?z_reversed ?z_ValueError ?n_SPOILT ?n_ASIDE ?n_GREAT ?n_STEP ?n_MOST ?l1 ?c1 ?k1 ?l2 ?c2 ?k2 ?l3 ?c3 ?k3 ?l4 ?c4 ?k4 ?l5 ?c5 ?k5 ?l6 ?c6 ?k6 ?d6 ?l7 ?c7 ?k7 ?d7 ?l8 ?c8 ?k8 ?l9 ?c9 ?k9 ?l10 ?c10 ?k10 ?l11 ?c11 ?k11 ?l12 ?c12 ?k12 ?l13 ?c13 ?k13 ?l14 ?c14 ?k14 ?l15 ?c15 ?k15 ?l16 ?c16 ?k16 ?l17 ?c17 ?k17 ?l18 ?c18 ?k18 ?a19 ?i19 ?l19 ?c19 ?k19 ?a20 ?i20 ?l20 ?c20 ?k20 ?a21 ?i21 ?l21 ?c21 ?k21 ?a22 ?i22 ?l22 ?c22 ?k22 ?a23 ?i23 ?l23 ?c23 ?k23 ?a24 ?i24 ?l24 ?c24 ?k24 ?a25 ?i25 ?l25 ?c25 ?k25 ?a26 ?i26 ?l26 ?c26 ?k26 ?a27 ?i27 ?l27 ?c27 ?k27 ?a28 ?i28 ?l28 ?c28 ?k28 ?a29 ?i29 ?l29 ?c29 ?k29 ?a30 ?i30 ?l30 ?c30 ?k30 ?a31 ?i31 ?l31 ?c31 ?k31 ?a32 ?i32 ?l32 ?c32 ?k32 ?a33 ?i33 ?l33 ?c33 ?k33 ?a34 ?i34 ?l34 ?c34 ?k34 ?a35 ?i35 ?l35 ?c35 ?k35 ?l36 ?c36 ?k36 ?l37 ?c37 ?k37 ?l38 ?c38 ?k38 ?l39 ?c39 ?k39 ?l40 ?c40 ?k40 ?l41 ?c41 ?k41 ?l42 ?c42 ?k42 ?l43 ?c43 ?k43 ?l44 ?c44 ?k44 ?l45 ?c45 ?k45 ?l46 ?c46 ?k46 ?l47 ?c47 ?k47 ?l48 ?c48 ?k48 ?pg_CD ?hd_CD ?po_CD ?sa_CD ?mk_CD ?kc_CD ?n_CD_kept ?n_CD_late ?n_CD_names ?n_CD_sure ?n_CD_changes ?n_CD_next ?bE ?tE ?hE ?x_CP ?k_CP ?b_CP ?t_CP ?sD_CP ?sV_CP ?eg_CP ?ek_CP ?ed_CP ?ea_CP ?en_CP ?et_CP ?em_CP ?x_CU ?k_CU ?b_CU ?t_CU ?sD_CU ?sV_CU ?eg_CU ?ek_CU ?ed_CU ?ea_CU ?en_CU ?et_CU ?em_CU ?x_CN ?k_CN ?b_CN ?t_CN ?sD_CN ?sV_CN ?eg_CN ?ek_CN ?ed_CN ?ea_CN ?en_CN ?et_CN ?em_CN ?p_notUP ?p_notPU ?p_notNP ?p_notPN ?p_notNU ?p_notUN
    (case a1 => k_is)
    (case a2 => k_is)
    (case a3 => k_is)
    (case a4 => k_is)
    (case a5 => k_is)
    (case a6 => k_is)
    (case a7 => k_is)
    (case a8 => k_is)
    (case a9 => k_is)
    (case a10 => k_is)
    (case a11 => k_is)
    (case a12 => k_is)
    (case a13 => k_is)
    (case a14 => k_is)
    (case a15 => k_is)
    (case a16 => k_is)
    (case a17 => k_is)
    (case a18 => k_is)
    (case a36 => k_is)
    (case a37 => k_is)
    (case a38 => k_is)
    (case a39 => k_is)
    (case a40 => k_is)
    (case a41 => k_is)
    (case a42 => k_is)
    (case a43 => k_is)
    (case a44 => k_is)
    (case a45 => k_is)
    (case a46 => k_is)
    (case a47 => k_is)
    (case a48 => k_is)
    (case g_CD => k_is)
    (case aE => k_is)
    (case a_CP => k_is)
    (case a_CU => k_is)
    (case a_CN => k_is)
    (case z_len => k_is)
    (case z_isinstance => k_is)
    (case z_str => k_is)
    (case z_int => k_is)
    (case z_list => k_is)
    (case z_tuple => k_is)
    (case z_bool => k_is)
    (case z_range => k_is)
    (case z_abs => k_is)
    (case z_ord => k_is)
    (case z_sorted => k_is)
    (case z_dict => k_is)
    (case z_reversed => k_is)
    (case z_ValueError => k_is)
    (case n_SPOILT => k_is)
    (case n_ASIDE => k_is)
    (case n_GREAT => k_is)
    (case n_STEP => k_is)
    (case n_MOST => k_is)
    (case l1 => k_is)
    (case c1 => k_is)
    (case k1 => k_is)
    (case l2 => k_is)
    (case c2 => k_is)
    (case k2 => k_is)
    (case l3 => k_is)
    (case c3 => k_is)
    (case k3 => k_is)
    (case l4 => k_is)
    (case c4 => k_is)
    (case k4 => k_is)
    (case l5 => k_is)
    (case c5 => k_is)
    (case k5 => k_is)
    (case l6 => k_is)
    (case c6 => k_is)
    (case k6 => k_is)
    (case d6 => k_is)
    (case l7 => k_is)
    (case c7 => k_is)
    (case k7 => k_is)
    (case d7 => k_is)
    (case l8 => k_is)
    (case c8 => k_is)
    (case k8 => k_is)
    (case l9 => k_is)
    (case c9 => k_is)
    (case k9 => k_is)
    (case l10 => k_is)
    (case c10 => k_is)
    (case k10 => k_is)
    (case l11 => k_is)
    (case c11 => k_is)
    (case k11 => k_is)
    (case l12 => k_is)
    (case c12 => k_is)
    (case k12 => k_is)
    (case l13 => k_is)
    (case c13 => k_is)
    (case k13 => k_is)
    (case l14 => k_is)
    (case c14 => k_is)
    (case k14 => k_is)
    (case l15 => k_is)
    (case c15 => k_is)
    (case k15 => k_is)
    (case l16 => k_is)
    (case c16 => k_is)
    (case k16 => k_is)
    (case l17 => k_is)
    (case c17 => k_is)
    (case k17 => k_is)
    (case l18 => k_is)
    (case c18 => k_is)
    (case k18 => k_is)
    (case a19 => k_is)
    (case i19 => k_is)
    (case l19 => k_is)
    (case c19 => k_is)
    (case k19 => k_is)
    (case a20 => k_is)
    (case i20 => k_is)
    (case l20 => k_is)
    (case c20 => k_is)
    (case k20 => k_is)
    (case a21 => k_is)
    (case i21 => k_is)
    (case l21 => k_is)
    (case c21 => k_is)
    (case k21 => k_is)
    (case a22 => k_is)
    (case i22 => k_is)
    (case l22 => k_is)
    (case c22 => k_is)
    (case k22 => k_is)
    (case a23 => k_is)
    (case i23 => k_is)
    (case l23 => k_is)
    (case c23 => k_is)
    (case k23 => k_is)
    (case a24 => k_is)
    (case i24 => k_is)
    (case l24 => k_is)
    (case c24 => k_is)
    (case k24 => k_is)
    (case a25 => k_is)
    (case i25 => k_is)
    (case l25 => k_is)
    (case c25 => k_is)
    (case k25 => k_is)
    (case a26 => k_is)
    (case i26 => k_is)
    (case l26 => k_is)
    (case c26 => k_is)
    (case k26 => k_is)
    (case a27 => k_is)
    (case i27 => k_is)
    (case l27 => k_is)
    (case c27 => k_is)
    (case k27 => k_is)
    (case a28 => k_is)
    (case i28 => k_is)
    (case l28 => k_is)
    (case c28 => k_is)
    (case k28 => k_is)
    (case a29 => k_is)
    (case i29 => k_is)
    (case l29 => k_is)
    (case c29 => k_is)
    (case k29 => k_is)
    (case a30 => k_is)
    (case i30 => k_is)
    (case l30 => k_is)
    (case c30 => k_is)
    (case k30 => k_is)
    (case a31 => k_is)
    (case i31 => k_is)
    (case l31 => k_is)
    (case c31 => k_is)
    (case k31 => k_is)
    (case a32 => k_is)
    (case i32 => k_is)
    (case l32 => k_is)
    (case c32 => k_is)
    (case k32 => k_is)
    (case a33 => k_is)
    (case i33 => k_is)
    (case l33 => k_is)
    (case c33 => k_is)
    (case k33 => k_is)
    (case a34 => k_is)
    (case i34 => k_is)
    (case l34 => k_is)
    (case c34 => k_is)
    (case k34 => k_is)
    (case a35 => k_is)
    (case i35 => k_is)
    (case l35 => k_is)
    (case c35 => k_is)
    (case k35 => k_is)
    (case l36 => k_is)
    (case c36 => k_is)
    (case k36 => k_is)
    (case l37 => k_is)
    (case c37 => k_is)
    (case k37 => k_is)
    (case l38 => k_is)
    (case c38 => k_is)
    (case k38 => k_is)
    (case l39 => k_is)
    (case c39 => k_is)
    (case k39 => k_is)
    (case l40 => k_is)
    (case c40 => k_is)
    (case k40 => k_is)
    (case l41 => k_is)
    (case c41 => k_is)
    (case k41 => k_is)
    (case l42 => k_is)
    (case c42 => k_is)
    (case k42 => k_is)
    (case l43 => k_is)
    (case c43 => k_is)
    (case k43 => k_is)
    (case l44 => k_is)
    (case c44 => k_is)
    (case k44 => k_is)
    (case l45 => k_is)
    (case c45 => k_is)
    (case k45 => k_is)
    (case l46 => k_is)
    (case c46 => k_is)
    (case k46 => k_is)
    (case l47 => k_is)
    (case c47 => k_is)
    (case k47 => k_is)
    (case l48 => k_is)
    (case c48 => k_is)
    (case k48 => k_is)
    (case pg_CD => k_is)
    (case hd_CD => k_is)
    (case po_CD => k_is)
    (case sa_CD => k_is)
    (case mk_CD => k_is)
    (case kc_CD => k_is)
    (case n_CD_kept => k_is)
    (case n_CD_late => k_is)
    (case n_CD_names => k_is)
    (case n_CD_sure => k_is)
    (case n_CD_changes => k_is)
    (case n_CD_next => k_is)
    (case bE => k_is)
    (case tE => k_is)
    (case hE => k_is)
    (case x_CP => k_exc)
    (case k_CP => k_is)
    (case b_CP => k_is)
    (case t_CP => k_is)
    (case sD_CP => first | rfl | k_is)
    (case sV_CP => k_is)
    (case eg_CP => k_is)
    (case ek_CP => k_is)
    (case ed_CP => k_is)
    (case ea_CP => k_is)
    (case en_CP => k_is)
    (case et_CP => k_is)
    (case em_CP => k_is)
    (case x_CU => k_exc)
    (case k_CU => k_is)
    (case b_CU => k_is)
    (case t_CU => k_is)
    (case sD_CU => first | rfl | k_is)
    (case sV_CU => k_is)
    (case eg_CU => k_is)
    (case ek_CU => k_is)
    (case ed_CU => k_is)
    (case ea_CU => k_is)
    (case en_CU => k_is)
    (case et_CU => k_is)
    (case em_CU => k_is)
    (case x_CN => k_exc)
    (case k_CN => k_is)
    (case b_CN => k_is)
    (case t_CN => k_is)
    (case sD_CN => first | rfl | k_is)
    (case sV_CN => k_is)
    (case eg_CN => k_is)
    (case ek_CN => k_is)
    (case ed_CN => k_is)
    (case ea_CN => k_is)
    (case en_CN => k_is)
    (case et_CN => k_is)
    (case em_CN => k_is)
    (case p_notUP => kit_is)
    (case p_notPU => kit_is)
    (case p_notNP => kit_is)
    (case p_notPN => kit_is)
    (case p_notNU => kit_is)
    (case p_notUN => kit_is)

